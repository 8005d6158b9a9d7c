/- The calls hand back what the plain functions say. -/
import Derived.Test.YtndajeiecdmhnaaF
import Derived.Test.YtndajeiecdmhnaaGy
import Derived.Test.YtndajeiecdmhnaaC0
import Derived.Test.YtndajeiecdmhnaaC1
import Derived.Test.YtndajeiecdmhnaaC2
import Derived.Test.YtndajeiecdmhnaaC4
import Derived.Test.YtndajeiecdmhnaaC5
import Derived.Test.YtndajeiecdmhnaaC9
set_option linter.unusedVariables false
set_option maxHeartbeats 4000000
namespace Go.Proofs.Ytndajeiecdmhnaa
open Go.RowKit (Below)
attribute [local irreducible] OX QX CX EX OpY Calls CallsIn

/-! calx/calxlaw02.FireContradicts -/
set_option maxRecDepth 100000 in
theorem calxlaw02_FireContradicts_ok (p0 : TFire) (p1 : TSpot) (p2 : Int) (p3 : Int) (res : Bool) (h : calxlaw02_FireContradicts p0 p1 p2 p3 = some res) (W : World) (A0_4 : Option Addr) (n0_4 c0_4 : Nat) (hn0_4 : n0_4 = p0.fLooks.length) (hr0_4 : Rd W A0_4 n0_4 c0_4 (encL TLook_cells p0.fLooks)) :
    Calls Try.prog 5 [.agg #[.int .i64 p0.fRise, .int .i64 p0.fFall, .int .i64 p0.fUp, .int .i64 p0.fDown, .slice A0_4 n0_4 c0_4], .agg #[.int .i64 p1.fFoot, .int .i64 p1.fHour], .int .i64 p2, .int .i64 p3].toArray W fun e W2 => e = .returned (.bool res) ∧ Ext W W2 [] := by
  subst hn0_4
  unfold calxlaw02_FireContradicts at h
  refine calls_enter (m := 144) Try.func5 rfl rfl (Nat.le_of_ble_eq_true rfl) ?_
  refine cx_seq ?_
  refine cx_region ?_
  refine ox_box [.int .i64 p0.fRise, .int .i64 p0.fFall, .int .i64 p0.fUp, .int .i64 p0.fDown, .slice A0_4 p0.fLooks.length c0_4] rfl rfl rfl (fun b1 => ?_)
  refine ox_box [.int .i64 p1.fFoot, .int .i64 p1.fHour] rfl rfl rfl (fun b2 => ?_)
  refine ox_y rfl (y_assign_bool rfl) ?_
  refine ox_nil ?_
  refine ex_then ?_
  refine cx_seq ?_
  refine cx_seq ?_
  refine cx_region ?_
  refine ox_y rfl (y_loadN 0 [.int .i64 p0.fRise, .int .i64 p0.fFall, .int .i64 p0.fUp, .int .i64 p0.fDown, .slice A0_4 p0.fLooks.length c0_4] ag_24 rfl rfl rfl) ?_
  obtain ⟨y3, hy4, h⟩ := bind_some h
  refine ox_y rfl (y_call [.agg #[.int .i64 p0.fRise, .int .i64 p0.fFall, .int .i64 p0.fUp, .int .i64 p0.fDown, .slice A0_4 p0.fLooks.length c0_4]] go_11 rfl (fun W2 hW2 => calxlaw02_few_ok p0 y3 hy4 W2 A0_4 p0.fLooks.length c0_4 rfl ((RdL.arg hr0_4) W2 hW2)) rfl) ?_
  refine ox_y rfl (y_not rfl) ?_
  refine ox_nil ?_
  refine ex_then ?_
  rcases ite_some h with ⟨hp5, h⟩ | ⟨hp5, h⟩
  · refine cx_true (congrArg Value.bool hp5) ?_
    refine cx_seq ?_
    refine cx_region ?_
    obtain ⟨y6, hy7, h⟩ := bind_some h
    refine ox_y rfl (y_call [] go_13 rfl (fun W2 hW2 => calxlaw02_sanity_ok  y6 hy7 W2 ) rfl) ?_
    refine ox_y rfl (y_assign_bool rfl) ?_
    refine ox_nil ?_
    refine ex_then ?_
    refine cx_ret ?_
    refine ex_then_ret ?_
    obtain rfl := Option.some.inj h
    exact ex_res1 (.inl rfl) rfl (resV_tmp (v := .bool y6) rfl) (fun W2 hW2 => ⟨rfl, hW2.none⟩)
  · refine cx_false (congrArg Value.bool hp5) ?_
    refine cx_skip ?_
    refine ex_then ?_
    refine cx_seq ?_
    refine cx_region ?_
    refine ox_y rfl (y_loadN 0 [.int .i64 p0.fRise, .int .i64 p0.fFall, .int .i64 p0.fUp, .int .i64 p0.fDown, .slice A0_4 p0.fLooks.length c0_4] ag_24 rfl rfl rfl) ?_
    obtain ⟨y8, hy9, h⟩ := bind_some h
    refine ox_y rfl (y_call [.agg #[.int .i64 p0.fRise, .int .i64 p0.fFall, .int .i64 p0.fUp, .int .i64 p0.fDown, .slice A0_4 p0.fLooks.length c0_4]] go_15 rfl (fun W2 hW2 => fire_Clash_ok p0 y8 hy9 W2 A0_4 p0.fLooks.length c0_4 rfl ((RdL.arg hr0_4) W2 hW2)) rfl) ?_
    refine ox_y rfl (y_move_tuple rfl) ?_
    refine ox_y rfl (y_extract (vs := [.int .i64 y8.1, .int .i64 y8.2.1, .bool y8.2.2.1, .int .i64 y8.2.2.2]) (v := .int .i64 y8.1) rfl rfl) ?_
    refine ox_y rfl (y_extract (vs := [.int .i64 y8.1, .int .i64 y8.2.1, .bool y8.2.2.1, .int .i64 y8.2.2.2]) (v := .int .i64 y8.2.1) rfl rfl) ?_
    refine ox_y rfl (y_extract (vs := [.int .i64 y8.1, .int .i64 y8.2.1, .bool y8.2.2.1, .int .i64 y8.2.2.2]) (v := .bool y8.2.2.1) rfl rfl) ?_
    refine ox_y rfl (y_extract (vs := [.int .i64 y8.1, .int .i64 y8.2.1, .bool y8.2.2.1, .int .i64 y8.2.2.2]) (v := .int .i64 y8.2.2.2) rfl rfl) ?_
    refine ox_y rfl (y_assign_int rfl) ?_
    refine ox_y rfl (y_assign_int rfl) ?_
    refine ox_y rfl (y_assign_bool rfl) ?_
    refine ox_y rfl (y_assign_int rfl) ?_
    refine ox_nil ?_
    refine ex_then ?_
    refine cx_seq ?_
    refine cx_region ?_
    refine ox_y rfl (y_loadN 0 [.int .i64 p0.fRise, .int .i64 p0.fFall, .int .i64 p0.fUp, .int .i64 p0.fDown, .slice A0_4 p0.fLooks.length c0_4] ag_24 rfl rfl rfl) ?_
    obtain ⟨y10, hy11, h⟩ := bind_some h
    refine ox_call [.agg #[.int .i64 p0.fRise, .int .i64 p0.fFall, .int .i64 p0.fUp, .int .i64 p0.fDown, .slice A0_4 p0.fLooks.length c0_4]] _ _ _ rfl go_16 rfl (fun W2 hW2 => fire_Suspects_ok p0 y10 hy11 W2 A0_4 p0.fLooks.length c0_4 rfl ((RdL.arg hr0_4) W2 hW2)) ?_
    rintro ⟨A12, n14, c13⟩ hn15
    replace hn15 : n14 = y10.1.length := hn15; subst hn15
    refine ox_y rfl (y_move_tuple rfl) ?_
    refine ox_y rfl (y_extract (vs := [.slice A12 y10.1.length c13, .int .i64 y10.2]) (v := .slice A12 y10.1.length c13) rfl rfl) ?_
    refine ox_y rfl (y_extract (vs := [.slice A12 y10.1.length c13, .int .i64 y10.2]) (v := .int .i64 y10.2) rfl rfl) ?_
    refine ox_y rfl (y_assign_slice rfl) ?_
    refine ox_y rfl (y_assign_int rfl) ?_
    refine ox_nil ?_
    refine ex_then ?_
    refine cx_seq ?_
    refine cx_seq ?_
    refine cx_region ?_
    refine ox_y rfl (y_move_int rfl) ?_
    refine ox_y rfl (y_move_int rfl) ?_
    refine ox_y rfl (y_neq rfl rfl) ?_
    refine ox_nil ?_
    refine ex_then ?_
    rcases ite_some h with ⟨hp16, h⟩ | ⟨hp16, h⟩
    · refine cx_true (congrArg Value.bool hp16) ?_
      refine cx_seq ?_
      refine cx_region ?_
      refine ox_y rfl (y_assign_bool rfl) ?_
      refine ox_nil ?_
      refine ex_then ?_
      refine cx_ret ?_
      refine ex_then_ret ?_
      obtain rfl := Option.some.inj h
      exact ex_res1 (.inl rfl) rfl (resV_tmp (v := .bool false) rfl) (fun W2 hW2 => ⟨rfl, hW2.none⟩)
    · refine cx_false (congrArg Value.bool hp16) ?_
      refine cx_skip ?_
      refine ex_then ?_
      refine cx_seq ?_
      refine cx_seq ?_
      refine cx_region ?_
      refine ox_y rfl (y_move_int rfl) ?_
      refine ox_y rfl (y_neq rfl rfl) ?_
      refine ox_nil ?_
      refine ex_then ?_
      rcases ite_some h with ⟨hp17, h⟩ | ⟨hp17, h⟩
      · refine cx_true (congrArg Value.bool hp17) ?_
        refine cx_seq ?_
        refine cx_region ?_
        obtain ⟨y18, hy19, h⟩ := bind_some h
        refine ox_y rfl (y_call [] go_13 rfl (fun W2 hW2 => calxlaw02_sanity_ok  y18 hy19 W2 ) rfl) ?_
        refine ox_y rfl (y_assign_bool rfl) ?_
        refine ox_nil ?_
        refine ex_then ?_
        refine cx_ret ?_
        refine ex_then_ret ?_
        obtain rfl := Option.some.inj h
        exact ex_res1 (.inl rfl) rfl (resV_tmp (v := .bool y18) rfl) (fun W2 hW2 => ⟨rfl, hW2.none⟩)
      · refine cx_false (congrArg Value.bool hp17) ?_
        refine cx_skip ?_
        refine ex_then ?_
        refine cx_seq ?_
        refine cx_region ?_
        refine ox_y rfl (y_loadN 0 [.int .i64 p0.fRise, .int .i64 p0.fFall, .int .i64 p0.fUp, .int .i64 p0.fDown, .slice A0_4 p0.fLooks.length c0_4] ag_24 rfl rfl rfl) ?_
        refine ox_y rfl (y_loadN 1 [.int .i64 p1.fFoot, .int .i64 p1.fHour] ag_26 rfl rfl rfl) ?_
        obtain ⟨y20, hy21, h⟩ := bind_some h
        refine ox_y rfl (y_call [.agg #[.int .i64 p0.fRise, .int .i64 p0.fFall, .int .i64 p0.fUp, .int .i64 p0.fDown, .slice A0_4 p0.fLooks.length c0_4], .agg #[.int .i64 p1.fFoot, .int .i64 p1.fHour]] go_14 rfl (fun W2 hW2 => fire_Ends_ok p0 p1 y20 hy21 W2 A0_4 p0.fLooks.length c0_4 rfl ((RdL.arg hr0_4) W2 hW2)) rfl) ?_
        refine ox_y rfl (y_move_tuple rfl) ?_
        refine ox_y rfl (y_extract (vs := [.agg #[.int .i64 y20.1.fSpan.fLo, .int .i64 y20.1.fSpan.fHi, .int .i64 y20.1.fLow, .int .i64 y20.1.fHigh], .int .i64 y20.2]) (v := .agg #[.int .i64 y20.1.fSpan.fLo, .int .i64 y20.1.fSpan.fHi, .int .i64 y20.1.fLow, .int .i64 y20.1.fHigh]) rfl rfl) ?_
        refine ox_y rfl (y_extract (vs := [.agg #[.int .i64 y20.1.fSpan.fLo, .int .i64 y20.1.fSpan.fHi, .int .i64 y20.1.fLow, .int .i64 y20.1.fHigh], .int .i64 y20.2]) (v := .int .i64 y20.2) rfl rfl) ?_
        refine ox_alloc ze_36 rfl (fun b22 => ?_)
        refine ox_n rfl (y_storeN 3 [.int .i64 y20.1.fSpan.fLo, .int .i64 y20.1.fSpan.fHi, .int .i64 y20.1.fLow, .int .i64 y20.1.fHigh] sz_36 rfl (Nat.le_of_ble_eq_true rfl) rfl rfl rfl) ?_
        refine ox_y rfl (y_assign_int rfl) ?_
        refine ox_nil ?_
        refine ex_then ?_
        refine cx_seq ?_
        refine cx_seq ?_
        refine cx_region ?_
        refine ox_y rfl (y_move_int rfl) ?_
        refine ox_y rfl (y_eql rfl rfl) ?_
        refine ox_nil ?_
        refine ex_then ?_
        rcases ite_some h with ⟨hp23, h⟩ | ⟨hp23, h⟩
        · refine cx_true (congrArg Value.bool hp23) ?_
          refine cx_seq ?_
          refine cx_region ?_
          obtain ⟨y24, hy25, h⟩ := bind_some h
          refine ox_y rfl (y_call [] go_13 rfl (fun W2 hW2 => calxlaw02_sanity_ok  y24 hy25 W2 ) rfl) ?_
          refine ox_y rfl (y_assign_bool rfl) ?_
          refine ox_nil ?_
          refine ex_then ?_
          refine cx_ret ?_
          refine ex_then_ret ?_
          obtain rfl := Option.some.inj h
          exact ex_res1 (.inl rfl) rfl (resV_tmp (v := .bool y24) rfl) (fun W2 hW2 => ⟨rfl, hW2.none⟩)
        · refine cx_false (congrArg Value.bool hp23) ?_
          refine cx_skip ?_
          refine ex_then ?_
          refine cx_seq ?_
          refine cx_region ?_
          refine ox_y rfl (y_loadN 0 [.int .i64 p0.fRise, .int .i64 p0.fFall, .int .i64 p0.fUp, .int .i64 p0.fDown, .slice A0_4 p0.fLooks.length c0_4] ag_24 rfl rfl rfl) ?_
          refine ox_y rfl (y_move_int rfl) ?_
          refine ox_y rfl (y_move_int rfl) ?_
          obtain ⟨y26, hy27, h⟩ := bind_some h
          refine ox_y rfl (y_call [.agg #[.int .i64 p0.fRise, .int .i64 p0.fFall, .int .i64 p0.fUp, .int .i64 p0.fDown, .slice A0_4 p0.fLooks.length c0_4], .int .i64 p2, .int .i64 p3] go_28 rfl (fun W2 hW2 => fire_CheckClash_ok p0 p2 p3 y26 hy27 W2 A0_4 p0.fLooks.length c0_4 rfl ((RdL.arg hr0_4) W2 hW2)) rfl) ?_
          refine ox_y rfl (y_eql rfl rfl) ?_
          refine ox_y rfl (y_assign_bool rfl) ?_
          refine ox_nil ?_
          refine ex_then ?_
          refine cx_seq ?_
          refine cx_seq ?_
          refine cx_region ?_
          refine ox_y rfl (y_move_bool rfl) ?_
          refine ox_y rfl (y_move_int rfl) ?_
          refine ox_y rfl (y_eql rfl rfl) ?_
          refine ox_y rfl (y_neqb ub_4 rfl rfl) ?_
          refine ox_y rfl (y_move_bool rfl) ?_
          refine ox_join 12 (fun tm0 => (upd (upd (upd (upd (upd (upd (upd (upd tm0 4 (.pointer (some ⟨b1, 0, none⟩))) 8 (.bool false)) 9 (.int .i64 y8.1)) 10 (.int .i64 y8.2.1)) 11 (.bool y8.2.2.1)) 13 (.slice A12 y10.1.length c13)) 17 (.bool (y26 == 0))) 77 (.bool ((!(y8.2.2.1 == (y20.2 == 9))) || ((!y8.2.2.1) && ((y20.2 != 0) || (decide (0 < ((y10.1.length : Nat) : Int))))))))) (fun tm0 => ?_) (fun key => ?_)
          · refine ox_y rfl (y_move_bool rfl) ?_
            refine ox_join 6 (fun tm0 => (upd (upd (upd (upd (upd (upd (upd tm0 4 (.pointer (some ⟨b1, 0, none⟩))) 8 (.bool false)) 9 (.int .i64 y8.1)) 10 (.int .i64 y8.2.1)) 11 (.bool y8.2.2.1)) 13 (.slice A12 y10.1.length c13)) 84 (.bool (((!(y8.2.2.1 == (y20.2 == 9))) || ((!y8.2.2.1) && ((y20.2 != 0) || (decide (0 < ((y10.1.length : Nat) : Int)))))) || ((y26 == 0) && (!y8.2.2.1)))))) (fun tm0 => ?_) (fun key => ?_)
            · refine ox_y rfl (y_move_bool rfl) ?_
              obtain ⟨b31, hb32, h⟩ := bind_some h
              refine ox_join 9 (fun tm0 => (upd (upd (upd (upd (upd (upd tm0 4 (.pointer (some ⟨b1, 0, none⟩))) 8 (.bool false)) 9 (.int .i64 y8.1)) 10 (.int .i64 y8.2.1)) 13 (.slice A12 y10.1.length c13)) 94 (.bool b31))) (fun tm0 => ?_) (fun key => ?_)
              · refine ox_nil ?_
                refine ex_then ?_
                rcases ite_some h with ⟨hp33, h⟩ | ⟨hp33, h⟩
                · refine cx_true (congrArg Value.bool hp33) ?_
                  refine cx_seq ?_
                  refine cx_region ?_
                  refine ox_y rfl (y_assign_bool rfl) ?_
                  refine ox_nil ?_
                  refine ex_then ?_
                  refine cx_ret ?_
                  refine ex_then_ret ?_
                  obtain rfl := Option.some.inj h
                  exact ex_res1 (.inl rfl) rfl (resV_tmp (v := .bool false) rfl) (fun W2 hW2 => ⟨rfl, hW2.none⟩)
                · refine cx_false (congrArg Value.bool hp33) ?_
                  refine cx_skip ?_
                  refine ex_then ?_
                  refine cx_seq ?_
                  refine cx_seq ?_
                  refine cx_region ?_
                  refine ox_y rfl (y_assign_int rfl) ?_
                  refine ox_nil ?_
                  refine ex_then ?_
                  refine cx_block ?_
                  obtain ⟨u36, hl61, h⟩ := bind_some h
                  refine cx_loop (fun (s : (Bool × Int)) L tm => ∃ (tm0 : Nat → Value), L = [cellsR b1 24 [.int .i64 p0.fRise, .int .i64 p0.fFall, .int .i64 p0.fUp, .int .i64 p0.fDown, .slice A0_4 p0.fLooks.length c0_4], cellsR b2 26 [.int .i64 p1.fFoot, .int .i64 p1.fHour], rowR A12 c13 3 1 y10.1.length (encL cI y10.1), cellsR b22 36 [.int .i64 y20.1.fSpan.fLo, .int .i64 y20.1.fSpan.fHi, .int .i64 y20.1.fLow, .int .i64 y20.1.fHigh]] ∧ tm = (upd (upd (upd (upd (upd (upd (upd tm0 4 (.pointer (some ⟨b1, 0, none⟩))) 8 (.bool s.1)) 9 (.int .i64 y8.1)) 10 (.int .i64 y8.2.1)) 13 (.slice A12 y10.1.length c13)) 94 (.bool b31)) 18 (.int .i64 s.2))) (fun | (.inl s), e, L, tm => e = .ret ∧ ∃ (tm0 : Nat → Value), L = [cellsR b1 24 [.int .i64 p0.fRise, .int .i64 p0.fFall, .int .i64 p0.fUp, .int .i64 p0.fDown, .slice A0_4 p0.fLooks.length c0_4], cellsR b2 26 [.int .i64 p1.fFoot, .int .i64 p1.fHour], rowR A12 c13 3 1 y10.1.length (encL cI y10.1), cellsR b22 36 [.int .i64 y20.1.fSpan.fLo, .int .i64 y20.1.fSpan.fHi, .int .i64 y20.1.fLow, .int .i64 y20.1.fHigh]] ∧ tm = (upd (upd (upd (upd (upd (upd (upd tm0 4 (.pointer (some ⟨b1, 0, none⟩))) 8 (.bool s.1)) 9 (.int .i64 y8.1)) 10 (.int .i64 y8.2.1)) 13 (.slice A12 y10.1.length c13)) 94 (.bool b31)) 18 (.int .i64 s.2)) | (.inr s), e, L, tm => e = .exit 0 ∧ ∃ (tm0 : Nat → Value), L = [cellsR b1 24 [.int .i64 p0.fRise, .int .i64 p0.fFall, .int .i64 p0.fUp, .int .i64 p0.fDown, .slice A0_4 p0.fLooks.length c0_4], cellsR b2 26 [.int .i64 p1.fFoot, .int .i64 p1.fHour], rowR A12 c13 3 1 y10.1.length (encL cI y10.1), cellsR b22 36 [.int .i64 y20.1.fSpan.fLo, .int .i64 y20.1.fSpan.fHi, .int .i64 y20.1.fLow, .int .i64 y20.1.fHigh]] ∧ tm = (upd (upd (upd (upd (upd (upd (upd tm0 4 (.pointer (some ⟨b1, 0, none⟩))) 8 (.bool s.1)) 9 (.int .i64 y8.1)) 10 (.int .i64 y8.2.1)) 13 (.slice A12 y10.1.length c13)) 94 (.bool b31)) 18 (.int .i64 s.2))) hl61 ⟨_, rfl, (keep (keep (keep (keep (keep (keep (keep rfl rfl) rfl) rfl) rfl) rfl) rfl) rfl)⟩ ?_ ?_
                  · rintro s35 L tm st ⟨tm0_s35, rfl, rfl⟩ h
                    unfold calxlaw02_FireContradicts_l1 at h
                    refine cx_seq ?_
                    refine cx_seq ?_
                    refine cx_region ?_
                    refine ox_y rfl (y_move_int rfl) ?_
                    refine ox_y rfl (y_move_slice rfl) ?_
                    refine ox_y rfl (y_len (us := []) us_41 rfl) ?_
                    refine ox_y rfl (y_lss rfl rfl) ?_
                    refine ox_nil ?_
                    refine ex_then ?_
                    rcases ite_some h with ⟨hp37, h⟩ | ⟨hp37, h⟩
                    · refine cx_true (congrArg Value.bool hp37) ?_
                      refine cx_skip ?_
                      refine ex_then ?_
                      refine cx_seq ?_
                      refine cx_block ?_
                      refine cx_seq ?_
                      obtain ⟨hg39, h⟩ := guardO_some h
                      obtain ⟨y41, hy42, h⟩ := bind_some h
                      refine cx_drawsG [[], [], [], [1, 2], [1, 2, 3], [1, 2, 3, 4], [0, 1, 2, 3, 4, 5], [0, 1, 2, 3, 4, 5, 6], [0, 1, 2, 3, 4, 5, 6, 7], [0, 1, 2, 3, 4, 5, 6, 7], [], [0, 1, 2, 3, 4, 5, 6, 7, 8, 10], [0, 1, 2, 3, 4, 5, 6, 7, 8, 9, 10, 11]] [(none, 0, [true, true, true, true]), (none, 0, [true, true, true, true]), (none, 0, [true, true, true, true]), (none, 0, [true, true, true, true]), (none, 0, [true, true, true, true]), (none, 1, [true, true, true, true]), (none, 1, [true, true, true, true, true]), (none, 0, [true, true, true, true, true, true]), (none, 0, [true, true, true, true, true, true]), (none, 0, [true, true, true, true, true, true]), (none, 1, [true, true, true, true, false, false]), (some 6, 0, [true, true, true, true, true, true, true]), (none, 0, [true, true, true, true, true, true, true])] [⟨fun _ => .agg #[.int .i64 p0.fRise, .int .i64 p0.fFall, .int .i64 p0.fUp, .int .i64 p0.fDown, .slice A0_4 p0.fLooks.length c0_4], fun _ => noR, fun _ => []⟩, ⟨fun _ => .slice A12 y10.1.length c13, fun _ => noR, fun _ => []⟩, ⟨fun _ => .int .i64 s35.2, fun _ => noR, fun _ => []⟩, ⟨fun _ => slA A12 (Int.toNat s35.2 * 1), fun _ => noR, fun _ => []⟩, ⟨fun _ => .int .i64 (rdL y10.1 s35.2), fun _ => noR, fun _ => []⟩, ⟨fun ξ38 => .slice (some ⟨(ξ38 5 0).2.1, 0, none⟩) 1 1, fun _ => noR, fun ξ38 => [rowR (some ⟨(ξ38 5 0).2.1, 0, none⟩) 1 3 1 1 (encL cI [(rdL y10.1 s35.2)])]⟩, ⟨fun ξ38 => .tuple #[.agg #[.int .i64 y41.1.fRise, .int .i64 y41.1.fFall, .int .i64 y41.1.fUp, .int .i64 y41.1.fDown, .slice (ξ38 6 0).1 y41.1.fLooks.length (ξ38 6 0).2.2], .int .i64 y41.2], fun _ => noR, fun ξ38 => [rowR (ξ38 6 0).1 (ξ38 6 0).2.2 34 5 y41.1.fLooks.length (encL TLook_cells y41.1.fLooks)]⟩, ⟨fun ξ38 => .tuple #[.agg #[.int .i64 y41.1.fRise, .int .i64 y41.1.fFall, .int .i64 y41.1.fUp, .int .i64 y41.1.fDown, .slice (ξ38 6 0).1 y41.1.fLooks.length (ξ38 6 0).2.2], .int .i64 y41.2], fun _ => noR, fun _ => []⟩, ⟨fun ξ38 => .agg #[.int .i64 y41.1.fRise, .int .i64 y41.1.fFall, .int .i64 y41.1.fUp, .int .i64 y41.1.fDown, .slice (ξ38 6 0).1 y41.1.fLooks.length (ξ38 6 0).2.2], fun _ => noR, fun _ => []⟩, ⟨fun _ => .int .i64 y41.2, fun _ => noR, fun _ => []⟩, ⟨fun ξ38 => .pointer (some ⟨(ξ38 10 0).2.1, 0, none⟩), fun _ => noR, fun ξ38 => [cellsR (ξ38 10 0).2.1 24 [.int .i64 0, .int .i64 0, .int .i64 0, .int .i64 0, .slice none 0 0]]⟩, ⟨fun _ => undef, fun ξ38 => cellsR (ξ38 10 0).2.1 24 [.int .i64 y41.1.fRise, .int .i64 y41.1.fFall, .int .i64 y41.1.fUp, .int .i64 y41.1.fDown, .slice (ξ38 6 0).1 y41.1.fLooks.length (ξ38 6 0).2.2], fun _ => []⟩, ⟨fun _ => .int .i64 y41.2, fun _ => noR, fun _ => []⟩] 4 mixed (by kernel_rfl) (by kernel_rfl) ⟨⟨fun ξ38 ξ38' h => ⟨rfl, rfl, rfl⟩, fun _ => rfl⟩, ⟨fun ξ38 ξ38' h => ⟨rfl, rfl, rfl⟩, fun _ => rfl⟩, ⟨fun ξ38 ξ38' h => ⟨rfl, rfl, rfl⟩, fun _ => rfl⟩, ⟨fun ξ38 ξ38' h => ⟨rfl, rfl, rfl⟩, fun _ => rfl⟩, ⟨fun ξ38 ξ38' h => ⟨rfl, rfl, rfl⟩, fun _ => rfl⟩, ⟨fun ξ38 ξ38' h => ⟨by simp only [h 5 (.inl rfl)], rfl, by simp only [h 5 (.inl rfl)]⟩, fun _ => rfl⟩, ⟨fun ξ38 ξ38' h => ⟨by simp only [h 6 (.inl rfl)], rfl, by simp only [h 6 (.inl rfl)]⟩, fun _ => rfl⟩, ⟨fun ξ38 ξ38' h => ⟨by simp only [h 6 (.inr rfl)], rfl, rfl⟩, fun _ => rfl⟩, ⟨fun ξ38 ξ38' h => ⟨by simp only [h 6 (.inr rfl)], rfl, rfl⟩, fun _ => rfl⟩, ⟨fun ξ38 ξ38' h => ⟨rfl, rfl, rfl⟩, fun _ => rfl⟩, ⟨fun ξ38 ξ38' h => ⟨by simp only [h 10 (.inl rfl)], rfl, by simp only [h 10 (.inl rfl)]⟩, fun _ => rfl⟩, ⟨fun ξ38 ξ38' h => ⟨rfl, by simp only [h 6 (.inr rfl), h 10 (.inr rfl)], rfl⟩, fun _ => rfl⟩, ⟨fun ξ38 ξ38' h => ⟨rfl, rfl, rfl⟩, fun _ => rfl⟩, trivial⟩ rfl (fun ξ38 => ?_)
                      refine gx_o rfl (fun L2 => ?_) ?_
                      · dsimp only [maskL, List.cons_append, List.nil_append]
                        refine ox_y rfl (y_loadN 0 [.int .i64 p0.fRise, .int .i64 p0.fFall, .int .i64 p0.fUp, .int .i64 p0.fDown, .slice A0_4 p0.fLooks.length c0_4] ag_24 rfl rfl rfl) ?_
                        refine ox_nil ?_
                        exact ex_capG (fun _ => (none, 0, 0)) rfl (List.append_nil _)
                      dsimp only [aftL, List.set_cons_zero, List.set_cons_succ, List.nil_append, List.cons_append, List.append_nil]
                      refine gx_o rfl (fun L2 => ?_) ?_
                      · dsimp only [maskL, List.cons_append, List.nil_append]
                        refine ox_y rfl (y_move_slice rfl) ?_
                        refine ox_nil ?_
                        exact ex_capG (fun _ => (none, 0, 0)) rfl (List.append_nil _)
                      dsimp only [aftL, List.set_cons_zero, List.set_cons_succ, List.nil_append, List.cons_append, List.append_nil]
                      refine gx_o rfl (fun L2 => ?_) ?_
                      · dsimp only [maskL, List.cons_append, List.nil_append]
                        refine ox_y rfl (y_move_int rfl) ?_
                        refine ox_nil ?_
                        exact ex_capG (fun _ => (none, 0, 0)) rfl (List.append_nil _)
                      dsimp only [aftL, List.set_cons_zero, List.set_cons_succ, List.nil_append, List.cons_append, List.append_nil]
                      refine gx_o rfl (fun L2 => ?_) ?_
                      · dsimp only [maskL, List.cons_append, List.nil_append]
                        refine ox_y rfl (y_indexR sl_41 (by decide) hg39.1 hg39.2 (RdL.row 2 rfl) (encL_len cI_len rfl) rfl rfl) ?_
                        refine ox_nil ?_
                        exact ex_capG (fun _ => (none, 0, 0)) rfl (List.append_nil _)
                      dsimp only [aftL, List.set_cons_zero, List.set_cons_succ, List.nil_append, List.cons_append, List.append_nil]
                      refine gx_o rfl (fun L2 => ?_) ?_
                      · dsimp only [maskL, List.cons_append, List.nil_append]
                        refine ox_y rfl (y_loadR1 (A := A12) (j := (Int.toNat s35.2 * 1)) (v := .int .i64 (rdL y10.1 s35.2)) sc_3 (RdL.row 2 rfl) rfl (encL_get0 cI_len hg39.1 (lt_nat hg39.2 rfl) rfl)) ?_
                        refine ox_nil ?_
                        exact ex_capG (fun _ => (none, 0, 0)) rfl (List.append_nil _)
                      dsimp only [aftL, List.set_cons_zero, List.set_cons_succ, List.nil_append, List.cons_append, List.append_nil]
                      refine gx_o rfl (fun L2 => ?_) ?_
                      · dsimp only [maskL, List.cons_append, List.nil_append]
                        refine ox_buildSliceE 1 (encL cI [(rdL y10.1 s35.2)]) _ mc_3_1 us_41 ze_3 by_3 (by decide) (by decide) (by kernel_rfl) (encL_len cI_len rfl) rfl (fun b40 => ?_)
                        refine ox_nil ?_
                        exact ex_capG (fun _ => (none, b40, 0)) rfl rfl
                      dsimp only [aftL, List.set_cons_zero, List.set_cons_succ, List.nil_append, List.cons_append, List.append_nil]
                      refine gx_o rfl (fun L2 => ?_) ?_
                      · dsimp only [maskL, List.cons_append, List.nil_append]
                        refine ox_call [.agg #[.int .i64 p0.fRise, .int .i64 p0.fFall, .int .i64 p0.fUp, .int .i64 p0.fDown, .slice A0_4 p0.fLooks.length c0_4], .slice (some ⟨(ξ38 5 0).2.1, 0, none⟩) 1 1] _ _ _ rfl go_29 rfl (fun W2 hW2 => fire_Without_ok p0 [(rdL y10.1 s35.2)] y41 hy42 W2 A0_4 p0.fLooks.length c0_4 rfl ((RdL.arg hr0_4) W2 hW2) (some ⟨(ξ38 5 0).2.1, 0, none⟩) 1 1 rfl ((RdL.row 4 rfl) W2 hW2)) ?_
                        rintro ⟨A43, n45, c44⟩ hn46
                        replace hn46 : n45 = y41.1.fLooks.length := hn46; subst hn46
                        refine ox_nil ?_
                        exact ex_capG (fun _ => (A43, 0, c44)) rfl rfl
                      dsimp only [aftL, List.set_cons_zero, List.set_cons_succ, List.nil_append, List.cons_append, List.append_nil]
                      refine gx_o rfl (fun L2 => ?_) ?_
                      · dsimp only [maskL, List.cons_append, List.nil_append]
                        refine ox_y rfl (y_move_tuple rfl) ?_
                        refine ox_nil ?_
                        exact ex_capG (fun _ => (none, 0, 0)) rfl (List.append_nil _)
                      dsimp only [aftL, List.set_cons_zero, List.set_cons_succ, List.nil_append, List.cons_append, List.append_nil]
                      refine gx_o rfl (fun L2 => ?_) ?_
                      · dsimp only [maskL, List.cons_append, List.nil_append]
                        refine ox_y rfl (y_extract (vs := [.agg #[.int .i64 y41.1.fRise, .int .i64 y41.1.fFall, .int .i64 y41.1.fUp, .int .i64 y41.1.fDown, .slice (ξ38 6 0).1 y41.1.fLooks.length (ξ38 6 0).2.2], .int .i64 y41.2]) (v := .agg #[.int .i64 y41.1.fRise, .int .i64 y41.1.fFall, .int .i64 y41.1.fUp, .int .i64 y41.1.fDown, .slice (ξ38 6 0).1 y41.1.fLooks.length (ξ38 6 0).2.2]) rfl rfl) ?_
                        refine ox_nil ?_
                        exact ex_capG (fun _ => (none, 0, 0)) rfl (List.append_nil _)
                      dsimp only [aftL, List.set_cons_zero, List.set_cons_succ, List.nil_append, List.cons_append, List.append_nil]
                      refine gx_o rfl (fun L2 => ?_) ?_
                      · dsimp only [maskL, List.cons_append, List.nil_append]
                        refine ox_y rfl (y_extract (vs := [.agg #[.int .i64 y41.1.fRise, .int .i64 y41.1.fFall, .int .i64 y41.1.fUp, .int .i64 y41.1.fDown, .slice (ξ38 6 0).1 y41.1.fLooks.length (ξ38 6 0).2.2], .int .i64 y41.2]) (v := .int .i64 y41.2) rfl rfl) ?_
                        refine ox_nil ?_
                        exact ex_capG (fun _ => (none, 0, 0)) rfl (List.append_nil _)
                      dsimp only [aftL, List.set_cons_zero, List.set_cons_succ, List.nil_append, List.cons_append, List.append_nil]
                      refine gx_o rfl (fun L2 => ?_) ?_
                      · dsimp only [maskL, List.cons_append, List.nil_append]
                        refine ox_alloc ze_24 rfl (fun b47 => ?_)
                        refine ox_nil ?_
                        exact ex_capG (fun _ => (none, b47, 0)) rfl rfl
                      dsimp only [aftL, List.set_cons_zero, List.set_cons_succ, List.nil_append, List.cons_append, List.append_nil]
                      refine gx_n rfl (fun L2 => ?_) ?_
                      · dsimp only [maskL, List.cons_append, List.nil_append]
                        refine ox_n rfl (y_storeN 6 [.int .i64 y41.1.fRise, .int .i64 y41.1.fFall, .int .i64 y41.1.fUp, .int .i64 y41.1.fDown, .slice (ξ38 6 0).1 y41.1.fLooks.length (ξ38 6 0).2.2] sz_24 rfl (Nat.le_of_ble_eq_true rfl) rfl rfl rfl) ?_
                        refine ox_nil ?_
                        exact ex_capGn (fun _ => (none, 0, 0)) (List.append_nil _)
                      dsimp only [aftL, List.set_cons_zero, List.set_cons_succ, List.nil_append, List.cons_append, List.append_nil]
                      refine gx_o rfl (fun L2 => ?_) ?_
                      · dsimp only [maskL, List.cons_append, List.nil_append]
                        refine ox_y rfl (y_assign_int rfl) ?_
                        refine ox_nil ?_
                        exact ex_capG (fun _ => (none, 0, 0)) rfl (List.append_nil _)
                      dsimp only [aftL, List.set_cons_zero, List.set_cons_succ, List.nil_append, List.cons_append, List.append_nil]
                      refine gx_nil ?_
                      refine ex_then ?_
                      refine cx_seq ?_
                      refine cx_region ?_
                      try dsimp only [List.nil_append, List.cons_append, List.set_cons_zero, List.set_cons_succ]
                      refine ox_y rfl (y_loadN 6 [.int .i64 y41.1.fRise, .int .i64 y41.1.fFall, .int .i64 y41.1.fUp, .int .i64 y41.1.fDown, .slice (ξ38 6 0).1 y41.1.fLooks.length (ξ38 6 0).2.2] ag_24 rfl rfl rfl) ?_
                      obtain ⟨y48, hy49, h⟩ := bind_some h
                      refine ox_y rfl (y_call [.agg #[.int .i64 y41.1.fRise, .int .i64 y41.1.fFall, .int .i64 y41.1.fUp, .int .i64 y41.1.fDown, .slice (ξ38 6 0).1 y41.1.fLooks.length (ξ38 6 0).2.2]] go_15 rfl (fun W2 hW2 => fire_Clash_ok y41.1 y48 hy49 W2 (ξ38 6 0).1 y41.1.fLooks.length (ξ38 6 0).2.2 rfl ((RdL.row 5 rfl) W2 hW2)) rfl) ?_
                      refine ox_y rfl (y_move_tuple rfl) ?_
                      refine ox_y rfl (y_extract (vs := [.int .i64 y48.1, .int .i64 y48.2.1, .bool y48.2.2.1, .int .i64 y48.2.2.2]) (v := .int .i64 y48.1) rfl rfl) ?_
                      refine ox_y rfl (y_extract (vs := [.int .i64 y48.1, .int .i64 y48.2.1, .bool y48.2.2.1, .int .i64 y48.2.2.2]) (v := .int .i64 y48.2.1) rfl rfl) ?_
                      refine ox_y rfl (y_extract (vs := [.int .i64 y48.1, .int .i64 y48.2.1, .bool y48.2.2.1, .int .i64 y48.2.2.2]) (v := .bool y48.2.2.1) rfl rfl) ?_
                      refine ox_y rfl (y_extract (vs := [.int .i64 y48.1, .int .i64 y48.2.1, .bool y48.2.2.1, .int .i64 y48.2.2.2]) (v := .int .i64 y48.2.2.2) rfl rfl) ?_
                      refine ox_y rfl (y_assign_int rfl) ?_
                      refine ox_y rfl (y_assign_int rfl) ?_
                      refine ox_y rfl (y_assign_bool rfl) ?_
                      refine ox_y rfl (y_assign_int rfl) ?_
                      refine ox_nil ?_
                      refine ex_then ?_
                      refine cx_seq ?_
                      refine cx_region ?_
                      refine ox_y rfl (y_move_int rfl) ?_
                      refine ox_y rfl (y_neq rfl rfl) ?_
                      refine ox_y rfl (y_move_bool rfl) ?_
                      refine ox_join 3 (fun tm0 => (upd (upd (upd (upd (upd (upd (upd (upd (upd (upd (upd (upd (upd tm0 4 (.pointer (some ⟨b1, 0, none⟩))) 8 (.bool s35.1)) 9 (.int .i64 y8.1)) 10 (.int .i64 y8.2.1)) 13 (.slice A12 y10.1.length c13)) 94 (.bool b31)) 18 (.int .i64 s35.2)) 98 (.bool (decide (s35.2 < ((y10.1.length : Nat) : Int))))) 19 (.pointer (some ⟨(ξ38 10 0).2.1, 0, none⟩))) 20 (.int .i64 y41.2)) 23 (.bool y48.2.2.1)) 24 (.int .i64 y48.2.2.2)) 123 (.bool ((y41.2 != 0) || (y48.2.2.2 != 0))))) (fun tm0 => ?_) (fun key => ?_)
                      · refine ox_y rfl (y_move_bool rfl) ?_
                        refine ox_join 2 (fun tm0 => (upd (upd (upd (upd (upd (upd (upd (upd (upd (upd (upd (upd (upd tm0 4 (.pointer (some ⟨b1, 0, none⟩))) 8 (.bool s35.1)) 9 (.int .i64 y8.1)) 10 (.int .i64 y8.2.1)) 13 (.slice A12 y10.1.length c13)) 94 (.bool b31)) 18 (.int .i64 s35.2)) 98 (.bool (decide (s35.2 < ((y10.1.length : Nat) : Int))))) 19 (.pointer (some ⟨(ξ38 10 0).2.1, 0, none⟩))) 20 (.int .i64 y41.2)) 23 (.bool y48.2.2.1)) 24 (.int .i64 y48.2.2.2)) 126 (.bool (((y41.2 != 0) || (y48.2.2.2 != 0)) || y48.2.2.1)))) (fun tm0 => ?_) (fun key => ?_)
                        · refine ox_y rfl (y_move_bool rfl) ?_
                          obtain ⟨b53, hb54, h⟩ := bind_some h
                          refine ox_join 15 (fun tm0 => (upd (upd (upd (upd (upd (upd (upd (upd (upd (upd (upd (upd (upd tm0 4 (.pointer (some ⟨b1, 0, none⟩))) 8 (.bool s35.1)) 9 (.int .i64 y8.1)) 10 (.int .i64 y8.2.1)) 13 (.slice A12 y10.1.length c13)) 94 (.bool b31)) 18 (.int .i64 s35.2)) 98 (.bool (decide (s35.2 < ((y10.1.length : Nat) : Int))))) 19 (.pointer (some ⟨(ξ38 10 0).2.1, 0, none⟩))) 20 (.int .i64 y41.2)) 23 (.bool y48.2.2.1)) 24 (.int .i64 y48.2.2.2)) 142 (.bool b53))) (fun tm0 => ?_) (fun key => ?_)
                          · refine ox_nil ?_
                            refine ex_then ?_
                            rcases ite_some h with ⟨hp55, h⟩ | ⟨hp55, h⟩
                            · refine cx_true (congrArg Value.bool hp55) ?_
                              refine cx_seq ?_
                              refine cx_region ?_
                              refine ox_y rfl (y_assign_bool rfl) ?_
                              refine ox_nil ?_
                              refine ex_then ?_
                              refine cx_ret ?_
                              refine ex_block_ret ?_
                              refine ex_then_ret ?_
                              refine ex_take 4 ?_
                              obtain rfl := Option.some.inj h
                              exact ex_stop ⟨rfl, _, rfl, (keep (keep (keep (keep (keep (keep (keep rfl rfl) rfl) rfl) rfl) rfl) rfl) rfl)⟩
                            · refine cx_false (congrArg Value.bool hp55) ?_
                              refine cx_skip ?_
                              refine ex_block ?_
                              refine ex_then ?_
                              refine cx_region ?_
                              refine ox_y rfl (y_move_int rfl) ?_
                              refine ox_y rfl (y_add rfl rfl) ?_
                              refine ox_y rfl (y_assign_int rfl) ?_
                              refine ox_nil ?_
                              refine ex_take 4 ?_
                              obtain rfl := Option.some.inj h
                              exact ex_next ⟨_, rfl, (keep (keep (keep (keep (keep (keep (keep rfl rfl) rfl) rfl) rfl) rfl) rfl) rfl)⟩
                          · clear h; rcases ite_some hb54 with ⟨hp52, h⟩ | ⟨hp52, h⟩
                            · refine ox_skip (sees_f rfl rfl rfl rfl hp52) ?_
                              refine ox_skip (sees_f rfl rfl rfl rfl hp52) ?_
                              refine ox_skip (sees_f rfl rfl rfl rfl hp52) ?_
                              refine ox_skip (sees_f rfl rfl rfl rfl hp52) ?_
                              refine ox_skip (sees_f rfl rfl rfl rfl hp52) ?_
                              refine ox_skip (sees_f rfl rfl rfl rfl hp52) ?_
                              refine ox_skip (sees_f rfl rfl rfl rfl hp52) ?_
                              refine ox_skip rfl ?_
                              refine ox_skip rfl ?_
                              refine ox_skip rfl ?_
                              refine ox_skip rfl ?_
                              refine ox_skip rfl ?_
                              refine ox_skip rfl ?_
                              refine ox_skip (sees_f rfl rfl rfl rfl hp52) ?_
                              refine ox_y rfl (y_pick_tb (congrArg Value.bool hp52) rfl) ?_
                              obtain rfl := Option.some.inj h
                              exact key _ _ (keep (keep (keep (keep (keep (keep (keep (keep (keep (keep (keep (keep (keep rfl rfl) rfl) rfl) rfl) rfl) rfl) rfl) rfl) rfl) rfl) rfl) rfl) rfl)
                            · refine ox_y (sees_t rfl rfl rfl rfl hp52) (y_move_slice rfl) ?_
                              refine ox_y (sees_t rfl rfl rfl rfl hp52) (y_move_int rfl) ?_
                              obtain ⟨hg56, h⟩ := guardO_some h
                              refine ox_y (sees_t rfl rfl rfl rfl hp52) (y_indexR sl_41 (by decide) hg56.1 hg56.2 (RdL.row 2 rfl) (encL_len cI_len rfl) rfl rfl) ?_
                              refine ox_y (sees_t rfl rfl rfl rfl hp52) (y_loadR1 (A := A12) (j := (Int.toNat s35.2 * 1)) (v := .int .i64 (rdL y10.1 s35.2)) sc_3 (RdL.row 2 rfl) rfl (encL_get0 cI_len hg56.1 (lt_nat hg56.2 rfl) rfl)) ?_
                              refine ox_y (sees_t rfl rfl rfl rfl hp52) (y_move_int rfl) ?_
                              refine ox_y (sees_t rfl rfl rfl rfl hp52) (y_neq rfl rfl) ?_
                              refine ox_y (sees_t rfl rfl rfl rfl hp52) (y_move_bool rfl) ?_
                              obtain ⟨b58, hb59, h⟩ := bind_some h
                              refine ox_join 7 (fun tm0 => (upd (upd (upd (upd (upd (upd (upd (upd (upd (upd (upd (upd (upd (upd tm0 4 (.pointer (some ⟨b1, 0, none⟩))) 8 (.bool s35.1)) 9 (.int .i64 y8.1)) 10 (.int .i64 y8.2.1)) 13 (.slice A12 y10.1.length c13)) 94 (.bool b31)) 18 (.int .i64 s35.2)) 98 (.bool (decide (s35.2 < ((y10.1.length : Nat) : Int))))) 19 (.pointer (some ⟨(ξ38 10 0).2.1, 0, none⟩))) 20 (.int .i64 y41.2)) 23 (.bool y48.2.2.1)) 24 (.int .i64 y48.2.2.2)) 127 (.bool (((y41.2 != 0) || (y48.2.2.2 != 0)) || y48.2.2.1))) 141 (.bool b58))) (fun tm0 => ?_) (fun key => ?_)
                              · refine ox_y rfl (y_pick_fb (congrArg Value.bool hp52) rfl) ?_
                                obtain rfl := Option.some.inj h
                                exact key _ _ (keep (keep (keep (keep (keep (keep (keep (keep (keep (keep (keep (keep (keep rfl rfl) rfl) rfl) rfl) rfl) rfl) rfl) rfl) rfl) rfl) rfl) rfl) rfl)
                              · clear h; rcases ite_some hb59 with ⟨hp57, h⟩ | ⟨hp57, h⟩
                                · refine ox_y (sees_t rfl rfl rfl rfl hp57) (y_move_slice rfl) ?_
                                  refine ox_y (sees_t rfl rfl rfl rfl hp57) (y_move_int rfl) ?_
                                  obtain ⟨hg60, h⟩ := guardO_some h
                                  refine ox_y (sees_t rfl rfl rfl rfl hp57) (y_indexR sl_41 (by decide) hg60.1 hg60.2 (RdL.row 2 rfl) (encL_len cI_len rfl) rfl rfl) ?_
                                  refine ox_y (sees_t rfl rfl rfl rfl hp57) (y_loadR1 (A := A12) (j := (Int.toNat s35.2 * 1)) (v := .int .i64 (rdL y10.1 s35.2)) sc_3 (RdL.row 2 rfl) rfl (encL_get0 cI_len hg60.1 (lt_nat hg60.2 rfl) rfl)) ?_
                                  refine ox_y (sees_t rfl rfl rfl rfl hp57) (y_move_int rfl) ?_
                                  refine ox_y (sees_t rfl rfl rfl rfl hp57) (y_neq rfl rfl) ?_
                                  refine ox_y (sees_t rfl rfl rfl rfl hp52) (y_pick_tb (congrArg Value.bool hp57) rfl) ?_
                                  obtain rfl := Option.some.inj h
                                  exact key _ _ (keep (keep (keep (keep (keep (keep (keep (keep (keep (keep (keep (keep (keep (keep rfl rfl) rfl) rfl) rfl) rfl) rfl) rfl) rfl) rfl) rfl) rfl) rfl) rfl) rfl)
                                · refine ox_skip (sees_f rfl rfl rfl rfl hp57) ?_
                                  refine ox_skip (sees_f rfl rfl rfl rfl hp57) ?_
                                  refine ox_skip (sees_f rfl rfl rfl rfl hp57) ?_
                                  refine ox_skip (sees_f rfl rfl rfl rfl hp57) ?_
                                  refine ox_skip (sees_f rfl rfl rfl rfl hp57) ?_
                                  refine ox_skip (sees_f rfl rfl rfl rfl hp57) ?_
                                  refine ox_y (sees_t rfl rfl rfl rfl hp52) (y_pick_fb (congrArg Value.bool hp57) rfl) ?_
                                  obtain rfl := Option.some.inj h
                                  exact key _ _ (keep (keep (keep (keep (keep (keep (keep (keep (keep (keep (keep (keep (keep (keep rfl rfl) rfl) rfl) rfl) rfl) rfl) rfl) rfl) rfl) rfl) rfl) rfl) rfl) rfl)
                        · rcases bool_cases ((y41.2 != 0) || (y48.2.2.2 != 0)) with hp51 | hp51
                          · refine ox_skip (sees_f rfl rfl rfl rfl hp51) ?_
                            refine ox_y rfl (y_pick_tb (congrArg Value.bool hp51) rfl) ?_
                            exact key _ _ (keep (keep (keep (keep (keep (keep (keep (keep (keep (keep (keep (keep (keep rfl rfl) rfl) rfl) rfl) rfl) rfl) rfl) rfl) rfl) rfl) rfl) rfl) (congrArg Value.bool (or_t hp51)))
                          · refine ox_y (sees_t rfl rfl rfl rfl hp51) (y_move_bool rfl) ?_
                            refine ox_y rfl (y_pick_fb (congrArg Value.bool hp51) rfl) ?_
                            exact key _ _ (keep (keep (keep (keep (keep (keep (keep (keep (keep (keep (keep (keep (keep rfl rfl) rfl) rfl) rfl) rfl) rfl) rfl) rfl) rfl) rfl) rfl) rfl) (congrArg Value.bool (or_f hp51)))
                      · rcases bool_cases (y41.2 != 0) with hp50 | hp50
                        · refine ox_skip (sees_f rfl rfl rfl rfl hp50) ?_
                          refine ox_skip (sees_f rfl rfl rfl rfl hp50) ?_
                          refine ox_y rfl (y_pick_tb (congrArg Value.bool hp50) rfl) ?_
                          exact key _ _ (keep (keep (keep (keep (keep (keep (keep (keep (keep (keep (keep (keep (keep rfl rfl) rfl) rfl) rfl) rfl) rfl) rfl) rfl) rfl) rfl) rfl) rfl) (congrArg Value.bool (or_t hp50)))
                        · refine ox_y (sees_t rfl rfl rfl rfl hp50) (y_move_int rfl) ?_
                          refine ox_y (sees_t rfl rfl rfl rfl hp50) (y_neq rfl rfl) ?_
                          refine ox_y rfl (y_pick_fb (congrArg Value.bool hp50) rfl) ?_
                          exact key _ _ (keep (keep (keep (keep (keep (keep (keep (keep (keep (keep (keep (keep (keep rfl rfl) rfl) rfl) rfl) rfl) rfl) rfl) rfl) rfl) rfl) rfl) rfl) (congrArg Value.bool (or_f hp50)))
                    · refine cx_false (congrArg Value.bool hp37) ?_
                      refine cx_exit ?_
                      refine ex_then_exit ?_
                      obtain rfl := Option.some.inj h
                      exact ex_stop ⟨rfl, _, rfl, (keep (keep (keep (keep (keep (keep (keep rfl rfl) rfl) rfl) rfl) rfl) rfl) rfl)⟩
                  · intro e L tm hJ
                    rcases u36 with u62 | u63
                    · dsimp only at h hJ
                      obtain ⟨rfl, tm0_u62, rfl, rfl⟩ := hJ
                      refine ⟨(by intro hc; cases hc), ?_⟩
                      refine ex_block_ret ?_
                      refine ex_then_ret ?_
                      obtain rfl := Option.some.inj h
                      exact ex_res1 (.inl rfl) rfl (resV_tmp (v := .bool u62.1) rfl) (fun W2 hW2 => ⟨rfl, hW2.none⟩)
                    · dsimp only at h hJ
                      obtain ⟨rfl, tm0_u63, rfl, rfl⟩ := hJ
                      refine ⟨(by intro hc; cases hc), ?_⟩
                      refine ex_block_here ?_
                      refine ex_then ?_
                      refine cx_seq ?_
                      refine cx_region ?_
                      obtain ⟨y64, hy65, h⟩ := bind_some h
                      refine ox_y rfl (y_call [] go_13 rfl (fun W2 hW2 => calxlaw02_sanity_ok  y64 hy65 W2 ) rfl) ?_
                      refine ox_y rfl (y_assign_bool rfl) ?_
                      refine ox_nil ?_
                      refine ex_then ?_
                      refine cx_ret ?_
                      obtain rfl := Option.some.inj h
                      exact ex_res1 (.inl rfl) rfl (resV_tmp (v := .bool y64) rfl) (fun W2 hW2 => ⟨rfl, hW2.none⟩)
              · clear h; rcases ite_some hb32 with ⟨hp30, h⟩ | ⟨hp30, h⟩
                · refine ox_skip (sees_f rfl rfl rfl rfl hp30) ?_
                  refine ox_skip (sees_f rfl rfl rfl rfl hp30) ?_
                  refine ox_skip rfl ?_
                  refine ox_skip rfl ?_
                  refine ox_skip rfl ?_
                  refine ox_skip rfl ?_
                  refine ox_skip rfl ?_
                  refine ox_skip (sees_f rfl rfl rfl rfl hp30) ?_
                  refine ox_y rfl (y_pick_tb (congrArg Value.bool hp30) rfl) ?_
                  obtain rfl := Option.some.inj h
                  exact key _ _ (keep (keep (keep (keep (keep (keep rfl rfl) rfl) rfl) rfl) rfl) rfl)
                · refine ox_y (sees_t rfl rfl rfl rfl hp30) (y_move_bool rfl) ?_
                  refine ox_y (sees_t rfl rfl rfl rfl hp30) (y_move_bool rfl) ?_
                  obtain ⟨b67, hb68, h⟩ := bind_some h
                  refine ox_join 6 (fun tm0 => (upd (upd (upd (upd (upd (upd (upd tm0 4 (.pointer (some ⟨b1, 0, none⟩))) 8 (.bool false)) 9 (.int .i64 y8.1)) 10 (.int .i64 y8.2.1)) 13 (.slice A12 y10.1.length c13)) 85 (.bool (((!(y8.2.2.1 == (y20.2 == 9))) || ((!y8.2.2.1) && ((y20.2 != 0) || (decide (0 < ((y10.1.length : Nat) : Int)))))) || ((y26 == 0) && (!y8.2.2.1))))) 93 (.bool b67))) (fun tm0 => ?_) (fun key => ?_)
                  · refine ox_y rfl (y_pick_fb (congrArg Value.bool hp30) rfl) ?_
                    obtain rfl := Option.some.inj h
                    exact key _ _ (keep (keep (keep (keep (keep (keep rfl rfl) rfl) rfl) rfl) rfl) rfl)
                  · clear h; rcases ite_some hb68 with ⟨hp66, h⟩ | ⟨hp66, h⟩
                    · refine ox_y (sees_t rfl rfl rfl rfl hp66) (y_loadN 0 [.int .i64 p0.fRise, .int .i64 p0.fFall, .int .i64 p0.fUp, .int .i64 p0.fDown, .slice A0_4 p0.fLooks.length c0_4] ag_24 rfl rfl rfl) ?_
                      refine ox_y (sees_t rfl rfl rfl rfl hp66) (y_move_int rfl) ?_
                      refine ox_y (sees_t rfl rfl rfl rfl hp66) (y_move_int rfl) ?_
                      obtain ⟨y69, hy70, h⟩ := bind_some h
                      refine ox_y (sees_t rfl rfl rfl rfl hp66) (y_call [.agg #[.int .i64 p0.fRise, .int .i64 p0.fFall, .int .i64 p0.fUp, .int .i64 p0.fDown, .slice A0_4 p0.fLooks.length c0_4], .int .i64 y8.1, .int .i64 y8.2.1] go_28 rfl (fun W2 hW2 => fire_CheckClash_ok p0 y8.1 y8.2.1 y69 hy70 W2 A0_4 p0.fLooks.length c0_4 rfl ((RdL.arg hr0_4) W2 hW2)) rfl) ?_
                      refine ox_y (sees_t rfl rfl rfl rfl hp66) (y_neq rfl rfl) ?_
                      refine ox_y (sees_t rfl rfl rfl rfl hp30) (y_pick_tb (congrArg Value.bool hp66) rfl) ?_
                      obtain rfl := Option.some.inj h
                      exact key _ _ (keep (keep (keep (keep (keep (keep (keep rfl rfl) rfl) rfl) rfl) rfl) rfl) rfl)
                    · refine ox_skip (sees_f rfl rfl rfl rfl hp66) ?_
                      refine ox_skip (sees_f rfl rfl rfl rfl hp66) ?_
                      refine ox_skip (sees_f rfl rfl rfl rfl hp66) ?_
                      refine ox_skip (sees_f rfl rfl rfl rfl hp66) ?_
                      refine ox_skip (sees_f rfl rfl rfl rfl hp66) ?_
                      refine ox_y (sees_t rfl rfl rfl rfl hp30) (y_pick_fb (congrArg Value.bool hp66) rfl) ?_
                      obtain rfl := Option.some.inj h
                      exact key _ _ (keep (keep (keep (keep (keep (keep (keep rfl rfl) rfl) rfl) rfl) rfl) rfl) rfl)
            · rcases bool_cases ((!(y8.2.2.1 == (y20.2 == 9))) || ((!y8.2.2.1) && ((y20.2 != 0) || (decide (0 < ((y10.1.length : Nat) : Int)))))) with hp29 | hp29
              · refine ox_skip (sees_f rfl rfl rfl rfl hp29) ?_
                refine ox_skip (sees_f rfl rfl rfl rfl hp29) ?_
                refine ox_skip rfl ?_
                refine ox_skip rfl ?_
                refine ox_skip (sees_f rfl rfl rfl rfl hp29) ?_
                refine ox_y rfl (y_pick_tb (congrArg Value.bool hp29) rfl) ?_
                exact key _ _ (keep (keep (keep (keep (keep (keep (keep rfl rfl) rfl) rfl) rfl) rfl) rfl) (congrArg Value.bool (or_t hp29)))
              · refine ox_y (sees_t rfl rfl rfl rfl hp29) (y_move_bool rfl) ?_
                refine ox_y (sees_t rfl rfl rfl rfl hp29) (y_move_bool rfl) ?_
                refine ox_join 3 (fun tm0 => (upd (upd (upd (upd (upd (upd (upd (upd tm0 4 (.pointer (some ⟨b1, 0, none⟩))) 8 (.bool false)) 9 (.int .i64 y8.1)) 10 (.int .i64 y8.2.1)) 11 (.bool y8.2.2.1)) 13 (.slice A12 y10.1.length c13)) 78 (.bool ((!(y8.2.2.1 == (y20.2 == 9))) || ((!y8.2.2.1) && ((y20.2 != 0) || (decide (0 < ((y10.1.length : Nat) : Int)))))))) 83 (.bool ((y26 == 0) && (!y8.2.2.1))))) (fun tm0 => ?_) (fun key => ?_)
                · refine ox_y rfl (y_pick_fb (congrArg Value.bool hp29) rfl) ?_
                  exact key _ _ (keep (keep (keep (keep (keep (keep (keep rfl rfl) rfl) rfl) rfl) rfl) rfl) (congrArg Value.bool (or_f hp29)))
                · rcases bool_cases (y26 == 0) with hp71 | hp71
                  · refine ox_y (sees_t rfl rfl rfl rfl hp71) (y_move_bool rfl) ?_
                    refine ox_y (sees_t rfl rfl rfl rfl hp71) (y_not rfl) ?_
                    refine ox_y (sees_t rfl rfl rfl rfl hp29) (y_pick_tb (congrArg Value.bool hp71) rfl) ?_
                    exact key _ _ (keep (keep (keep (keep (keep (keep (keep (keep rfl rfl) rfl) rfl) rfl) rfl) rfl) rfl) (congrArg Value.bool (and_t hp71)))
                  · refine ox_skip (sees_f rfl rfl rfl rfl hp71) ?_
                    refine ox_skip (sees_f rfl rfl rfl rfl hp71) ?_
                    refine ox_y (sees_t rfl rfl rfl rfl hp29) (y_pick_fb (congrArg Value.bool hp71) rfl) ?_
                    exact key _ _ (keep (keep (keep (keep (keep (keep (keep (keep rfl rfl) rfl) rfl) rfl) rfl) rfl) rfl) (congrArg Value.bool (and_f hp71)))
          · rcases bool_cases (!(y8.2.2.1 == (y20.2 == 9))) with hp28 | hp28
            · refine ox_skip (sees_f rfl rfl rfl rfl hp28) ?_
              refine ox_skip (sees_f rfl rfl rfl rfl hp28) ?_
              refine ox_skip (sees_f rfl rfl rfl rfl hp28) ?_
              refine ox_skip rfl ?_
              refine ox_skip rfl ?_
              refine ox_skip rfl ?_
              refine ox_skip rfl ?_
              refine ox_skip rfl ?_
              refine ox_skip rfl ?_
              refine ox_skip rfl ?_
              refine ox_skip (sees_f rfl rfl rfl rfl hp28) ?_
              refine ox_y rfl (y_pick_tb (congrArg Value.bool hp28) rfl) ?_
              exact key _ _ (keep (keep (keep (keep (keep (keep (keep (keep rfl rfl) rfl) rfl) rfl) rfl) rfl) rfl) (congrArg Value.bool (or_t hp28)))
            · refine ox_y (sees_t rfl rfl rfl rfl hp28) (y_move_bool rfl) ?_
              refine ox_y (sees_t rfl rfl rfl rfl hp28) (y_not rfl) ?_
              refine ox_y (sees_t rfl rfl rfl rfl hp28) (y_move_bool rfl) ?_
              refine ox_join 8 (fun tm0 => (upd (upd (upd (upd (upd (upd (upd (upd (upd tm0 4 (.pointer (some ⟨b1, 0, none⟩))) 8 (.bool false)) 9 (.int .i64 y8.1)) 10 (.int .i64 y8.2.1)) 11 (.bool y8.2.2.1)) 13 (.slice A12 y10.1.length c13)) 17 (.bool (y26 == 0))) 65 (.bool (!(y8.2.2.1 == (y20.2 == 9))))) 76 (.bool ((!y8.2.2.1) && ((y20.2 != 0) || (decide (0 < ((y10.1.length : Nat) : Int)))))))) (fun tm0 => ?_) (fun key => ?_)
              · refine ox_y rfl (y_pick_fb (congrArg Value.bool hp28) rfl) ?_
                exact key _ _ (keep (keep (keep (keep (keep (keep (keep (keep rfl rfl) rfl) rfl) rfl) rfl) rfl) rfl) (congrArg Value.bool (or_f hp28)))
              · rcases bool_cases (!y8.2.2.1) with hp72 | hp72
                · refine ox_y (sees_t rfl rfl rfl rfl hp72) (y_move_int rfl) ?_
                  refine ox_y (sees_t rfl rfl rfl rfl hp72) (y_neq rfl rfl) ?_
                  refine ox_y (sees_t rfl rfl rfl rfl hp72) (y_move_bool rfl) ?_
                  refine ox_join 4 (fun tm0 => (upd (upd (upd (upd (upd (upd (upd (upd (upd (upd tm0 4 (.pointer (some ⟨b1, 0, none⟩))) 8 (.bool false)) 9 (.int .i64 y8.1)) 10 (.int .i64 y8.2.1)) 11 (.bool y8.2.2.1)) 13 (.slice A12 y10.1.length c13)) 17 (.bool (y26 == 0))) 65 (.bool (!(y8.2.2.1 == (y20.2 == 9))))) 68 (.bool (!y8.2.2.1))) 75 (.bool ((y20.2 != 0) || (decide (0 < ((y10.1.length : Nat) : Int))))))) (fun tm0 => ?_) (fun key => ?_)
                  · refine ox_y (sees_t rfl rfl rfl rfl hp28) (y_pick_tb (congrArg Value.bool hp72) rfl) ?_
                    exact key _ _ (keep (keep (keep (keep (keep (keep (keep (keep (keep rfl rfl) rfl) rfl) rfl) rfl) rfl) rfl) rfl) (congrArg Value.bool (and_t hp72)))
                  · rcases bool_cases (y20.2 != 0) with hp73 | hp73
                    · refine ox_skip (sees_f rfl rfl rfl rfl hp73) ?_
                      refine ox_skip (sees_f rfl rfl rfl rfl hp73) ?_
                      refine ox_skip (sees_f rfl rfl rfl rfl hp73) ?_
                      refine ox_y (sees_t rfl rfl rfl rfl hp72) (y_pick_tb (congrArg Value.bool hp73) rfl) ?_
                      exact key _ _ (keep (keep (keep (keep (keep (keep (keep (keep (keep (keep rfl rfl) rfl) rfl) rfl) rfl) rfl) rfl) rfl) rfl) (congrArg Value.bool (or_t hp73)))
                    · refine ox_y (sees_t rfl rfl rfl rfl hp73) (y_move_slice rfl) ?_
                      refine ox_y (sees_t rfl rfl rfl rfl hp73) (y_len (us := []) us_41 rfl) ?_
                      refine ox_y (sees_t rfl rfl rfl rfl hp73) (y_gtr rfl rfl) ?_
                      refine ox_y (sees_t rfl rfl rfl rfl hp72) (y_pick_fb (congrArg Value.bool hp73) rfl) ?_
                      exact key _ _ (keep (keep (keep (keep (keep (keep (keep (keep (keep (keep rfl rfl) rfl) rfl) rfl) rfl) rfl) rfl) rfl) rfl) (congrArg Value.bool (or_f hp73)))
                · refine ox_skip (sees_f rfl rfl rfl rfl hp72) ?_
                  refine ox_skip (sees_f rfl rfl rfl rfl hp72) ?_
                  refine ox_skip (sees_f rfl rfl rfl rfl hp72) ?_
                  refine ox_skip rfl ?_
                  refine ox_skip rfl ?_
                  refine ox_skip rfl ?_
                  refine ox_skip (sees_f rfl rfl rfl rfl hp72) ?_
                  refine ox_y (sees_t rfl rfl rfl rfl hp28) (y_pick_fb (congrArg Value.bool hp72) rfl) ?_
                  exact key _ _ (keep (keep (keep (keep (keep (keep (keep (keep (keep rfl rfl) rfl) rfl) rfl) rfl) rfl) rfl) rfl) (congrArg Value.bool (and_f hp72)))

end Go.Proofs.Ytndajeiecdmhnaa
