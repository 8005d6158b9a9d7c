/- The calls hand back what the plain functions say. -/
import Derived.Test.YtndajeiecdmhnaaF
import Derived.Test.YtndajeiecdmhnaaGy
import Derived.Test.YtndajeiecdmhnaaC8
set_option linter.unusedVariables false
set_option maxHeartbeats 4000000
namespace Go.Proofs.Ytndajeiecdmhnaa
open Go.RowKit (Below)
attribute [local irreducible] OX QX CX EX OpY Calls CallsIn

/-! calx/calxref02.Far -/
set_option maxRecDepth 100000 in
theorem calxref02_Far_ok (p0_f : TFire) (p1_p : TSpot) (p2_q : TSpot) (res : (Int × Int)) (h : calxref02_Far p0_f p1_p p2_q = some res) (W : World) (A0_4 : Option Addr) (n0_4 c0_4 : Nat) (hn0_4 : n0_4 = p0_f.fLooks.length) (hr0_4 : Rd W A0_4 n0_4 c0_4 (encL TLook_cells p0_f.fLooks)) :
    Calls Try.prog 31 [.agg #[.int .i64 p0_f.fRise, .int .i64 p0_f.fFall, .int .i64 p0_f.fUp, .int .i64 p0_f.fDown, .slice A0_4 n0_4 c0_4], .agg #[.int .i64 p1_p.fFoot, .int .i64 p1_p.fHour], .agg #[.int .i64 p2_q.fFoot, .int .i64 p2_q.fHour]].toArray W fun e W2 => e = .returned (.tuple #[.int .i64 res.1, .int .i64 res.2]) ∧ Ext W W2 [] := by
  subst hn0_4
  unfold calxref02_Far at h
  refine calls_enter (m := 30) Try.func31 rfl rfl (Nat.le_of_ble_eq_true rfl) ?_
  refine cx_seq ?_
  refine cx_region ?_
  refine ox_box [.int .i64 p0_f.fRise, .int .i64 p0_f.fFall, .int .i64 p0_f.fUp, .int .i64 p0_f.fDown, .slice A0_4 p0_f.fLooks.length c0_4] rfl rfl rfl (fun b1 => ?_)
  refine ox_box [.int .i64 p1_p.fFoot, .int .i64 p1_p.fHour] rfl rfl rfl (fun b2 => ?_)
  refine ox_box [.int .i64 p2_q.fFoot, .int .i64 p2_q.fHour] rfl rfl rfl (fun b3 => ?_)
  refine ox_y rfl (y_assign_int rfl) ?_
  refine ox_y rfl (y_assign_int rfl) ?_
  refine ox_nil ?_
  refine ex_then ?_
  refine cx_seq ?_
  refine cx_region ?_
  refine ox_y rfl (y_loadN 0 [.int .i64 p0_f.fRise, .int .i64 p0_f.fFall, .int .i64 p0_f.fUp, .int .i64 p0_f.fDown, .slice A0_4 p0_f.fLooks.length c0_4] ag_24 rfl rfl rfl) ?_
  obtain ⟨y4, hy5, h⟩ := bind_some h
  refine ox_y rfl (y_call [.agg #[.int .i64 p0_f.fRise, .int .i64 p0_f.fFall, .int .i64 p0_f.fUp, .int .i64 p0_f.fDown, .slice A0_4 p0_f.fLooks.length c0_4]] go_35 rfl (fun W2 hW2 => calxref02_Check_ok p0_f y4 hy5 W2 A0_4 p0_f.fLooks.length c0_4 rfl ((RdL.arg hr0_4) W2 hW2)) rfl) ?_
  refine ox_y rfl (y_assign_int rfl) ?_
  refine ox_nil ?_
  refine ex_then ?_
  refine cx_seq ?_
  refine cx_seq ?_
  refine cx_region ?_
  refine ox_y rfl (y_move_int rfl) ?_
  refine ox_y rfl (y_neq rfl rfl) ?_
  refine ox_nil ?_
  refine ex_then ?_
  rcases ite_some h with ⟨hp6, h⟩ | ⟨hp6, h⟩
  · refine cx_true (congrArg Value.bool hp6) ?_
    refine cx_seq ?_
    refine cx_region ?_
    refine ox_y rfl (y_move_int rfl) ?_
    refine ox_y rfl (y_assign_int rfl) ?_
    refine ox_y rfl (y_assign_int rfl) ?_
    refine ox_nil ?_
    refine ex_then ?_
    refine cx_ret ?_
    refine ex_then_ret ?_
    obtain rfl := Option.some.inj h
    exact ex_res2 (.inl rfl) rfl (resV_tmp (v := .int .i64 0) rfl) (resV_tmp (v := .int .i64 y4) rfl) (fun W2 hW2 => ⟨rfl, hW2.none⟩)
  · refine cx_false (congrArg Value.bool hp6) ?_
    refine cx_skip ?_
    refine ex_then ?_
    refine cx_seq ?_
    refine cx_region ?_
    refine ox_y rfl (y_loadN 1 [.int .i64 p1_p.fFoot, .int .i64 p1_p.fHour] ag_26 rfl rfl rfl) ?_
    obtain ⟨y7, hy8, h⟩ := bind_some h
    refine ox_y rfl (y_call [.agg #[.int .i64 p1_p.fFoot, .int .i64 p1_p.fHour]] go_71 rfl (fun W2 hW2 => calxref02_Spot_ok p1_p y7 hy8 W2 ) rfl) ?_
    refine ox_y rfl (y_assign_bool rfl) ?_
    refine ox_nil ?_
    refine ex_then ?_
    refine cx_seq ?_
    refine cx_region ?_
    refine ox_y rfl (y_loadN 2 [.int .i64 p2_q.fFoot, .int .i64 p2_q.fHour] ag_26 rfl rfl rfl) ?_
    obtain ⟨y9, hy10, h⟩ := bind_some h
    refine ox_y rfl (y_call [.agg #[.int .i64 p2_q.fFoot, .int .i64 p2_q.fHour]] go_71 rfl (fun W2 hW2 => calxref02_Spot_ok p2_q y9 hy10 W2 ) rfl) ?_
    refine ox_y rfl (y_assign_bool rfl) ?_
    refine ox_nil ?_
    refine ex_then ?_
    refine cx_seq ?_
    refine cx_seq ?_
    refine cx_region ?_
    refine ox_y rfl (y_move_bool rfl) ?_
    refine ox_y rfl (y_not rfl) ?_
    refine ox_y rfl (y_move_bool rfl) ?_
    refine ox_join 3 (fun tm0 => (upd (upd (upd (upd (upd (upd tm0 3 (.pointer (some ⟨b1, 0, none⟩))) 4 (.pointer (some ⟨b2, 0, none⟩))) 5 (.pointer (some ⟨b3, 0, none⟩))) 6 (.int .i64 0)) 7 (.int .i64 0)) 25 (.bool ((!y7) || (!y9))))) (fun tm0 => ?_) (fun key => ?_)
    · refine ox_nil ?_
      refine ex_then ?_
      rcases ite_some h with ⟨hp12, h⟩ | ⟨hp12, h⟩
      · refine cx_true (congrArg Value.bool hp12) ?_
        refine cx_seq ?_
        refine cx_region ?_
        refine ox_y rfl (y_assign_int rfl) ?_
        refine ox_y rfl (y_assign_int rfl) ?_
        refine ox_nil ?_
        refine ex_then ?_
        refine cx_ret ?_
        refine ex_then_ret ?_
        obtain rfl := Option.some.inj h
        exact ex_res2 (.inl rfl) rfl (resV_tmp (v := .int .i64 0) rfl) (resV_tmp (v := .int .i64 1) rfl) (fun W2 hW2 => ⟨rfl, hW2.none⟩)
      · refine cx_false (congrArg Value.bool hp12) ?_
        refine cx_skip ?_
        refine ex_then ?_
        refine cx_seq ?_
        refine cx_region ?_
        refine ox_y rfl (y_loadN 0 [.int .i64 p0_f.fRise, .int .i64 p0_f.fFall, .int .i64 p0_f.fUp, .int .i64 p0_f.fDown, .slice A0_4 p0_f.fLooks.length c0_4] ag_24 rfl rfl rfl) ?_
        refine ox_y rfl (y_loadN 1 [.int .i64 p1_p.fFoot, .int .i64 p1_p.fHour] ag_26 rfl rfl rfl) ?_
        refine ox_y rfl (y_loadN 2 [.int .i64 p2_q.fFoot, .int .i64 p2_q.fHour] ag_26 rfl rfl rfl) ?_
        obtain ⟨y13, hy14, h⟩ := bind_some h
        refine ox_y rfl (y_call [.agg #[.int .i64 p0_f.fRise, .int .i64 p0_f.fFall, .int .i64 p0_f.fUp, .int .i64 p0_f.fDown, .slice A0_4 p0_f.fLooks.length c0_4], .agg #[.int .i64 p1_p.fFoot, .int .i64 p1_p.fHour], .agg #[.int .i64 p2_q.fFoot, .int .i64 p2_q.fHour]] go_74 rfl (fun W2 hW2 => calxref02_far_ok p0_f p1_p p2_q y13 hy14 W2 A0_4 p0_f.fLooks.length c0_4 rfl ((RdL.arg hr0_4) W2 hW2)) rfl) ?_
        refine ox_y rfl (y_assign_int rfl) ?_
        refine ox_y rfl (y_assign_int rfl) ?_
        refine ox_nil ?_
        refine ex_then ?_
        refine cx_ret ?_
        obtain rfl := Option.some.inj h
        exact ex_res2 (.inl rfl) rfl (resV_tmp (v := .int .i64 y13) rfl) (resV_tmp (v := .int .i64 0) rfl) (fun W2 hW2 => ⟨rfl, hW2.none⟩)
    · rcases bool_cases (!y7) with hp11 | hp11
      · refine ox_skip (sees_f rfl rfl rfl rfl hp11) ?_
        refine ox_skip (sees_f rfl rfl rfl rfl hp11) ?_
        refine ox_y rfl (y_pick_tb (congrArg Value.bool hp11) rfl) ?_
        exact key _ _ (keep (keep (keep (keep (keep (keep rfl rfl) rfl) rfl) rfl) rfl) (congrArg Value.bool (or_t hp11)))
      · refine ox_y (sees_t rfl rfl rfl rfl hp11) (y_move_bool rfl) ?_
        refine ox_y (sees_t rfl rfl rfl rfl hp11) (y_not rfl) ?_
        refine ox_y rfl (y_pick_fb (congrArg Value.bool hp11) rfl) ?_
        exact key _ _ (keep (keep (keep (keep (keep (keep rfl rfl) rfl) rfl) rfl) rfl) (congrArg Value.bool (or_f hp11)))

/-! calx/calxref02.Clash -/
set_option maxRecDepth 100000 in
theorem calxref02_Clash_ok (p0 : TFire) (res : TPair) (h : calxref02_Clash p0 = some res) (W : World) (A0_4 : Option Addr) (n0_4 c0_4 : Nat) (hn0_4 : n0_4 = p0.fLooks.length) (hr0_4 : Rd W A0_4 n0_4 c0_4 (encL TLook_cells p0.fLooks)) :
    Calls Try.prog 32 [.agg #[.int .i64 p0.fRise, .int .i64 p0.fFall, .int .i64 p0.fUp, .int .i64 p0.fDown, .slice A0_4 n0_4 c0_4]].toArray W fun e W2 => e = .returned (.agg #[.int .i64 res.fA, .int .i64 res.fB, .bool res.fIs, .int .i64 res.fE]) ∧ Ext W W2 [] := by
  subst hn0_4
  unfold calxref02_Clash at h
  refine calls_enter (m := 82) Try.func32 rfl rfl (Nat.le_of_ble_eq_true rfl) ?_
  refine cx_seq ?_
  refine cx_region ?_
  refine ox_box [.int .i64 p0.fRise, .int .i64 p0.fFall, .int .i64 p0.fUp, .int .i64 p0.fDown, .slice A0_4 p0.fLooks.length c0_4] rfl rfl rfl (fun b1 => ?_)
  refine ox_alloc ze_71 rfl (fun b2 => ?_)
  refine ox_nil ?_
  refine ex_then ?_
  refine cx_seq ?_
  refine cx_region ?_
  refine ox_y rfl (y_loadN 0 [.int .i64 p0.fRise, .int .i64 p0.fFall, .int .i64 p0.fUp, .int .i64 p0.fDown, .slice A0_4 p0.fLooks.length c0_4] ag_24 rfl rfl rfl) ?_
  obtain ⟨y3, hy4, h⟩ := bind_some h
  refine ox_y rfl (y_call [.agg #[.int .i64 p0.fRise, .int .i64 p0.fFall, .int .i64 p0.fUp, .int .i64 p0.fDown, .slice A0_4 p0.fLooks.length c0_4]] go_35 rfl (fun W2 hW2 => calxref02_Check_ok p0 y3 hy4 W2 A0_4 p0.fLooks.length c0_4 rfl ((RdL.arg hr0_4) W2 hW2)) rfl) ?_
  refine ox_y rfl (y_assign_int rfl) ?_
  refine ox_nil ?_
  refine ex_then ?_
  refine cx_seq ?_
  refine cx_seq ?_
  refine cx_region ?_
  refine ox_y rfl (y_move_int rfl) ?_
  refine ox_y rfl (y_neq rfl rfl) ?_
  refine ox_nil ?_
  refine ex_then ?_
  rcases ite_some h with ⟨hp5, h⟩ | ⟨hp5, h⟩
  · refine cx_true (congrArg Value.bool hp5) ?_
    refine cx_seq ?_
    refine cx_region ?_
    refine ox_y rfl (y_move_int rfl) ?_
    refine ox_y rfl (y_buildS [.int .i64 0, .int .i64 0, .bool false, .int .i64 y3] [(0, 1), (1, 1), (2, 1), (3, 1)] ust_71 ze_71 (by kernel_rfl)) ?_
    refine ox_n rfl (y_storeN 1 [.int .i64 0, .int .i64 0, .bool false, .int .i64 y3] sz_71 rfl (Nat.le_of_ble_eq_true rfl) rfl rfl rfl) ?_
    refine ox_nil ?_
    refine ex_then ?_
    refine cx_ret ?_
    refine ex_then_ret ?_
    obtain rfl := Option.some.inj h
    exact ex_res1 (.inl rfl) rfl (resV_cellN 1 [.int .i64 0, .int .i64 0, .bool false, .int .i64 y3] ag_71 rfl rfl rfl) (fun W2 hW2 => ⟨rfl, hW2.none⟩)
  · refine cx_false (congrArg Value.bool hp5) ?_
    refine cx_skip ?_
    refine ex_then ?_
    refine cx_seq ?_
    refine cx_region ?_
    refine ox_alloc ze_71 rfl (fun b6 => ?_)
    refine ox_nil ?_
    refine ex_then ?_
    refine cx_seq ?_
    refine cx_seq ?_
    refine cx_region ?_
    refine ox_y rfl (y_assign_int rfl) ?_
    refine ox_nil ?_
    refine ex_then ?_
    refine cx_block ?_
    obtain ⟨u10, hl29, h⟩ := bind_some h
    refine cx_loop (fun (s : (Int × Int × Int × Bool)) L tm => ∃ (tm0 : Nat → Value), L = [cellsR b1 24 [.int .i64 p0.fRise, .int .i64 p0.fFall, .int .i64 p0.fUp, .int .i64 p0.fDown, .slice A0_4 p0.fLooks.length c0_4], cellsR b2 71 [.int .i64 0, .int .i64 0, .bool false, .int .i64 0], cellsR b6 71 [.int .i64 s.2.1, .int .i64 s.2.2.1, .bool s.2.2.2, .int .i64 0]] ∧ tm = (upd (upd (upd (upd (upd (upd (upd tm0 0 (.agg #[.int .i64 p0.fRise, .int .i64 p0.fFall, .int .i64 p0.fUp, .int .i64 p0.fDown, .slice A0_4 p0.fLooks.length c0_4])) 1 (.pointer (some ⟨b1, 0, none⟩))) 2 (.pointer (some ⟨b2, 0, none⟩))) 3 (.int .i64 y3)) 13 (.bool (y3 != 0))) 4 (.pointer (some ⟨b6, 0, none⟩))) 5 (.int .i64 s.1))) (fun s e L tm => e = .exit 0 ∧ ∃ (tm0 : Nat → Value), L = [cellsR b1 24 [.int .i64 p0.fRise, .int .i64 p0.fFall, .int .i64 p0.fUp, .int .i64 p0.fDown, .slice A0_4 p0.fLooks.length c0_4], cellsR b2 71 [.int .i64 0, .int .i64 0, .bool false, .int .i64 0], cellsR b6 71 [.int .i64 s.2.1, .int .i64 s.2.2.1, .bool s.2.2.2, .int .i64 0]] ∧ tm = (upd (upd (upd (upd (upd (upd (upd tm0 0 (.agg #[.int .i64 p0.fRise, .int .i64 p0.fFall, .int .i64 p0.fUp, .int .i64 p0.fDown, .slice A0_4 p0.fLooks.length c0_4])) 1 (.pointer (some ⟨b1, 0, none⟩))) 2 (.pointer (some ⟨b2, 0, none⟩))) 3 (.int .i64 y3)) 13 (.bool (y3 != 0))) 4 (.pointer (some ⟨b6, 0, none⟩))) 5 (.int .i64 s.1))) hl29 ⟨_, rfl, (keep (keep (keep (keep (keep (keep (keep rfl rfl) rfl) rfl) rfl) rfl) rfl) rfl)⟩ ?_ ?_
    · rintro s9 L tm st ⟨tm0_s9, rfl, rfl⟩ h
      unfold calxref02_Clash_l1 at h
      refine cx_seq ?_
      refine cx_seq ?_
      refine cx_region ?_
      refine ox_y rfl (y_move_int rfl) ?_
      refine ox_y rfl (y_fieldAddr fo_24_4 rfl) ?_
      refine ox_y rfl (y_load1 0 (v := .slice A0_4 p0.fLooks.length c0_4) sc_22 rfl rfl rfl) ?_
      refine ox_y rfl (y_len (us := []) us_22 rfl) ?_
      refine ox_y rfl (y_lss rfl rfl) ?_
      refine ox_nil ?_
      refine ex_then ?_
      rcases ite_some h with ⟨hp11, h⟩ | ⟨hp11, h⟩
      · refine cx_true (congrArg Value.bool hp11) ?_
        refine cx_skip ?_
        refine ex_then ?_
        refine cx_seq ?_
        refine cx_block ?_
        refine cx_seq ?_
        refine cx_region ?_
        refine ox_y rfl (y_assign_int rfl) ?_
        refine ox_nil ?_
        refine ex_then ?_
        refine cx_block ?_
        obtain ⟨u15, hl28, h⟩ := bind_some h
        refine cx_loop (fun (s : (Int × Int × Int × Bool)) L tm => ∃ (tm0 : Nat → Value), L = [cellsR b1 24 [.int .i64 p0.fRise, .int .i64 p0.fFall, .int .i64 p0.fUp, .int .i64 p0.fDown, .slice A0_4 p0.fLooks.length c0_4], cellsR b2 71 [.int .i64 0, .int .i64 0, .bool false, .int .i64 0], cellsR b6 71 [.int .i64 s.2.1, .int .i64 s.2.2.1, .bool s.2.2.2, .int .i64 0]] ∧ tm = (upd (upd (upd (upd (upd (upd (upd (upd (upd tm0 0 (.agg #[.int .i64 p0.fRise, .int .i64 p0.fFall, .int .i64 p0.fUp, .int .i64 p0.fDown, .slice A0_4 p0.fLooks.length c0_4])) 1 (.pointer (some ⟨b1, 0, none⟩))) 2 (.pointer (some ⟨b2, 0, none⟩))) 3 (.int .i64 y3)) 13 (.bool (y3 != 0))) 4 (.pointer (some ⟨b6, 0, none⟩))) 5 (.int .i64 s9.1)) 20 (.bool (decide (s9.1 < ((p0.fLooks.length : Nat) : Int))))) 6 (.int .i64 s.1))) (fun s e L tm => e = .exit 2 ∧ ∃ (tm0 : Nat → Value), L = [cellsR b1 24 [.int .i64 p0.fRise, .int .i64 p0.fFall, .int .i64 p0.fUp, .int .i64 p0.fDown, .slice A0_4 p0.fLooks.length c0_4], cellsR b2 71 [.int .i64 0, .int .i64 0, .bool false, .int .i64 0], cellsR b6 71 [.int .i64 s.2.1, .int .i64 s.2.2.1, .bool s.2.2.2, .int .i64 0]] ∧ tm = (upd (upd (upd (upd (upd (upd (upd (upd (upd tm0 0 (.agg #[.int .i64 p0.fRise, .int .i64 p0.fFall, .int .i64 p0.fUp, .int .i64 p0.fDown, .slice A0_4 p0.fLooks.length c0_4])) 1 (.pointer (some ⟨b1, 0, none⟩))) 2 (.pointer (some ⟨b2, 0, none⟩))) 3 (.int .i64 y3)) 13 (.bool (y3 != 0))) 4 (.pointer (some ⟨b6, 0, none⟩))) 5 (.int .i64 s9.1)) 20 (.bool (decide (s9.1 < ((p0.fLooks.length : Nat) : Int))))) 6 (.int .i64 s.1))) hl28 ⟨_, rfl, (keep (keep (keep (keep (keep (keep (keep (keep (keep rfl rfl) rfl) rfl) rfl) rfl) rfl) rfl) rfl) rfl)⟩ ?_ ?_
        · rintro s14 L tm st ⟨tm0_s14, rfl, rfl⟩ h
          unfold calxref02_Clash_l2 at h
          refine cx_seq ?_
          refine cx_seq ?_
          refine cx_region ?_
          refine ox_y rfl (y_move_int rfl) ?_
          refine ox_y rfl (y_fieldAddr fo_24_4 rfl) ?_
          refine ox_y rfl (y_load1 0 (v := .slice A0_4 p0.fLooks.length c0_4) sc_22 rfl rfl rfl) ?_
          refine ox_y rfl (y_len (us := []) us_22 rfl) ?_
          refine ox_y rfl (y_lss rfl rfl) ?_
          refine ox_nil ?_
          refine ex_then ?_
          rcases ite_some h with ⟨hp16, h⟩ | ⟨hp16, h⟩
          · refine cx_true (congrArg Value.bool hp16) ?_
            refine cx_skip ?_
            refine ex_then ?_
            refine cx_seq ?_
            refine cx_block ?_
            refine cx_seq ?_
            refine cx_region ?_
            refine ox_y rfl (y_fieldAddr fo_24_4 rfl) ?_
            refine ox_y rfl (y_load1 0 (v := .slice A0_4 p0.fLooks.length c0_4) sc_22 rfl rfl rfl) ?_
            refine ox_y rfl (y_move_int rfl) ?_
            obtain ⟨hg17, h⟩ := guardO_some h
            refine ox_y rfl (y_indexR sl_22 (by decide) hg17.1 hg17.2 (RdL.arg hr0_4) (encL_len TLook_cells_len rfl) rfl rfl) ?_
            refine ox_y rfl (y_fieldAddrR (A := A0_4) (j := (Int.toNat s9.1 * 5)) fo_34_0 rfl) ?_
            refine ox_y rfl (y_loadR1 (A := A0_4) (j := ((Int.toNat s9.1 * 5) + 0)) (v := .int .i64 ((rdL p0.fLooks s9.1).fID)) sc_3 (RdL.arg hr0_4) rfl (encL_get TLook_cells_len hg17.1 (lt_nat hg17.2 rfl) rfl)) ?_
            refine ox_y rfl (y_assign_int rfl) ?_
            refine ox_nil ?_
            refine ex_then ?_
            refine cx_seq ?_
            refine cx_region ?_
            refine ox_y rfl (y_fieldAddr fo_24_4 rfl) ?_
            refine ox_y rfl (y_load1 0 (v := .slice A0_4 p0.fLooks.length c0_4) sc_22 rfl rfl rfl) ?_
            refine ox_y rfl (y_move_int rfl) ?_
            obtain ⟨hg18, h⟩ := guardO_some h
            refine ox_y rfl (y_indexR sl_22 (by decide) hg18.1 hg18.2 (RdL.arg hr0_4) (encL_len TLook_cells_len rfl) rfl rfl) ?_
            refine ox_y rfl (y_fieldAddrR (A := A0_4) (j := (Int.toNat s14.1 * 5)) fo_34_0 rfl) ?_
            refine ox_y rfl (y_loadR1 (A := A0_4) (j := ((Int.toNat s14.1 * 5) + 0)) (v := .int .i64 ((rdL p0.fLooks s14.1).fID)) sc_3 (RdL.arg hr0_4) rfl (encL_get TLook_cells_len hg18.1 (lt_nat hg18.2 rfl) rfl)) ?_
            refine ox_y rfl (y_assign_int rfl) ?_
            refine ox_nil ?_
            refine ex_then ?_
            refine cx_seq ?_
            refine cx_draws 13 mixed (by kernel_rfl) (by kernel_rfl) ?_
            refine qx_y rfl (y_loadN 0 [.int .i64 p0.fRise, .int .i64 p0.fFall, .int .i64 p0.fUp, .int .i64 p0.fDown, .slice A0_4 p0.fLooks.length c0_4] ag_24 rfl rfl rfl) ?_
            refine qx_y rfl (y_fieldAddr fo_24_4 rfl) ?_
            refine qx_y rfl (y_load1 0 (v := .slice A0_4 p0.fLooks.length c0_4) sc_22 rfl rfl rfl) ?_
            refine qx_y rfl (y_move_int rfl) ?_
            obtain ⟨hg19, h⟩ := guardO_some h
            refine qx_y rfl (y_indexR sl_22 (by decide) hg19.1 hg19.2 (RdL.arg hr0_4) (encL_len TLook_cells_len rfl) rfl rfl) ?_
            refine qx_y rfl (y_loadRN (A := A0_4) (j := (Int.toNat s9.1 * 5)) [.int .i64 ((rdL p0.fLooks s9.1).fID), .int .i64 ((rdL p0.fLooks s9.1).fAt.fFoot), .int .i64 ((rdL p0.fLooks s9.1).fAt.fHour), .int .i64 ((rdL p0.fLooks s9.1).fHeat.fLo), .int .i64 ((rdL p0.fLooks s9.1).fHeat.fHi)] ag_34 (Nat.succ_pos _) (RdL.arg hr0_4) rfl (encL_gets TLook_cells_len hg19.1 (lt_nat hg19.2 rfl))) ?_
            refine qx_y rfl (y_fieldAddr fo_24_4 rfl) ?_
            refine qx_y rfl (y_load1 0 (v := .slice A0_4 p0.fLooks.length c0_4) sc_22 rfl rfl rfl) ?_
            refine qx_y rfl (y_move_int rfl) ?_
            obtain ⟨hg20, h⟩ := guardO_some h
            refine qx_y rfl (y_indexR sl_22 (by decide) hg20.1 hg20.2 (RdL.arg hr0_4) (encL_len TLook_cells_len rfl) rfl rfl) ?_
            refine qx_y rfl (y_loadRN (A := A0_4) (j := (Int.toNat s14.1 * 5)) [.int .i64 ((rdL p0.fLooks s14.1).fID), .int .i64 ((rdL p0.fLooks s14.1).fAt.fFoot), .int .i64 ((rdL p0.fLooks s14.1).fAt.fHour), .int .i64 ((rdL p0.fLooks s14.1).fHeat.fLo), .int .i64 ((rdL p0.fLooks s14.1).fHeat.fHi)] ag_34 (Nat.succ_pos _) (RdL.arg hr0_4) rfl (encL_gets TLook_cells_len hg20.1 (lt_nat hg20.2 rfl))) ?_
            obtain ⟨y21, hy22, h⟩ := bind_some h
            refine qx_y rfl (y_call [.agg #[.int .i64 p0.fRise, .int .i64 p0.fFall, .int .i64 p0.fUp, .int .i64 p0.fDown, .slice A0_4 p0.fLooks.length c0_4], .agg #[.int .i64 ((rdL p0.fLooks s9.1).fID), .int .i64 ((rdL p0.fLooks s9.1).fAt.fFoot), .int .i64 ((rdL p0.fLooks s9.1).fAt.fHour), .int .i64 ((rdL p0.fLooks s9.1).fHeat.fLo), .int .i64 ((rdL p0.fLooks s9.1).fHeat.fHi)], .agg #[.int .i64 ((rdL p0.fLooks s14.1).fID), .int .i64 ((rdL p0.fLooks s14.1).fAt.fFoot), .int .i64 ((rdL p0.fLooks s14.1).fAt.fHour), .int .i64 ((rdL p0.fLooks s14.1).fHeat.fLo), .int .i64 ((rdL p0.fLooks s14.1).fHeat.fHi)]] go_75 rfl (fun W2 hW2 => calxref02_against_ok p0 (TLook.mk ((rdL p0.fLooks s9.1).fID) (TSpot.mk ((rdL p0.fLooks s9.1).fAt.fFoot) ((rdL p0.fLooks s9.1).fAt.fHour)) (TSpan.mk ((rdL p0.fLooks s9.1).fHeat.fLo) ((rdL p0.fLooks s9.1).fHeat.fHi))) (TLook.mk ((rdL p0.fLooks s14.1).fID) (TSpot.mk ((rdL p0.fLooks s14.1).fAt.fFoot) ((rdL p0.fLooks s14.1).fAt.fHour)) (TSpan.mk ((rdL p0.fLooks s14.1).fHeat.fLo) ((rdL p0.fLooks s14.1).fHeat.fHi))) y21 hy22 W2 A0_4 p0.fLooks.length c0_4 rfl ((RdL.arg hr0_4) W2 hW2)) rfl) ?_
            refine qx_y rfl (y_assign_bool rfl) ?_
            refine qx_nil ?_
            refine ox_nil ?_
            refine ex_then ?_
            refine cx_seq ?_
            refine cx_region ?_
            refine ox_y rfl (y_move_bool rfl) ?_
            refine ox_y rfl (y_move_bool rfl) ?_
            refine ox_join 22 (fun tm0 => (upd (upd (upd (upd (upd (upd (upd (upd (upd (upd (upd (upd (upd (upd tm0 0 (.agg #[.int .i64 p0.fRise, .int .i64 p0.fFall, .int .i64 p0.fUp, .int .i64 p0.fDown, .slice A0_4 p0.fLooks.length c0_4])) 1 (.pointer (some ⟨b1, 0, none⟩))) 2 (.pointer (some ⟨b2, 0, none⟩))) 3 (.int .i64 y3)) 13 (.bool (y3 != 0))) 4 (.pointer (some ⟨b6, 0, none⟩))) 5 (.int .i64 s9.1)) 20 (.bool (decide (s9.1 < ((p0.fLooks.length : Nat) : Int))))) 6 (.int .i64 s14.1)) 27 (.bool (decide (s14.1 < ((p0.fLooks.length : Nat) : Int))))) 7 (.int .i64 ((rdL p0.fLooks s9.1).fID))) 8 (.int .i64 ((rdL p0.fLooks s14.1).fID))) 9 (.bool y21)) 77 (.bool (y21 && (((!s14.2.2.2) || (decide ((rdL p0.fLooks s9.1).fID < s14.2.1))) || ((((rdL p0.fLooks s9.1).fID) == s14.2.1) && (decide ((rdL p0.fLooks s14.1).fID < s14.2.2.1)))))))) (fun tm0 => ?_) (fun key => ?_)
            · refine ox_nil ?_
              refine ex_then ?_
              rcases ite_some h with ⟨hp24, h⟩ | ⟨hp24, h⟩
              · refine cx_true (congrArg Value.bool hp24) ?_
                refine cx_region ?_
                refine ox_y rfl (y_move_int rfl) ?_
                refine ox_y rfl (y_move_int rfl) ?_
                refine ox_y rfl (y_buildS [.int .i64 ((rdL p0.fLooks s9.1).fID), .int .i64 ((rdL p0.fLooks s14.1).fID), .bool true, .int .i64 0] [(0, 1), (1, 1), (2, 1), (3, 1)] ust_71 ze_71 (by kernel_rfl)) ?_
                refine ox_n rfl (y_storeN 2 [.int .i64 ((rdL p0.fLooks s9.1).fID), .int .i64 ((rdL p0.fLooks s14.1).fID), .bool true, .int .i64 0] sz_71 rfl (Nat.le_of_ble_eq_true rfl) rfl rfl rfl) ?_
                refine ox_nil ?_
                refine ex_block ?_
                refine ex_then ?_
                refine cx_region ?_
                refine ox_y rfl (y_move_int rfl) ?_
                refine ox_y rfl (y_add rfl rfl) ?_
                refine ox_y rfl (y_assign_int rfl) ?_
                refine ox_nil ?_
                obtain rfl := Option.some.inj h
                exact ex_next ⟨_, rfl, (keep (keep (keep (keep (keep (keep (keep (keep (keep rfl rfl) rfl) rfl) rfl) rfl) rfl) rfl) rfl) rfl)⟩
              · refine cx_false (congrArg Value.bool hp24) ?_
                refine cx_skip ?_
                refine ex_block ?_
                refine ex_then ?_
                refine cx_region ?_
                refine ox_y rfl (y_move_int rfl) ?_
                refine ox_y rfl (y_add rfl rfl) ?_
                refine ox_y rfl (y_assign_int rfl) ?_
                refine ox_nil ?_
                obtain rfl := Option.some.inj h
                exact ex_next ⟨_, rfl, (keep (keep (keep (keep (keep (keep (keep (keep (keep rfl rfl) rfl) rfl) rfl) rfl) rfl) rfl) rfl) rfl)⟩
            · rcases bool_cases y21 with hp23 | hp23
              · refine ox_y (sees_t rfl rfl rfl rfl hp23) (y_fieldAddr fo_71_2 rfl) ?_
                refine ox_y (sees_t rfl rfl rfl rfl hp23) (y_load1 2 (v := .bool s14.2.2.2) sc_4 rfl rfl rfl) ?_
                refine ox_y (sees_t rfl rfl rfl rfl hp23) (y_not rfl) ?_
                refine ox_y (sees_t rfl rfl rfl rfl hp23) (y_move_bool rfl) ?_
                refine ox_join 5 (fun tm0 => (upd (upd (upd (upd (upd (upd (upd (upd (upd (upd (upd (upd (upd (upd (upd tm0 0 (.agg #[.int .i64 p0.fRise, .int .i64 p0.fFall, .int .i64 p0.fUp, .int .i64 p0.fDown, .slice A0_4 p0.fLooks.length c0_4])) 1 (.pointer (some ⟨b1, 0, none⟩))) 2 (.pointer (some ⟨b2, 0, none⟩))) 3 (.int .i64 y3)) 13 (.bool (y3 != 0))) 4 (.pointer (some ⟨b6, 0, none⟩))) 5 (.int .i64 s9.1)) 20 (.bool (decide (s9.1 < ((p0.fLooks.length : Nat) : Int))))) 6 (.int .i64 s14.1)) 27 (.bool (decide (s14.1 < ((p0.fLooks.length : Nat) : Int))))) 7 (.int .i64 ((rdL p0.fLooks s9.1).fID))) 8 (.int .i64 ((rdL p0.fLooks s14.1).fID))) 9 (.bool y21)) 55 (.bool y21)) 64 (.bool ((!s14.2.2.2) || (decide ((rdL p0.fLooks s9.1).fID < s14.2.1)))))) (fun tm0 => ?_) (fun key => ?_)
                · refine ox_y (sees_t rfl rfl rfl rfl hp23) (y_move_bool rfl) ?_
                  refine ox_join 11 (fun tm0 => (upd (upd (upd (upd (upd (upd (upd (upd (upd (upd (upd (upd (upd (upd (upd tm0 0 (.agg #[.int .i64 p0.fRise, .int .i64 p0.fFall, .int .i64 p0.fUp, .int .i64 p0.fDown, .slice A0_4 p0.fLooks.length c0_4])) 1 (.pointer (some ⟨b1, 0, none⟩))) 2 (.pointer (some ⟨b2, 0, none⟩))) 3 (.int .i64 y3)) 13 (.bool (y3 != 0))) 4 (.pointer (some ⟨b6, 0, none⟩))) 5 (.int .i64 s9.1)) 20 (.bool (decide (s9.1 < ((p0.fLooks.length : Nat) : Int))))) 6 (.int .i64 s14.1)) 27 (.bool (decide (s14.1 < ((p0.fLooks.length : Nat) : Int))))) 7 (.int .i64 ((rdL p0.fLooks s9.1).fID))) 8 (.int .i64 ((rdL p0.fLooks s14.1).fID))) 9 (.bool y21)) 55 (.bool y21)) 76 (.bool (((!s14.2.2.2) || (decide ((rdL p0.fLooks s9.1).fID < s14.2.1))) || ((((rdL p0.fLooks s9.1).fID) == s14.2.1) && (decide ((rdL p0.fLooks s14.1).fID < s14.2.2.1))))))) (fun tm0 => ?_) (fun key => ?_)
                  · refine ox_y rfl (y_pick_tb (congrArg Value.bool hp23) rfl) ?_
                    exact key _ _ (keep (keep (keep (keep (keep (keep (keep (keep (keep (keep (keep (keep (keep (keep rfl rfl) rfl) rfl) rfl) rfl) rfl) rfl) rfl) rfl) rfl) rfl) rfl) rfl) (congrArg Value.bool (and_t hp23)))
                  · rcases bool_cases ((!s14.2.2.2) || (decide ((rdL p0.fLooks s9.1).fID < s14.2.1))) with hp26 | hp26
                    · refine ox_skip (sees_f rfl rfl rfl rfl hp26) ?_
                      refine ox_skip (sees_f rfl rfl rfl rfl hp26) ?_
                      refine ox_skip (sees_f rfl rfl rfl rfl hp26) ?_
                      refine ox_skip (sees_f rfl rfl rfl rfl hp26) ?_
                      refine ox_skip (sees_f rfl rfl rfl rfl hp26) ?_
                      refine ox_skip rfl ?_
                      refine ox_skip rfl ?_
                      refine ox_skip rfl ?_
                      refine ox_skip rfl ?_
                      refine ox_skip (sees_f rfl rfl rfl rfl hp26) ?_
                      refine ox_y (sees_t rfl rfl rfl rfl hp23) (y_pick_tb (congrArg Value.bool hp26) rfl) ?_
                      exact key _ _ (keep (keep (keep (keep (keep (keep (keep (keep (keep (keep (keep (keep (keep (keep (keep rfl rfl) rfl) rfl) rfl) rfl) rfl) rfl) rfl) rfl) rfl) rfl) rfl) rfl) rfl) (congrArg Value.bool (or_t hp26)))
                    · refine ox_y (sees_t rfl rfl rfl rfl hp26) (y_move_int rfl) ?_
                      refine ox_y (sees_t rfl rfl rfl rfl hp26) (y_fieldAddr fo_71_0 rfl) ?_
                      refine ox_y (sees_t rfl rfl rfl rfl hp26) (y_load1 2 (v := .int .i64 s14.2.1) sc_3 rfl rfl rfl) ?_
                      refine ox_y (sees_t rfl rfl rfl rfl hp26) (y_eql rfl rfl) ?_
                      refine ox_y (sees_t rfl rfl rfl rfl hp26) (y_move_bool rfl) ?_
                      refine ox_join 5 (fun tm0 => (upd (upd (upd (upd (upd (upd (upd (upd (upd (upd (upd (upd (upd (upd (upd (upd tm0 0 (.agg #[.int .i64 p0.fRise, .int .i64 p0.fFall, .int .i64 p0.fUp, .int .i64 p0.fDown, .slice A0_4 p0.fLooks.length c0_4])) 1 (.pointer (some ⟨b1, 0, none⟩))) 2 (.pointer (some ⟨b2, 0, none⟩))) 3 (.int .i64 y3)) 13 (.bool (y3 != 0))) 4 (.pointer (some ⟨b6, 0, none⟩))) 5 (.int .i64 s9.1)) 20 (.bool (decide (s9.1 < ((p0.fLooks.length : Nat) : Int))))) 6 (.int .i64 s14.1)) 27 (.bool (decide (s14.1 < ((p0.fLooks.length : Nat) : Int))))) 7 (.int .i64 ((rdL p0.fLooks s9.1).fID))) 8 (.int .i64 ((rdL p0.fLooks s14.1).fID))) 9 (.bool y21)) 55 (.bool y21)) 65 (.bool ((!s14.2.2.2) || (decide ((rdL p0.fLooks s9.1).fID < s14.2.1))))) 75 (.bool ((((rdL p0.fLooks s9.1).fID) == s14.2.1) && (decide ((rdL p0.fLooks s14.1).fID < s14.2.2.1)))))) (fun tm0 => ?_) (fun key => ?_)
                      · refine ox_y (sees_t rfl rfl rfl rfl hp23) (y_pick_fb (congrArg Value.bool hp26) rfl) ?_
                        exact key _ _ (keep (keep (keep (keep (keep (keep (keep (keep (keep (keep (keep (keep (keep (keep (keep rfl rfl) rfl) rfl) rfl) rfl) rfl) rfl) rfl) rfl) rfl) rfl) rfl) rfl) rfl) (congrArg Value.bool (or_f hp26)))
                      · rcases bool_cases (((rdL p0.fLooks s9.1).fID) == s14.2.1) with hp27 | hp27
                        · refine ox_y (sees_t rfl rfl rfl rfl hp27) (y_move_int rfl) ?_
                          refine ox_y (sees_t rfl rfl rfl rfl hp27) (y_fieldAddr fo_71_1 rfl) ?_
                          refine ox_y (sees_t rfl rfl rfl rfl hp27) (y_load1 2 (v := .int .i64 s14.2.2.1) sc_3 rfl rfl rfl) ?_
                          refine ox_y (sees_t rfl rfl rfl rfl hp27) (y_lss rfl rfl) ?_
                          refine ox_y (sees_t rfl rfl rfl rfl hp26) (y_pick_tb (congrArg Value.bool hp27) rfl) ?_
                          exact key _ _ (keep (keep (keep (keep (keep (keep (keep (keep (keep (keep (keep (keep (keep (keep (keep (keep rfl rfl) rfl) rfl) rfl) rfl) rfl) rfl) rfl) rfl) rfl) rfl) rfl) rfl) rfl) rfl) (congrArg Value.bool (and_t hp27)))
                        · refine ox_skip (sees_f rfl rfl rfl rfl hp27) ?_
                          refine ox_skip (sees_f rfl rfl rfl rfl hp27) ?_
                          refine ox_skip (sees_f rfl rfl rfl rfl hp27) ?_
                          refine ox_skip (sees_f rfl rfl rfl rfl hp27) ?_
                          refine ox_y (sees_t rfl rfl rfl rfl hp26) (y_pick_fb (congrArg Value.bool hp27) rfl) ?_
                          exact key _ _ (keep (keep (keep (keep (keep (keep (keep (keep (keep (keep (keep (keep (keep (keep (keep (keep rfl rfl) rfl) rfl) rfl) rfl) rfl) rfl) rfl) rfl) rfl) rfl) rfl) rfl) rfl) rfl) (congrArg Value.bool (and_f hp27)))
                · rcases bool_cases (!s14.2.2.2) with hp25 | hp25
                  · refine ox_skip (sees_f rfl rfl rfl rfl hp25) ?_
                    refine ox_skip (sees_f rfl rfl rfl rfl hp25) ?_
                    refine ox_skip (sees_f rfl rfl rfl rfl hp25) ?_
                    refine ox_skip (sees_f rfl rfl rfl rfl hp25) ?_
                    refine ox_y (sees_t rfl rfl rfl rfl hp23) (y_pick_tb (congrArg Value.bool hp25) rfl) ?_
                    exact key _ _ (keep (keep (keep (keep (keep (keep (keep (keep (keep (keep (keep (keep (keep (keep (keep rfl rfl) rfl) rfl) rfl) rfl) rfl) rfl) rfl) rfl) rfl) rfl) rfl) rfl) rfl) (congrArg Value.bool (or_t hp25)))
                  · refine ox_y (sees_t rfl rfl rfl rfl hp25) (y_move_int rfl) ?_
                    refine ox_y (sees_t rfl rfl rfl rfl hp25) (y_fieldAddr fo_71_0 rfl) ?_
                    refine ox_y (sees_t rfl rfl rfl rfl hp25) (y_load1 2 (v := .int .i64 s14.2.1) sc_3 rfl rfl rfl) ?_
                    refine ox_y (sees_t rfl rfl rfl rfl hp25) (y_lss rfl rfl) ?_
                    refine ox_y (sees_t rfl rfl rfl rfl hp23) (y_pick_fb (congrArg Value.bool hp25) rfl) ?_
                    exact key _ _ (keep (keep (keep (keep (keep (keep (keep (keep (keep (keep (keep (keep (keep (keep (keep rfl rfl) rfl) rfl) rfl) rfl) rfl) rfl) rfl) rfl) rfl) rfl) rfl) rfl) rfl) (congrArg Value.bool (or_f hp25)))
              · refine ox_skip (sees_f rfl rfl rfl rfl hp23) ?_
                refine ox_skip (sees_f rfl rfl rfl rfl hp23) ?_
                refine ox_skip (sees_f rfl rfl rfl rfl hp23) ?_
                refine ox_skip (sees_f rfl rfl rfl rfl hp23) ?_
                refine ox_skip rfl ?_
                refine ox_skip rfl ?_
                refine ox_skip rfl ?_
                refine ox_skip rfl ?_
                refine ox_skip (sees_f rfl rfl rfl rfl hp23) ?_
                refine ox_skip (sees_f rfl rfl rfl rfl hp23) ?_
                refine ox_skip rfl ?_
                refine ox_skip rfl ?_
                refine ox_skip rfl ?_
                refine ox_skip rfl ?_
                refine ox_skip rfl ?_
                refine ox_skip rfl ?_
                refine ox_skip rfl ?_
                refine ox_skip rfl ?_
                refine ox_skip rfl ?_
                refine ox_skip rfl ?_
                refine ox_skip (sees_f rfl rfl rfl rfl hp23) ?_
                refine ox_y rfl (y_pick_fb (congrArg Value.bool hp23) rfl) ?_
                exact key _ _ (keep (keep (keep (keep (keep (keep (keep (keep (keep (keep (keep (keep (keep (keep rfl rfl) rfl) rfl) rfl) rfl) rfl) rfl) rfl) rfl) rfl) rfl) rfl) rfl) (congrArg Value.bool (and_f hp23)))
          · refine cx_false (congrArg Value.bool hp16) ?_
            refine cx_exit ?_
            refine ex_then_exit ?_
            obtain rfl := Option.some.inj h
            exact ex_stop ⟨rfl, _, rfl, (keep (keep (keep (keep (keep (keep (keep (keep (keep rfl rfl) rfl) rfl) rfl) rfl) rfl) rfl) rfl) rfl)⟩
        · intro e L tm hJ
          obtain ⟨rfl, tm0_u15, rfl, rfl⟩ := hJ
          refine ⟨(by intro hc; cases hc), ?_⟩
          refine ex_block_here ?_
          refine ex_block ?_
          refine ex_then ?_
          refine cx_region ?_
          refine ox_y rfl (y_move_int rfl) ?_
          refine ox_y rfl (y_add rfl rfl) ?_
          refine ox_y rfl (y_assign_int rfl) ?_
          refine ox_nil ?_
          obtain rfl := Option.some.inj h
          exact ex_next ⟨_, rfl, (keep (keep (keep (keep (keep (keep (keep rfl rfl) rfl) rfl) rfl) rfl) rfl) rfl)⟩
      · refine cx_false (congrArg Value.bool hp11) ?_
        refine cx_exit ?_
        refine ex_then_exit ?_
        obtain rfl := Option.some.inj h
        exact ex_stop ⟨rfl, _, rfl, (keep (keep (keep (keep (keep (keep (keep rfl rfl) rfl) rfl) rfl) rfl) rfl) rfl)⟩
    · intro e L tm hJ
      obtain ⟨rfl, tm0_u10, rfl, rfl⟩ := hJ
      refine ⟨(by intro hc; cases hc), ?_⟩
      refine ex_block_here ?_
      refine ex_then ?_
      refine cx_seq ?_
      refine cx_region ?_
      refine ox_y rfl (y_loadN 2 [.int .i64 u10.2.1, .int .i64 u10.2.2.1, .bool u10.2.2.2, .int .i64 0] ag_71 rfl rfl rfl) ?_
      refine ox_n rfl (y_storeN 1 [.int .i64 u10.2.1, .int .i64 u10.2.2.1, .bool u10.2.2.2, .int .i64 0] sz_71 rfl (Nat.le_of_ble_eq_true rfl) rfl rfl rfl) ?_
      refine ox_nil ?_
      refine ex_then ?_
      refine cx_ret ?_
      obtain rfl := Option.some.inj h
      exact ex_res1 (.inl rfl) rfl (resV_cellN 1 [.int .i64 u10.2.1, .int .i64 u10.2.2.1, .bool u10.2.2.2, .int .i64 0] ag_71 rfl rfl rfl) (fun W2 hW2 => ⟨rfl, hW2.none⟩)

/-! calx/calxref02.in -/
set_option maxRecDepth 100000 in
theorem calxref02_in_ok (p0_l : (List Int)) (p1_n : Int) (res : Bool) (h : calxref02_in p0_l p1_n = some res) (W : World) (A0_0 : Option Addr) (n0_0 c0_0 : Nat) (hn0_0 : n0_0 = p0_l.length) (hr0_0 : Rd W A0_0 n0_0 c0_0 (encL cI p0_l)) :
    Calls Try.prog 108 [.slice A0_0 n0_0 c0_0, .int .i64 p1_n].toArray W fun e W2 => e = .returned (.bool res) ∧ Ext W W2 [] := by
  subst hn0_0
  unfold calxref02_in at h
  refine calls_enter (m := 18) Try.func108 rfl rfl (Nat.le_of_ble_eq_true rfl) ?_
  refine cx_seq ?_
  refine cx_region ?_
  refine ox_y rfl (y_assign_bool rfl) ?_
  refine ox_nil ?_
  refine ex_then ?_
  refine cx_seq ?_
  refine cx_seq ?_
  refine cx_region ?_
  refine ox_y rfl (y_assign_int rfl) ?_
  refine ox_nil ?_
  refine ex_then ?_
  refine cx_block ?_
  obtain ⟨u3, hl7, h⟩ := bind_some h
  refine cx_loop (fun (s : (Bool × Int)) L tm => ∃ (tm0 : Nat → Value), L = [] ∧ tm = (upd (upd (upd (upd tm0 0 (.slice A0_0 p0_l.length c0_0)) 1 (.int .i64 p1_n)) 4 (.bool s.1)) 5 (.int .i64 s.2))) (fun | (.inl s), e, L, tm => e = .ret ∧ ∃ (tm0 : Nat → Value), L = [] ∧ tm = (upd (upd (upd (upd tm0 0 (.slice A0_0 p0_l.length c0_0)) 1 (.int .i64 p1_n)) 4 (.bool s.1)) 5 (.int .i64 s.2)) | (.inr s), e, L, tm => e = .exit 0 ∧ ∃ (tm0 : Nat → Value), L = [] ∧ tm = (upd (upd (upd (upd tm0 0 (.slice A0_0 p0_l.length c0_0)) 1 (.int .i64 p1_n)) 4 (.bool s.1)) 5 (.int .i64 s.2))) hl7 ⟨_, rfl, (keep (keep (keep (keep rfl rfl) rfl) rfl) rfl)⟩ ?_ ?_
  · rintro s2 L tm st ⟨tm0_s2, rfl, rfl⟩ h
    unfold calxref02_in_l1 at h
    refine cx_seq ?_
    refine cx_seq ?_
    refine cx_region ?_
    refine ox_y rfl (y_move_int rfl) ?_
    refine ox_y rfl (y_move_slice rfl) ?_
    refine ox_y rfl (y_len (us := []) us_41 rfl) ?_
    refine ox_y rfl (y_lss rfl rfl) ?_
    refine ox_nil ?_
    refine ex_then ?_
    rcases ite_some h with ⟨hp4, h⟩ | ⟨hp4, h⟩
    · refine cx_true (congrArg Value.bool hp4) ?_
      refine cx_skip ?_
      refine ex_then ?_
      refine cx_seq ?_
      refine cx_block ?_
      refine cx_seq ?_
      refine cx_region ?_
      refine ox_y rfl (y_move_slice rfl) ?_
      refine ox_y rfl (y_move_int rfl) ?_
      obtain ⟨hg5, h⟩ := guardO_some h
      refine ox_y rfl (y_indexR sl_41 (by decide) hg5.1 hg5.2 (RdL.arg hr0_0) (encL_len cI_len rfl) rfl rfl) ?_
      refine ox_y rfl (y_loadR1 (A := A0_0) (j := (Int.toNat s2.2 * 1)) (v := .int .i64 (rdL p0_l s2.2)) sc_3 (RdL.arg hr0_0) rfl (encL_get0 cI_len hg5.1 (lt_nat hg5.2 rfl) rfl)) ?_
      refine ox_y rfl (y_move_int rfl) ?_
      refine ox_y rfl (y_eql rfl rfl) ?_
      refine ox_nil ?_
      refine ex_then ?_
      rcases ite_some h with ⟨hp6, h⟩ | ⟨hp6, h⟩
      · refine cx_true (congrArg Value.bool hp6) ?_
        refine cx_seq ?_
        refine cx_region ?_
        refine ox_y rfl (y_assign_bool rfl) ?_
        refine ox_nil ?_
        refine ex_then ?_
        refine cx_ret ?_
        refine ex_block_ret ?_
        refine ex_then_ret ?_
        obtain rfl := Option.some.inj h
        exact ex_stop ⟨rfl, _, rfl, (keep (keep (keep (keep rfl rfl) rfl) rfl) rfl)⟩
      · refine cx_false (congrArg Value.bool hp6) ?_
        refine cx_skip ?_
        refine ex_block ?_
        refine ex_then ?_
        refine cx_region ?_
        refine ox_y rfl (y_move_int rfl) ?_
        refine ox_y rfl (y_add rfl rfl) ?_
        refine ox_y rfl (y_assign_int rfl) ?_
        refine ox_nil ?_
        obtain rfl := Option.some.inj h
        exact ex_next ⟨_, rfl, (keep (keep (keep (keep rfl rfl) rfl) rfl) rfl)⟩
    · refine cx_false (congrArg Value.bool hp4) ?_
      refine cx_exit ?_
      refine ex_then_exit ?_
      obtain rfl := Option.some.inj h
      exact ex_stop ⟨rfl, _, rfl, (keep (keep (keep (keep rfl rfl) rfl) rfl) rfl)⟩
  · intro e L tm hJ
    rcases u3 with u8 | u9
    · dsimp only at h hJ
      obtain ⟨rfl, tm0_u8, rfl, rfl⟩ := hJ
      refine ⟨(by intro hc; cases hc), ?_⟩
      refine ex_block_ret ?_
      refine ex_then_ret ?_
      obtain rfl := Option.some.inj h
      exact ex_res1 (.inl rfl) rfl (resV_tmp (v := .bool u8.1) rfl) (fun W2 hW2 => ⟨rfl, hW2.none⟩)
    · dsimp only at h hJ
      obtain ⟨rfl, tm0_u9, rfl, rfl⟩ := hJ
      refine ⟨(by intro hc; cases hc), ?_⟩
      refine ex_block_here ?_
      refine ex_then ?_
      refine cx_seq ?_
      refine cx_region ?_
      refine ox_y rfl (y_assign_bool rfl) ?_
      refine ox_nil ?_
      refine ex_then ?_
      refine cx_ret ?_
      obtain rfl := Option.some.inj h
      exact ex_res1 (.inl rfl) rfl (resV_tmp (v := .bool false) rfl) (fun W2 hW2 => ⟨rfl, hW2.none⟩)

/-! calx/calxref02.without -/
set_option maxRecDepth 100000 in
theorem calxref02_without_ok (p0_f : TFire) (p1_ids : (List Int)) (res : TFire) (h : calxref02_without p0_f p1_ids = some res) (W : World) (A0_4 : Option Addr) (n0_4 c0_4 : Nat) (hn0_4 : n0_4 = p0_f.fLooks.length) (hr0_4 : Rd W A0_4 n0_4 c0_4 (encL TLook_cells p0_f.fLooks)) (A1_0 : Option Addr) (n1_0 c1_0 : Nat) (hn1_0 : n1_0 = p1_ids.length) (hr1_0 : Rd W A1_0 n1_0 c1_0 (encL cI p1_ids)) :
    Calls Try.prog 77 [.agg #[.int .i64 p0_f.fRise, .int .i64 p0_f.fFall, .int .i64 p0_f.fUp, .int .i64 p0_f.fDown, .slice A0_4 n0_4 c0_4], .slice A1_0 n1_0 c1_0].toArray W fun e W2 => ∃ x : Option Addr × Nat × Nat, x.2.1 = res.fLooks.length ∧ e = .returned (.agg #[.int .i64 res.fRise, .int .i64 res.fFall, .int .i64 res.fUp, .int .i64 res.fDown, .slice x.1 x.2.1 x.2.2]) ∧ Ext W W2 [rowR x.1 x.2.2 34 5 x.2.1 (encL TLook_cells res.fLooks)] := by
  subst hn0_4
  subst hn1_0
  unfold calxref02_without at h
  refine calls_enter (m := 45) Try.func77 rfl rfl (Nat.le_of_ble_eq_true rfl) ?_
  refine cx_seq ?_
  refine cx_region ?_
  refine ox_box [.int .i64 p0_f.fRise, .int .i64 p0_f.fFall, .int .i64 p0_f.fUp, .int .i64 p0_f.fDown, .slice A0_4 p0_f.fLooks.length c0_4] rfl rfl rfl (fun b1 => ?_)
  refine ox_alloc ze_24 rfl (fun b2 => ?_)
  refine ox_nil ?_
  refine ex_then ?_
  refine cx_seq ?_
  refine cx_region ?_
  refine ox_y rfl (y_fieldAddr fo_24_0 rfl) ?_
  refine ox_y rfl (y_load1 0 (v := .int .i64 p0_f.fRise) sc_3 rfl rfl rfl) ?_
  refine ox_y rfl (y_fieldAddr fo_24_1 rfl) ?_
  refine ox_y rfl (y_load1 0 (v := .int .i64 p0_f.fFall) sc_3 rfl rfl rfl) ?_
  refine ox_y rfl (y_fieldAddr fo_24_2 rfl) ?_
  refine ox_y rfl (y_load1 0 (v := .int .i64 p0_f.fUp) sc_3 rfl rfl rfl) ?_
  refine ox_y rfl (y_fieldAddr fo_24_3 rfl) ?_
  refine ox_y rfl (y_load1 0 (v := .int .i64 p0_f.fDown) sc_3 rfl rfl rfl) ?_
  refine ox_y rfl (y_buildS [.int .i64 p0_f.fRise, .int .i64 p0_f.fFall, .int .i64 p0_f.fUp, .int .i64 p0_f.fDown, .slice none 0 0] [(0, 1), (1, 1), (2, 1), (3, 1), (4, 1)] ust_24 ze_24 (by kernel_rfl)) ?_
  refine ox_alloc ze_24 rfl (fun b3 => ?_)
  refine ox_n rfl (y_storeN 2 [.int .i64 p0_f.fRise, .int .i64 p0_f.fFall, .int .i64 p0_f.fUp, .int .i64 p0_f.fDown, .slice none 0 0] sz_24 rfl (Nat.le_of_ble_eq_true rfl) rfl rfl rfl) ?_
  refine ox_nil ?_
  refine ex_then ?_
  refine cx_seq ?_
  refine cx_seq ?_
  refine cx_region ?_
  refine ox_y rfl (y_assign_int rfl) ?_
  refine ox_nil ?_
  refine ex_then ?_
  refine cx_block ?_
  obtain ⟨u7, hl19, h⟩ := bind_some h
  refine cx_nilrow 34 5 ?_
  refine cx_nilrow 34 5 ?_
  refine cx_loop (fun (s : (Int × (List TLook))) L tm => ∃ (tm0 : Nat → Value) (A4_s : Option Addr) (c4_s : Nat) (n4_s : Nat), n4_s = s.2.length ∧ L = [cellsR b1 24 [.int .i64 p0_f.fRise, .int .i64 p0_f.fFall, .int .i64 p0_f.fUp, .int .i64 p0_f.fDown, .slice A0_4 p0_f.fLooks.length c0_4], cellsR b2 24 [.int .i64 0, .int .i64 0, .int .i64 0, .int .i64 0, .slice none 0 0], cellsR b3 24 [.int .i64 p0_f.fRise, .int .i64 p0_f.fFall, .int .i64 p0_f.fUp, .int .i64 p0_f.fDown, .slice A4_s n4_s c4_s], rowR none 0 34 5 0 (encL TLook_cells ([] : List TLook)), rowR A4_s c4_s 34 5 n4_s (encL TLook_cells s.2)] ∧ tm = (upd (upd (upd (upd (upd (upd tm0 0 (.agg #[.int .i64 p0_f.fRise, .int .i64 p0_f.fFall, .int .i64 p0_f.fUp, .int .i64 p0_f.fDown, .slice A0_4 p0_f.fLooks.length c0_4])) 1 (.slice A1_0 p1_ids.length c1_0)) 2 (.pointer (some ⟨b1, 0, none⟩))) 4 (.pointer (some ⟨b2, 0, none⟩))) 5 (.pointer (some ⟨b3, 0, none⟩))) 6 (.int .i64 s.1))) (fun s e L tm => e = .exit 0 ∧ ∃ (tm0 : Nat → Value) (A4_s : Option Addr) (c4_s : Nat) (n4_s : Nat), n4_s = s.2.length ∧ L = [cellsR b1 24 [.int .i64 p0_f.fRise, .int .i64 p0_f.fFall, .int .i64 p0_f.fUp, .int .i64 p0_f.fDown, .slice A0_4 p0_f.fLooks.length c0_4], cellsR b2 24 [.int .i64 0, .int .i64 0, .int .i64 0, .int .i64 0, .slice none 0 0], cellsR b3 24 [.int .i64 p0_f.fRise, .int .i64 p0_f.fFall, .int .i64 p0_f.fUp, .int .i64 p0_f.fDown, .slice A4_s n4_s c4_s], rowR none 0 34 5 0 (encL TLook_cells ([] : List TLook)), rowR A4_s c4_s 34 5 n4_s (encL TLook_cells s.2)] ∧ tm = (upd (upd (upd (upd (upd (upd tm0 0 (.agg #[.int .i64 p0_f.fRise, .int .i64 p0_f.fFall, .int .i64 p0_f.fUp, .int .i64 p0_f.fDown, .slice A0_4 p0_f.fLooks.length c0_4])) 1 (.slice A1_0 p1_ids.length c1_0)) 2 (.pointer (some ⟨b1, 0, none⟩))) 4 (.pointer (some ⟨b2, 0, none⟩))) 5 (.pointer (some ⟨b3, 0, none⟩))) 6 (.int .i64 s.1))) hl19 ⟨_, none, 0, 0, rfl, rfl, (keep (keep (keep (keep (keep (keep rfl rfl) rfl) rfl) rfl) rfl) rfl)⟩ ?_ ?_
  · rintro s6 L tm st ⟨tm0_s6, A4_s6, c4_s6, n4_s6, rfl, rfl, rfl⟩ h
    unfold calxref02_without_l1 at h
    refine cx_seq ?_
    refine cx_seq ?_
    refine cx_region ?_
    refine ox_y rfl (y_move_int rfl) ?_
    refine ox_y rfl (y_fieldAddr fo_24_4 rfl) ?_
    refine ox_y rfl (y_load1 0 (v := .slice A0_4 p0_f.fLooks.length c0_4) sc_22 rfl rfl rfl) ?_
    refine ox_y rfl (y_len (us := []) us_22 rfl) ?_
    refine ox_y rfl (y_lss rfl rfl) ?_
    refine ox_nil ?_
    refine ex_then ?_
    rcases ite_some h with ⟨hp8, h⟩ | ⟨hp8, h⟩
    · refine cx_true (congrArg Value.bool hp8) ?_
      refine cx_skip ?_
      refine ex_then ?_
      refine cx_seq ?_
      refine cx_block ?_
      refine cx_seq ?_
      refine cx_region ?_
      refine ox_y rfl (y_move_slice rfl) ?_
      refine ox_y rfl (y_fieldAddr fo_24_4 rfl) ?_
      refine ox_y rfl (y_load1 0 (v := .slice A0_4 p0_f.fLooks.length c0_4) sc_22 rfl rfl rfl) ?_
      refine ox_y rfl (y_move_int rfl) ?_
      obtain ⟨hg9, h⟩ := guardO_some h
      refine ox_y rfl (y_indexR sl_22 (by decide) hg9.1 hg9.2 (RdL.arg hr0_4) (encL_len TLook_cells_len rfl) rfl rfl) ?_
      refine ox_y rfl (y_fieldAddrR (A := A0_4) (j := (Int.toNat s6.1 * 5)) fo_34_0 rfl) ?_
      refine ox_y rfl (y_loadR1 (A := A0_4) (j := ((Int.toNat s6.1 * 5) + 0)) (v := .int .i64 ((rdL p0_f.fLooks s6.1).fID)) sc_3 (RdL.arg hr0_4) rfl (encL_get TLook_cells_len hg9.1 (lt_nat hg9.2 rfl) rfl)) ?_
      obtain ⟨y10, hy11, h⟩ := bind_some h
      refine ox_y rfl (y_call [.slice A1_0 p1_ids.length c1_0, .int .i64 ((rdL p0_f.fLooks s6.1).fID)] go_108 rfl (fun W2 hW2 => calxref02_in_ok p1_ids ((rdL p0_f.fLooks s6.1).fID) y10 hy11 W2 A1_0 p1_ids.length c1_0 rfl ((RdL.arg hr1_0) W2 hW2)) rfl) ?_
      refine ox_y rfl (y_assign_bool rfl) ?_
      refine ox_nil ?_
      refine ex_then ?_
      refine cx_seq ?_
      refine cx_region ?_
      refine ox_y rfl (y_move_bool rfl) ?_
      refine ox_y rfl (y_not rfl) ?_
      refine ox_nil ?_
      refine ex_then ?_
      rcases ite_some h with ⟨hp12, h⟩ | ⟨hp12, h⟩
      · refine cx_true (congrArg Value.bool hp12) ?_
        obtain ⟨hg14, h⟩ := guardO_some h
        obtain ⟨hg18, h⟩ := guardO_some h
        refine cx_drawsG [[], [0], [], [2], [], [2, 3, 4], [2, 3, 4, 5], [2, 3, 4, 5, 6], [0, 1, 2, 3, 4, 5, 6, 7], [0, 1, 2, 3, 4, 5, 6, 7, 8], [0, 1, 2, 3, 4, 5, 6, 7, 8, 9]] [(none, 0, [true, true, true, true, true]), (none, 0, [true, true, true, true, true]), (none, 0, [true, true, true, true, true]), (none, 0, [true, true, true, true, true]), (none, 0, [true, true, true, true, true]), (none, 0, [true, true, true, true, true]), (none, 0, [true, true, true, true, true]), (none, 1, [true, true, true, true, true]), (some 4, 0, [true, true, true, true, true, true]), (none, 0, [true, true, true, true, true, true]), (some 2, 0, [true, true, true, true, true, true])] [⟨fun _ => .pointer (some ⟨b3, 0 + 4, none⟩), fun _ => noR, fun _ => []⟩, ⟨fun _ => .slice A4_s6 s6.2.length c4_s6, fun _ => noR, fun _ => []⟩, ⟨fun _ => .pointer (some ⟨b1, 0 + 4, none⟩), fun _ => noR, fun _ => []⟩, ⟨fun _ => .slice A0_4 p0_f.fLooks.length c0_4, fun _ => noR, fun _ => []⟩, ⟨fun _ => .int .i64 s6.1, fun _ => noR, fun _ => []⟩, ⟨fun _ => slA A0_4 (Int.toNat s6.1 * 5), fun _ => noR, fun _ => []⟩, ⟨fun _ => .agg #[.int .i64 ((rdL p0_f.fLooks s6.1).fID), .int .i64 ((rdL p0_f.fLooks s6.1).fAt.fFoot), .int .i64 ((rdL p0_f.fLooks s6.1).fAt.fHour), .int .i64 ((rdL p0_f.fLooks s6.1).fHeat.fLo), .int .i64 ((rdL p0_f.fLooks s6.1).fHeat.fHi)], fun _ => noR, fun _ => []⟩, ⟨fun ξ13 => .slice (some ⟨(ξ13 7 0).2.1, 0, none⟩) 1 1, fun _ => noR, fun ξ13 => [rowR (some ⟨(ξ13 7 0).2.1, 0, none⟩) 1 34 5 1 (encL TLook_cells [(TLook.mk ((rdL p0_f.fLooks s6.1).fID) (TSpot.mk ((rdL p0_f.fLooks s6.1).fAt.fFoot) ((rdL p0_f.fLooks s6.1).fAt.fHour)) (TSpan.mk ((rdL p0_f.fLooks s6.1).fHeat.fLo) ((rdL p0_f.fLooks s6.1).fHeat.fHi)))])]⟩, ⟨fun ξ13 => .slice (ξ13 8 0).1 (s6.2.length + 1) (ξ13 8 0).2.2, fun ξ13 => rowR (ξ13 8 0).1 (ξ13 8 0).2.2 34 5 (s6.2.length + 1) (encL TLook_cells (s6.2 ++ [(TLook.mk ((rdL p0_f.fLooks s6.1).fID) (TSpot.mk ((rdL p0_f.fLooks s6.1).fAt.fFoot) ((rdL p0_f.fLooks s6.1).fAt.fHour)) (TSpan.mk ((rdL p0_f.fLooks s6.1).fHeat.fLo) ((rdL p0_f.fLooks s6.1).fHeat.fHi)))])), fun _ => []⟩, ⟨fun _ => .pointer (some ⟨b3, 0 + 4, none⟩), fun _ => noR, fun _ => []⟩, ⟨fun _ => undef, fun ξ13 => cellsR b3 24 [.int .i64 p0_f.fRise, .int .i64 p0_f.fFall, .int .i64 p0_f.fUp, .int .i64 p0_f.fDown, .slice (ξ13 8 0).1 (s6.2.length + 1) (ξ13 8 0).2.2], fun _ => []⟩] 5 mixed (by kernel_rfl) (by kernel_rfl) ⟨⟨fun ξ13 ξ13' h => ⟨rfl, rfl, rfl⟩, fun _ => rfl⟩, ⟨fun ξ13 ξ13' h => ⟨rfl, rfl, rfl⟩, fun _ => rfl⟩, ⟨fun ξ13 ξ13' h => ⟨rfl, rfl, rfl⟩, fun _ => rfl⟩, ⟨fun ξ13 ξ13' h => ⟨rfl, rfl, rfl⟩, fun _ => rfl⟩, ⟨fun ξ13 ξ13' h => ⟨rfl, rfl, rfl⟩, fun _ => rfl⟩, ⟨fun ξ13 ξ13' h => ⟨rfl, rfl, rfl⟩, fun _ => rfl⟩, ⟨fun ξ13 ξ13' h => ⟨rfl, rfl, rfl⟩, fun _ => rfl⟩, ⟨fun ξ13 ξ13' h => ⟨by simp only [h 7 (.inl rfl)], rfl, by simp only [h 7 (.inl rfl)]⟩, fun _ => rfl⟩, ⟨fun ξ13 ξ13' h => ⟨by simp only [h 8 (.inl rfl)], by simp only [h 8 (.inl rfl)], rfl⟩, fun _ => rfl⟩, ⟨fun ξ13 ξ13' h => ⟨rfl, rfl, rfl⟩, fun _ => rfl⟩, ⟨fun ξ13 ξ13' h => ⟨rfl, by simp only [h 8 (.inr rfl)], rfl⟩, fun _ => rfl⟩, trivial⟩ rfl (fun ξ13 => ?_)
        refine gx_o rfl (fun L2 => ?_) ?_
        · dsimp only [maskL, List.cons_append, List.nil_append]
          refine ox_y rfl (y_fieldAddr fo_24_4 rfl) ?_
          refine ox_nil ?_
          exact ex_capG (fun _ => (none, 0, 0)) rfl (List.append_nil _)
        dsimp only [aftL, List.set_cons_zero, List.set_cons_succ, List.nil_append, List.cons_append, List.append_nil]
        refine gx_o rfl (fun L2 => ?_) ?_
        · dsimp only [maskL, List.cons_append, List.nil_append]
          refine ox_y rfl (y_load1 2 (v := .slice A4_s6 s6.2.length c4_s6) sc_22 rfl rfl rfl) ?_
          refine ox_nil ?_
          exact ex_capG (fun _ => (none, 0, 0)) rfl (List.append_nil _)
        dsimp only [aftL, List.set_cons_zero, List.set_cons_succ, List.nil_append, List.cons_append, List.append_nil]
        refine gx_o rfl (fun L2 => ?_) ?_
        · dsimp only [maskL, List.cons_append, List.nil_append]
          refine ox_y rfl (y_fieldAddr fo_24_4 rfl) ?_
          refine ox_nil ?_
          exact ex_capG (fun _ => (none, 0, 0)) rfl (List.append_nil _)
        dsimp only [aftL, List.set_cons_zero, List.set_cons_succ, List.nil_append, List.cons_append, List.append_nil]
        refine gx_o rfl (fun L2 => ?_) ?_
        · dsimp only [maskL, List.cons_append, List.nil_append]
          refine ox_y rfl (y_load1 0 (v := .slice A0_4 p0_f.fLooks.length c0_4) sc_22 rfl rfl rfl) ?_
          refine ox_nil ?_
          exact ex_capG (fun _ => (none, 0, 0)) rfl (List.append_nil _)
        dsimp only [aftL, List.set_cons_zero, List.set_cons_succ, List.nil_append, List.cons_append, List.append_nil]
        refine gx_o rfl (fun L2 => ?_) ?_
        · dsimp only [maskL, List.cons_append, List.nil_append]
          refine ox_y rfl (y_move_int rfl) ?_
          refine ox_nil ?_
          exact ex_capG (fun _ => (none, 0, 0)) rfl (List.append_nil _)
        dsimp only [aftL, List.set_cons_zero, List.set_cons_succ, List.nil_append, List.cons_append, List.append_nil]
        refine gx_o rfl (fun L2 => ?_) ?_
        · dsimp only [maskL, List.cons_append, List.nil_append]
          refine ox_y rfl (y_indexR sl_22 (by decide) hg14.1 hg14.2 (RdL.arg hr0_4) (encL_len TLook_cells_len rfl) rfl rfl) ?_
          refine ox_nil ?_
          exact ex_capG (fun _ => (none, 0, 0)) rfl (List.append_nil _)
        dsimp only [aftL, List.set_cons_zero, List.set_cons_succ, List.nil_append, List.cons_append, List.append_nil]
        refine gx_o rfl (fun L2 => ?_) ?_
        · dsimp only [maskL, List.cons_append, List.nil_append]
          refine ox_y rfl (y_loadRN (A := A0_4) (j := (Int.toNat s6.1 * 5)) [.int .i64 ((rdL p0_f.fLooks s6.1).fID), .int .i64 ((rdL p0_f.fLooks s6.1).fAt.fFoot), .int .i64 ((rdL p0_f.fLooks s6.1).fAt.fHour), .int .i64 ((rdL p0_f.fLooks s6.1).fHeat.fLo), .int .i64 ((rdL p0_f.fLooks s6.1).fHeat.fHi)] ag_34 (Nat.succ_pos _) (RdL.arg hr0_4) rfl (encL_gets TLook_cells_len hg14.1 (lt_nat hg14.2 rfl))) ?_
          refine ox_nil ?_
          exact ex_capG (fun _ => (none, 0, 0)) rfl (List.append_nil _)
        dsimp only [aftL, List.set_cons_zero, List.set_cons_succ, List.nil_append, List.cons_append, List.append_nil]
        refine gx_o rfl (fun L2 => ?_) ?_
        · dsimp only [maskL, List.cons_append, List.nil_append]
          refine ox_buildSliceE 1 (encL TLook_cells [(TLook.mk ((rdL p0_f.fLooks s6.1).fID) (TSpot.mk ((rdL p0_f.fLooks s6.1).fAt.fFoot) ((rdL p0_f.fLooks s6.1).fAt.fHour)) (TSpan.mk ((rdL p0_f.fLooks s6.1).fHeat.fLo) ((rdL p0_f.fLooks s6.1).fHeat.fHi)))]) _ mc_34_1 us_22 ze_34 by_34 (by decide) (by decide) (by kernel_rfl) (encL_len TLook_cells_len rfl) rfl (fun b15 => ?_)
          refine ox_nil ?_
          exact ex_capG (fun _ => (none, b15, 0)) rfl rfl
        dsimp only [aftL, List.set_cons_zero, List.set_cons_succ, List.nil_append, List.cons_append, List.append_nil]
        refine gx_o rfl (fun L2 => ?_) ?_
        · dsimp only [maskL, List.cons_append, List.nil_append]
          refine ox_append0 4 us_22 ze_34 by_34 rfl rfl rfl (RdL.row 5 rfl) (encL_len TLook_cells_len rfl) (encL_one TLook_cells_one _) (app_room hg18 (by decide)) rfl (fun A16 c17 => ?_)
          refine ox_nil ?_
          exact ex_capG (fun _ => (A16, 0, c17)) rfl (List.append_nil _)
        dsimp only [aftL, List.set_cons_zero, List.set_cons_succ, List.nil_append, List.cons_append, List.append_nil]
        refine gx_o rfl (fun L2 => ?_) ?_
        · dsimp only [maskL, List.cons_append, List.nil_append]
          refine ox_y rfl (y_fieldAddr fo_24_4 rfl) ?_
          refine ox_nil ?_
          exact ex_capG (fun _ => (none, 0, 0)) rfl (List.append_nil _)
        dsimp only [aftL, List.set_cons_zero, List.set_cons_succ, List.nil_append, List.cons_append, List.append_nil]
        refine gx_n rfl (fun L2 => ?_) ?_
        · dsimp only [maskL, List.cons_append, List.nil_append]
          refine ox_n rfl (y_store1 2 (v := .slice (ξ13 8 0).1 (s6.2.length + 1) (ξ13 8 0).2.2) sz_22 rfl (Nat.lt_of_lt_of_le (Nat.lt_succ_self _) (Nat.le_of_ble_eq_true rfl)) rfl rfl rfl) ?_
          refine ox_nil ?_
          exact ex_capGn (fun _ => (none, 0, 0)) (List.append_nil _)
        dsimp only [aftL, List.set_cons_zero, List.set_cons_succ, List.nil_append, List.cons_append, List.append_nil]
        refine gx_nil ?_
        refine ex_block ?_
        refine ex_then ?_
        refine cx_region ?_
        try dsimp only [List.nil_append, List.cons_append, List.set_cons_zero, List.set_cons_succ]
        refine ox_y rfl (y_move_int rfl) ?_
        refine ox_y rfl (y_add rfl rfl) ?_
        refine ox_y rfl (y_assign_int rfl) ?_
        refine ox_nil ?_
        refine ex_take 5 ?_
        obtain rfl := Option.some.inj h
        exact ex_next ⟨_, (ξ13 8 0).1, (ξ13 8 0).2.2, (s6.2.length + 1), (hn_app rfl rfl), rfl, (keep (keep (keep (keep (keep (keep rfl rfl) rfl) rfl) rfl) rfl) rfl)⟩
      · refine cx_false (congrArg Value.bool hp12) ?_
        refine cx_skip ?_
        refine ex_block ?_
        refine ex_then ?_
        refine cx_region ?_
        refine ox_y rfl (y_move_int rfl) ?_
        refine ox_y rfl (y_add rfl rfl) ?_
        refine ox_y rfl (y_assign_int rfl) ?_
        refine ox_nil ?_
        obtain rfl := Option.some.inj h
        exact ex_next ⟨_, A4_s6, c4_s6, s6.2.length, rfl, rfl, (keep (keep (keep (keep (keep (keep rfl rfl) rfl) rfl) rfl) rfl) rfl)⟩
    · refine cx_false (congrArg Value.bool hp8) ?_
      refine cx_exit ?_
      refine ex_then_exit ?_
      obtain rfl := Option.some.inj h
      exact ex_stop ⟨rfl, _, A4_s6, c4_s6, s6.2.length, rfl, rfl, (keep (keep (keep (keep (keep (keep rfl rfl) rfl) rfl) rfl) rfl) rfl)⟩
  · intro e L tm hJ
    obtain ⟨rfl, tm0_u7, A4_u7, c4_u7, n4_u7, rfl, rfl, rfl⟩ := hJ
    refine ⟨(by intro hc; cases hc), ?_⟩
    refine ex_block_here ?_
    refine ex_then ?_
    refine cx_seq ?_
    refine cx_region ?_
    refine ox_y rfl (y_loadN 2 [.int .i64 p0_f.fRise, .int .i64 p0_f.fFall, .int .i64 p0_f.fUp, .int .i64 p0_f.fDown, .slice A4_u7 u7.2.length c4_u7] ag_24 rfl rfl rfl) ?_
    refine ox_n rfl (y_storeN 1 [.int .i64 p0_f.fRise, .int .i64 p0_f.fFall, .int .i64 p0_f.fUp, .int .i64 p0_f.fDown, .slice A4_u7 u7.2.length c4_u7] sz_24 rfl (Nat.le_of_ble_eq_true rfl) rfl rfl rfl) ?_
    refine ox_nil ?_
    refine ex_then ?_
    refine cx_ret ?_
    obtain rfl := Option.some.inj h
    exact ex_res1 (.inl rfl) rfl (resV_cellN 1 [.int .i64 p0_f.fRise, .int .i64 p0_f.fFall, .int .i64 p0_f.fUp, .int .i64 p0_f.fDown, .slice A4_u7 u7.2.length c4_u7] ag_24 rfl rfl rfl) (fun W2 hW2 => ⟨(A4_u7, u7.2.length, c4_u7), rfl, rfl, (hW2.pick 4 rfl)⟩)

/-! calx/calxref02.put -/
set_option maxRecDepth 100000 in
theorem calxref02_put_ok (p0_l : (List Int)) (p1_n : Int) (res : (List Int)) (h : calxref02_put p0_l p1_n = some res) (W : World) (A0_0 : Option Addr) (n0_0 c0_0 : Nat) (hn0_0 : n0_0 = p0_l.length) (hr0_0 : Rd W A0_0 n0_0 c0_0 (encL cI p0_l)) :
    Calls Try.prog 78 [.slice A0_0 n0_0 c0_0, .int .i64 p1_n].toArray W fun e W2 => ∃ x : Option Addr × Nat × Nat, x.2.1 = res.length ∧ e = .returned (.slice x.1 x.2.1 x.2.2) ∧ Ext W W2 [rowR x.1 x.2.2 3 1 x.2.1 (encL cI res)] := by
  subst hn0_0
  unfold calxref02_put at h
  refine calls_enter (m := 32) Try.func78 rfl rfl (Nat.le_of_ble_eq_true rfl) ?_
  refine cx_seq ?_
  refine cx_region ?_
  refine ox_y rfl (y_assign_slice rfl) ?_
  refine ox_nil ?_
  refine ex_then ?_
  refine cx_seq ?_
  refine cx_region ?_
  refine ox_y rfl (y_assign_int rfl) ?_
  refine ox_nil ?_
  refine ex_then ?_
  refine cx_seq ?_
  refine cx_block ?_
  obtain ⟨u3, hl9, h⟩ := bind_some h
  refine cx_loop (fun (s : Int) L tm => ∃ (tm0 : Nat → Value), L = [] ∧ tm = (upd (upd (upd (upd tm0 0 (.slice A0_0 p0_l.length c0_0)) 1 (.int .i64 p1_n)) 4 (.slice none 0 0)) 5 (.int .i64 s))) (fun s e L tm => e = .exit 0 ∧ ∃ (tm0 : Nat → Value), L = [] ∧ tm = (upd (upd (upd (upd tm0 0 (.slice A0_0 p0_l.length c0_0)) 1 (.int .i64 p1_n)) 4 (.slice none 0 0)) 5 (.int .i64 s))) hl9 ⟨_, rfl, (keep (keep (keep (keep rfl rfl) rfl) rfl) rfl)⟩ ?_ ?_
  · rintro s2 L tm st ⟨tm0_s2, rfl, rfl⟩ h
    unfold calxref02_put_l1 at h
    refine cx_seq ?_
    refine cx_seq ?_
    refine cx_region ?_
    refine ox_y rfl (y_move_int rfl) ?_
    refine ox_y rfl (y_move_slice rfl) ?_
    refine ox_y rfl (y_len (us := []) us_41 rfl) ?_
    refine ox_y rfl (y_lss rfl rfl) ?_
    refine ox_y rfl (y_move_bool rfl) ?_
    obtain ⟨b5, hb6, h⟩ := bind_some h
    refine ox_join 7 (fun tm0 => (upd (upd (upd (upd (upd tm0 0 (.slice A0_0 p0_l.length c0_0)) 1 (.int .i64 p1_n)) 4 (.slice none 0 0)) 5 (.int .i64 s2)) 17 (.bool b5))) (fun tm0 => ?_) (fun key => ?_)
    · refine ox_nil ?_
      refine ex_then ?_
      rcases ite_some h with ⟨hp7, h⟩ | ⟨hp7, h⟩
      · refine cx_true (congrArg Value.bool hp7) ?_
        refine cx_skip ?_
        refine ex_then ?_
        refine cx_block ?_
        refine cx_region ?_
        refine ox_y rfl (y_move_int rfl) ?_
        refine ox_y rfl (y_add rfl rfl) ?_
        refine ox_y rfl (y_assign_int rfl) ?_
        refine ox_nil ?_
        refine ex_block ?_
        obtain rfl := Option.some.inj h
        exact ex_next ⟨_, rfl, (keep (keep (keep (keep rfl rfl) rfl) rfl) rfl)⟩
      · refine cx_false (congrArg Value.bool hp7) ?_
        refine cx_exit ?_
        refine ex_then_exit ?_
        obtain rfl := Option.some.inj h
        exact ex_stop ⟨rfl, _, rfl, (keep (keep (keep (keep rfl rfl) rfl) rfl) rfl)⟩
    · clear h; rcases ite_some hb6 with ⟨hp4, h⟩ | ⟨hp4, h⟩
      · refine ox_y (sees_t rfl rfl rfl rfl hp4) (y_move_slice rfl) ?_
        refine ox_y (sees_t rfl rfl rfl rfl hp4) (y_move_int rfl) ?_
        obtain ⟨hg8, h⟩ := guardO_some h
        refine ox_y (sees_t rfl rfl rfl rfl hp4) (y_indexR sl_41 (by decide) hg8.1 hg8.2 (RdL.arg hr0_0) (encL_len cI_len rfl) rfl rfl) ?_
        refine ox_y (sees_t rfl rfl rfl rfl hp4) (y_loadR1 (A := A0_0) (j := (Int.toNat s2 * 1)) (v := .int .i64 (rdL p0_l s2)) sc_3 (RdL.arg hr0_0) rfl (encL_get0 cI_len hg8.1 (lt_nat hg8.2 rfl) rfl)) ?_
        refine ox_y (sees_t rfl rfl rfl rfl hp4) (y_move_int rfl) ?_
        refine ox_y (sees_t rfl rfl rfl rfl hp4) (y_lss rfl rfl) ?_
        refine ox_y rfl (y_pick_tb (congrArg Value.bool hp4) rfl) ?_
        obtain rfl := Option.some.inj h
        exact key _ _ (keep (keep (keep (keep (keep rfl rfl) rfl) rfl) rfl) rfl)
      · refine ox_skip (sees_f rfl rfl rfl rfl hp4) ?_
        refine ox_skip (sees_f rfl rfl rfl rfl hp4) ?_
        refine ox_skip (sees_f rfl rfl rfl rfl hp4) ?_
        refine ox_skip (sees_f rfl rfl rfl rfl hp4) ?_
        refine ox_skip (sees_f rfl rfl rfl rfl hp4) ?_
        refine ox_skip (sees_f rfl rfl rfl rfl hp4) ?_
        refine ox_y rfl (y_pick_fb (congrArg Value.bool hp4) rfl) ?_
        obtain rfl := Option.some.inj h
        exact key _ _ (keep (keep (keep (keep (keep rfl rfl) rfl) rfl) rfl) rfl)
  · intro e L tm hJ
    obtain ⟨rfl, tm0_u3, rfl, rfl⟩ := hJ
    refine ⟨(by intro hc; cases hc), ?_⟩
    refine ex_block_here ?_
    refine ex_then ?_
    refine cx_seq ?_
    obtain ⟨hg12, h⟩ := guardO_some h
    obtain ⟨hg15, h⟩ := guardO_some h
    obtain ⟨hg19, h⟩ := guardO_some h
    obtain ⟨hg20, h⟩ := guardO_some h
    obtain ⟨hg23, h⟩ := guardO_some h
    refine cx_drawsG [[], [], [], [1, 2], [0, 1, 2, 3], [], [5], [0, 1, 2, 3, 4, 5, 6], [], [], [8, 9], [0, 1, 2, 3, 4, 5, 6, 7, 8, 9, 10], [0, 1, 2, 3, 4, 5, 6, 7, 8, 9, 10, 11]] [(none, 1, []), (none, 0, [false]), (none, 0, [false]), (none, 0, [false]), (some 0, 0, [true]), (none, 0, [false]), (none, 1, [false]), (some 0, 0, [true, true]), (none, 0, [false, false]), (none, 0, [false, false]), (none, 0, [false, false]), (some 0, 0, [true, true]), (none, 0, [true, true])] [⟨fun ξ10 => .slice (some ⟨(ξ10 0 0).2.1, 0, none⟩) 0 0, fun _ => noR, fun ξ10 => [rowR (some ⟨(ξ10 0 0).2.1, 0, none⟩) 0 3 1 0 (encL cI ([] : List Int))]⟩, ⟨fun _ => .slice A0_0 p0_l.length c0_0, fun _ => noR, fun _ => []⟩, ⟨fun _ => .int .i64 u3, fun _ => noR, fun _ => []⟩, ⟨fun _ => .slice A0_0 (Int.toNat u3) c0_0, fun _ => noR, fun _ => []⟩, ⟨fun ξ10 => .slice (ξ10 4 0).1 (0 + (Int.toNat u3)) (ξ10 4 0).2.2, fun ξ10 => rowR (ξ10 4 0).1 (ξ10 4 0).2.2 3 1 (0 + (Int.toNat u3)) (encL cI (([] : List Int) ++ (p0_l.take (Int.toNat u3)))), fun _ => []⟩, ⟨fun _ => .int .i64 p1_n, fun _ => noR, fun _ => []⟩, ⟨fun ξ10 => .slice (some ⟨(ξ10 6 0).2.1, 0, none⟩) 1 1, fun _ => noR, fun ξ10 => [rowR (some ⟨(ξ10 6 0).2.1, 0, none⟩) 1 3 1 1 (encL cI [p1_n])]⟩, ⟨fun ξ10 => .slice (ξ10 7 0).1 ((0 + (Int.toNat u3)) + 1) (ξ10 7 0).2.2, fun ξ10 => rowR (ξ10 7 0).1 (ξ10 7 0).2.2 3 1 ((0 + (Int.toNat u3)) + 1) (encL cI ((([] : List Int) ++ (p0_l.take (Int.toNat u3))) ++ [p1_n])), fun _ => []⟩, ⟨fun _ => .slice A0_0 p0_l.length c0_0, fun _ => noR, fun _ => []⟩, ⟨fun _ => .int .i64 u3, fun _ => noR, fun _ => []⟩, ⟨fun _ => .slice (if c0_0 = Int.toNat u3 then A0_0 else Option.map (fun x => x.add (Int.toNat u3 * 1)) A0_0) (p0_l.length - Int.toNat u3) (c0_0 - Int.toNat u3), fun _ => noR, fun _ => []⟩, ⟨fun ξ10 => .slice (ξ10 11 0).1 (((0 + (Int.toNat u3)) + 1) + (p0_l.length - Int.toNat u3)) (ξ10 11 0).2.2, fun ξ10 => rowR (ξ10 11 0).1 (ξ10 11 0).2.2 3 1 (((0 + (Int.toNat u3)) + 1) + (p0_l.length - Int.toNat u3)) (encL cI (((([] : List Int) ++ (p0_l.take (Int.toNat u3))) ++ [p1_n]) ++ (p0_l.drop (Int.toNat u3)))), fun _ => []⟩, ⟨fun ξ10 => .slice (ξ10 11 0).1 (((0 + (Int.toNat u3)) + 1) + (p0_l.length - Int.toNat u3)) (ξ10 11 0).2.2, fun _ => noR, fun _ => []⟩] 0 mixed (by kernel_rfl) (by kernel_rfl) ⟨⟨fun ξ10 ξ10' h => ⟨by simp only [h 0 (.inl rfl)], rfl, by simp only [h 0 (.inl rfl)]⟩, fun _ => rfl⟩, ⟨fun ξ10 ξ10' h => ⟨rfl, rfl, rfl⟩, fun _ => rfl⟩, ⟨fun ξ10 ξ10' h => ⟨rfl, rfl, rfl⟩, fun _ => rfl⟩, ⟨fun ξ10 ξ10' h => ⟨rfl, rfl, rfl⟩, fun _ => rfl⟩, ⟨fun ξ10 ξ10' h => ⟨by simp only [h 4 (.inl rfl)], by simp only [h 4 (.inl rfl)], rfl⟩, fun _ => rfl⟩, ⟨fun ξ10 ξ10' h => ⟨rfl, rfl, rfl⟩, fun _ => rfl⟩, ⟨fun ξ10 ξ10' h => ⟨by simp only [h 6 (.inl rfl)], rfl, by simp only [h 6 (.inl rfl)]⟩, fun _ => rfl⟩, ⟨fun ξ10 ξ10' h => ⟨by simp only [h 7 (.inl rfl)], by simp only [h 7 (.inl rfl)], rfl⟩, fun _ => rfl⟩, ⟨fun ξ10 ξ10' h => ⟨rfl, rfl, rfl⟩, fun _ => rfl⟩, ⟨fun ξ10 ξ10' h => ⟨rfl, rfl, rfl⟩, fun _ => rfl⟩, ⟨fun ξ10 ξ10' h => ⟨rfl, rfl, rfl⟩, fun _ => rfl⟩, ⟨fun ξ10 ξ10' h => ⟨by simp only [h 11 (.inl rfl)], by simp only [h 11 (.inl rfl)], rfl⟩, fun _ => rfl⟩, ⟨fun ξ10 ξ10' h => ⟨by simp only [h 11 (.inr rfl)], rfl, rfl⟩, fun _ => rfl⟩, trivial⟩ rfl (fun ξ10 => ?_)
    refine gx_o rfl (fun L2 => ?_) ?_
    · dsimp only [maskL, List.cons_append, List.nil_append]
      refine ox_buildSlice0 cI us_41 ze_3 by_3 rfl (fun b11 => ?_)
      refine ox_nil ?_
      exact ex_capG (fun _ => (none, b11, 0)) rfl rfl
    dsimp only [aftL, List.set_cons_zero, List.set_cons_succ, List.nil_append, List.cons_append, List.append_nil]
    refine gx_o rfl (fun L2 => ?_) ?_
    · dsimp only [maskL, List.cons_append, List.nil_append]
      refine ox_y rfl (y_move_slice rfl) ?_
      refine ox_nil ?_
      exact ex_capG (fun _ => (none, 0, 0)) rfl (List.append_nil _)
    dsimp only [aftL, List.set_cons_zero, List.set_cons_succ, List.nil_append, List.cons_append, List.append_nil]
    refine gx_o rfl (fun L2 => ?_) ?_
    · dsimp only [maskL, List.cons_append, List.nil_append]
      refine ox_y rfl (y_move_int rfl) ?_
      refine ox_nil ?_
      exact ex_capG (fun _ => (none, 0, 0)) rfl (List.append_nil _)
    dsimp only [aftL, List.set_cons_zero, List.set_cons_succ, List.nil_append, List.cons_append, List.append_nil]
    refine gx_o rfl (fun L2 => ?_) ?_
    · dsimp only [maskL, List.cons_append, List.nil_append]
      refine ox_y rfl (y_cutH sl_41 hg12.1 hg12.2 (RdL.arg hr0_0) rfl rfl) ?_
      refine ox_nil ?_
      exact ex_capG (fun _ => (none, 0, 0)) rfl (List.append_nil _)
    dsimp only [aftL, List.set_cons_zero, List.set_cons_succ, List.nil_append, List.cons_append, List.append_nil]
    refine gx_o rfl (fun L2 => ?_) ?_
    · dsimp only [maskL, List.cons_append, List.nil_append]
      refine ox_append0 0 us_41 ze_3 by_3 rfl rfl rfl (RdL.cutH cI_len (RdL.arg hr0_0) hg12.1 hg12.2) (encL_len cI_len (cutH_len hg12.2 rfl)) (encL_one cI_one _) (app_room hg15 (by decide)) rfl (fun A13 c14 => ?_)
      refine ox_nil ?_
      exact ex_capG (fun _ => (A13, 0, c14)) rfl (List.append_nil _)
    dsimp only [aftL, List.set_cons_zero, List.set_cons_succ, List.nil_append, List.cons_append, List.append_nil]
    refine gx_o rfl (fun L2 => ?_) ?_
    · dsimp only [maskL, List.cons_append, List.nil_append]
      refine ox_y rfl (y_move_int rfl) ?_
      refine ox_nil ?_
      exact ex_capG (fun _ => (none, 0, 0)) rfl (List.append_nil _)
    dsimp only [aftL, List.set_cons_zero, List.set_cons_succ, List.nil_append, List.cons_append, List.append_nil]
    refine gx_o rfl (fun L2 => ?_) ?_
    · dsimp only [maskL, List.cons_append, List.nil_append]
      refine ox_buildSliceE 1 (encL cI [p1_n]) _ mc_3_1 us_41 ze_3 by_3 (by decide) (by decide) (by kernel_rfl) (encL_len cI_len rfl) rfl (fun b16 => ?_)
      refine ox_nil ?_
      exact ex_capG (fun _ => (none, b16, 0)) rfl rfl
    dsimp only [aftL, List.set_cons_zero, List.set_cons_succ, List.nil_append, List.cons_append, List.append_nil]
    refine gx_o rfl (fun L2 => ?_) ?_
    · dsimp only [maskL, List.cons_append, List.nil_append]
      refine ox_append0 0 us_41 ze_3 by_3 rfl rfl rfl (RdL.row 1 rfl) (encL_len cI_len rfl) (encL_one cI_one _) (app_room hg19 (by decide)) rfl (fun A17 c18 => ?_)
      refine ox_nil ?_
      exact ex_capG (fun _ => (A17, 0, c18)) rfl (List.append_nil _)
    dsimp only [aftL, List.set_cons_zero, List.set_cons_succ, List.nil_append, List.cons_append, List.append_nil]
    refine gx_o rfl (fun L2 => ?_) ?_
    · dsimp only [maskL, List.cons_append, List.nil_append]
      refine ox_y rfl (y_move_slice rfl) ?_
      refine ox_nil ?_
      exact ex_capG (fun _ => (none, 0, 0)) rfl (List.append_nil _)
    dsimp only [aftL, List.set_cons_zero, List.set_cons_succ, List.nil_append, List.cons_append, List.append_nil]
    refine gx_o rfl (fun L2 => ?_) ?_
    · dsimp only [maskL, List.cons_append, List.nil_append]
      refine ox_y rfl (y_move_int rfl) ?_
      refine ox_nil ?_
      exact ex_capG (fun _ => (none, 0, 0)) rfl (List.append_nil _)
    dsimp only [aftL, List.set_cons_zero, List.set_cons_succ, List.nil_append, List.cons_append, List.append_nil]
    refine gx_o rfl (fun L2 => ?_) ?_
    · dsimp only [maskL, List.cons_append, List.nil_append]
      refine ox_y rfl (y_cutL sl_41 hg20.1 hg20.2 (RdL.arg hr0_0) rfl rfl) ?_
      refine ox_nil ?_
      exact ex_capG (fun _ => (none, 0, 0)) rfl (List.append_nil _)
    dsimp only [aftL, List.set_cons_zero, List.set_cons_succ, List.nil_append, List.cons_append, List.append_nil]
    refine gx_o rfl (fun L2 => ?_) ?_
    · dsimp only [maskL, List.cons_append, List.nil_append]
      refine ox_append0 0 us_41 ze_3 by_3 rfl rfl rfl (RdL.cutL cI_len (RdL.arg hr0_0) hg20.1 hg20.2 rfl) (encL_len cI_len (cutL_len rfl)) (encL_one cI_one _) (app_room hg23 (by decide)) rfl (fun A21 c22 => ?_)
      refine ox_nil ?_
      exact ex_capG (fun _ => (A21, 0, c22)) rfl (List.append_nil _)
    dsimp only [aftL, List.set_cons_zero, List.set_cons_succ, List.nil_append, List.cons_append, List.append_nil]
    refine gx_o rfl (fun L2 => ?_) ?_
    · dsimp only [maskL, List.cons_append, List.nil_append]
      refine ox_y rfl (y_assign_slice rfl) ?_
      refine ox_nil ?_
      exact ex_capG (fun _ => (none, 0, 0)) rfl (List.append_nil _)
    dsimp only [aftL, List.set_cons_zero, List.set_cons_succ, List.nil_append, List.cons_append, List.append_nil]
    refine gx_nil ?_
    refine ex_then ?_
    refine cx_ret ?_
    obtain rfl := Option.some.inj h
    exact ex_res1 (.inl rfl) rfl (resV_tmp (v := .slice (ξ10 11 0).1 (((0 + (Int.toNat u3)) + 1) + (p0_l.length - Int.toNat u3)) (ξ10 11 0).2.2) rfl) (fun W2 hW2 => ⟨((ξ10 11 0).1, (((0 + (Int.toNat u3)) + 1) + (p0_l.length - Int.toNat u3)), (ξ10 11 0).2.2), (hn_app (hn_app (hn_app rfl (cutH_len hg12.2 rfl)) rfl) (cutL_len rfl)), rfl, (hW2.pick 0 rfl)⟩)

/-! calx/calxref02.Suspects -/
set_option maxRecDepth 100000 in
theorem calxref02_Suspects_ok (p0_f : TFire) (res : TInts) (h : calxref02_Suspects p0_f = some res) (W : World) (A0_4 : Option Addr) (n0_4 c0_4 : Nat) (hn0_4 : n0_4 = p0_f.fLooks.length) (hr0_4 : Rd W A0_4 n0_4 c0_4 (encL TLook_cells p0_f.fLooks)) :
    Calls Try.prog 33 [.agg #[.int .i64 p0_f.fRise, .int .i64 p0_f.fFall, .int .i64 p0_f.fUp, .int .i64 p0_f.fDown, .slice A0_4 n0_4 c0_4]].toArray W fun e W2 => ∃ x : Option Addr × Nat × Nat, x.2.1 = res.fL.length ∧ e = .returned (.agg #[.slice x.1 x.2.1 x.2.2, .int .i64 res.fE]) ∧ Ext W W2 [rowR x.1 x.2.2 3 1 x.2.1 (encL cI res.fL)] := by
  subst hn0_4
  unfold calxref02_Suspects at h
  refine calls_enter (m := 46) Try.func33 rfl rfl (Nat.le_of_ble_eq_true rfl) ?_
  refine cx_seq ?_
  refine cx_region ?_
  refine ox_box [.int .i64 p0_f.fRise, .int .i64 p0_f.fFall, .int .i64 p0_f.fUp, .int .i64 p0_f.fDown, .slice A0_4 p0_f.fLooks.length c0_4] rfl rfl rfl (fun b1 => ?_)
  refine ox_alloc ze_74 rfl (fun b2 => ?_)
  refine ox_nil ?_
  refine ex_then ?_
  refine cx_seq ?_
  refine cx_region ?_
  refine ox_y rfl (y_loadN 0 [.int .i64 p0_f.fRise, .int .i64 p0_f.fFall, .int .i64 p0_f.fUp, .int .i64 p0_f.fDown, .slice A0_4 p0_f.fLooks.length c0_4] ag_24 rfl rfl rfl) ?_
  obtain ⟨y3, hy4, h⟩ := bind_some h
  refine ox_y rfl (y_call [.agg #[.int .i64 p0_f.fRise, .int .i64 p0_f.fFall, .int .i64 p0_f.fUp, .int .i64 p0_f.fDown, .slice A0_4 p0_f.fLooks.length c0_4]] go_35 rfl (fun W2 hW2 => calxref02_Check_ok p0_f y3 hy4 W2 A0_4 p0_f.fLooks.length c0_4 rfl ((RdL.arg hr0_4) W2 hW2)) rfl) ?_
  refine ox_y rfl (y_assign_int rfl) ?_
  refine ox_nil ?_
  refine ex_then ?_
  refine cx_seq ?_
  refine cx_seq ?_
  refine cx_region ?_
  refine ox_y rfl (y_move_int rfl) ?_
  refine ox_y rfl (y_neq rfl rfl) ?_
  refine ox_nil ?_
  refine ex_then ?_
  rcases ite_some h with ⟨hp5, h⟩ | ⟨hp5, h⟩
  · refine cx_true (congrArg Value.bool hp5) ?_
    refine cx_seq ?_
    refine cx_region ?_
    refine ox_y rfl (y_move_int rfl) ?_
    refine ox_y rfl (y_buildS [.slice none 0 0, .int .i64 y3] [(0, 1), (1, 1)] ust_74 ze_74 (by kernel_rfl)) ?_
    refine ox_n rfl (y_storeN 1 [.slice none 0 0, .int .i64 y3] sz_74 rfl (Nat.le_of_ble_eq_true rfl) rfl rfl rfl) ?_
    refine ox_nil ?_
    refine ex_then ?_
    refine cx_ret ?_
    refine ex_then_ret ?_
    obtain rfl := Option.some.inj h
    exact ex_res1 (.inl rfl) rfl (resV_cellN 1 [.slice none 0 0, .int .i64 y3] ag_74 rfl rfl rfl) (fun W2 hW2 => ⟨(none, 0, 0), rfl, rfl, ((hW2.nilrow 3 1).pick 2 rfl)⟩)
  · refine cx_false (congrArg Value.bool hp5) ?_
    refine cx_skip ?_
    refine ex_then ?_
    refine cx_seq ?_
    refine cx_region ?_
    refine ox_y rfl (y_loadN 0 [.int .i64 p0_f.fRise, .int .i64 p0_f.fFall, .int .i64 p0_f.fUp, .int .i64 p0_f.fDown, .slice A0_4 p0_f.fLooks.length c0_4] ag_24 rfl rfl rfl) ?_
    obtain ⟨y6, hy7, h⟩ := bind_some h
    refine ox_y rfl (y_call [.agg #[.int .i64 p0_f.fRise, .int .i64 p0_f.fFall, .int .i64 p0_f.fUp, .int .i64 p0_f.fDown, .slice A0_4 p0_f.fLooks.length c0_4]] go_76 rfl (fun W2 hW2 => calxref02_agree_ok p0_f y6 hy7 W2 A0_4 p0_f.fLooks.length c0_4 rfl ((RdL.arg hr0_4) W2 hW2)) rfl) ?_
    refine ox_y rfl (y_assign_bool rfl) ?_
    refine ox_nil ?_
    refine ex_then ?_
    refine cx_seq ?_
    refine cx_seq ?_
    refine cx_region ?_
    refine ox_y rfl (y_move_bool rfl) ?_
    refine ox_nil ?_
    refine ex_then ?_
    rcases ite_some h with ⟨hp8, h⟩ | ⟨hp8, h⟩
    · refine cx_true (congrArg Value.bool hp8) ?_
      refine cx_seq ?_
      refine cx_region ?_
      refine ox_y rfl (y_buildS [.slice none 0 0, .int .i64 0] [(0, 1), (1, 1)] ust_74 ze_74 (by kernel_rfl)) ?_
      refine ox_n rfl (y_storeN 1 [.slice none 0 0, .int .i64 0] sz_74 rfl (Nat.le_of_ble_eq_true rfl) rfl rfl rfl) ?_
      refine ox_nil ?_
      refine ex_then ?_
      refine cx_ret ?_
      refine ex_then_ret ?_
      obtain rfl := Option.some.inj h
      exact ex_res1 (.inl rfl) rfl (resV_cellN 1 [.slice none 0 0, .int .i64 0] ag_74 rfl rfl rfl) (fun W2 hW2 => ⟨(none, 0, 0), rfl, rfl, ((hW2.nilrow 3 1).pick 2 rfl)⟩)
    · refine cx_false (congrArg Value.bool hp8) ?_
      refine cx_skip ?_
      refine ex_then ?_
      refine cx_seq ?_
      refine cx_region ?_
      refine ox_y rfl (y_assign_slice rfl) ?_
      refine ox_nil ?_
      refine ex_then ?_
      refine cx_seq ?_
      refine cx_seq ?_
      refine cx_region ?_
      refine ox_y rfl (y_assign_int rfl) ?_
      refine ox_nil ?_
      refine ex_then ?_
      refine cx_block ?_
      obtain ⟨u12, hl33, h⟩ := bind_some h
      refine cx_nilrow 3 1 ?_
      refine cx_loop (fun (s : (Int × (List Int))) L tm => ∃ (tm0 : Nat → Value) (A2_s : Option Addr) (c2_s : Nat) (n2_s : Nat), n2_s = s.2.length ∧ L = [cellsR b1 24 [.int .i64 p0_f.fRise, .int .i64 p0_f.fFall, .int .i64 p0_f.fUp, .int .i64 p0_f.fDown, .slice A0_4 p0_f.fLooks.length c0_4], cellsR b2 74 [.slice none 0 0, .int .i64 0], rowR A2_s c2_s 3 1 n2_s (encL cI s.2)] ∧ tm = (upd (upd (upd (upd (upd (upd (upd (upd (upd tm0 0 (.agg #[.int .i64 p0_f.fRise, .int .i64 p0_f.fFall, .int .i64 p0_f.fUp, .int .i64 p0_f.fDown, .slice A0_4 p0_f.fLooks.length c0_4])) 1 (.pointer (some ⟨b1, 0, none⟩))) 2 (.pointer (some ⟨b2, 0, none⟩))) 3 (.int .i64 y3)) 11 (.bool (y3 != 0))) 4 (.bool y6)) 16 (.bool y6)) 5 (.slice A2_s n2_s c2_s)) 6 (.int .i64 s.1))) (fun s e L tm => e = .exit 0 ∧ ∃ (tm0 : Nat → Value) (A2_s : Option Addr) (c2_s : Nat) (n2_s : Nat), n2_s = s.2.length ∧ L = [cellsR b1 24 [.int .i64 p0_f.fRise, .int .i64 p0_f.fFall, .int .i64 p0_f.fUp, .int .i64 p0_f.fDown, .slice A0_4 p0_f.fLooks.length c0_4], cellsR b2 74 [.slice none 0 0, .int .i64 0], rowR A2_s c2_s 3 1 n2_s (encL cI s.2)] ∧ tm = (upd (upd (upd (upd (upd (upd (upd (upd (upd tm0 0 (.agg #[.int .i64 p0_f.fRise, .int .i64 p0_f.fFall, .int .i64 p0_f.fUp, .int .i64 p0_f.fDown, .slice A0_4 p0_f.fLooks.length c0_4])) 1 (.pointer (some ⟨b1, 0, none⟩))) 2 (.pointer (some ⟨b2, 0, none⟩))) 3 (.int .i64 y3)) 11 (.bool (y3 != 0))) 4 (.bool y6)) 16 (.bool y6)) 5 (.slice A2_s n2_s c2_s)) 6 (.int .i64 s.1))) hl33 ⟨_, none, 0, 0, rfl, rfl, (keep (keep (keep (keep (keep (keep (keep (keep (keep rfl rfl) rfl) rfl) rfl) rfl) rfl) rfl) rfl) rfl)⟩ ?_ ?_
      · rintro s11 L tm st ⟨tm0_s11, A2_s11, c2_s11, n2_s11, rfl, rfl, rfl⟩ h
        unfold calxref02_Suspects_l1 at h
        refine cx_seq ?_
        refine cx_seq ?_
        refine cx_region ?_
        refine ox_y rfl (y_move_int rfl) ?_
        refine ox_y rfl (y_fieldAddr fo_24_4 rfl) ?_
        refine ox_y rfl (y_load1 0 (v := .slice A0_4 p0_f.fLooks.length c0_4) sc_22 rfl rfl rfl) ?_
        refine ox_y rfl (y_len (us := []) us_22 rfl) ?_
        refine ox_y rfl (y_lss rfl rfl) ?_
        refine ox_nil ?_
        refine ex_then ?_
        rcases ite_some h with ⟨hp13, h⟩ | ⟨hp13, h⟩
        · refine cx_true (congrArg Value.bool hp13) ?_
          refine cx_skip ?_
          refine ex_then ?_
          refine cx_seq ?_
          refine cx_block ?_
          refine cx_seq ?_
          obtain ⟨hg15, h⟩ := guardO_some h
          obtain ⟨y17, hy18, h⟩ := bind_some h
          obtain ⟨y23, hy24, h⟩ := bind_some h
          refine cx_drawsG [[], [], [1], [], [1, 2, 3], [1, 2, 3, 4], [1, 2, 3, 4, 5], [1, 2, 3, 4, 5, 6], [0, 1, 2, 3, 4, 5, 6, 7], [0, 1, 2, 3, 4, 5, 6, 7, 8], [0, 1, 2, 3, 4, 5, 6, 7, 8, 9]] [(none, 0, [true, true, true]), (none, 0, [true, true, true]), (none, 0, [true, true, true]), (none, 0, [true, true, true]), (none, 0, [true, true, true]), (none, 0, [true, true, true]), (none, 0, [true, true, true]), (none, 1, [true, true, true]), (none, 1, [true, true, true, true]), (none, 0, [true, true, true, true, true]), (none, 0, [true, true, true, true, true])] [⟨fun _ => .agg #[.int .i64 p0_f.fRise, .int .i64 p0_f.fFall, .int .i64 p0_f.fUp, .int .i64 p0_f.fDown, .slice A0_4 p0_f.fLooks.length c0_4], fun _ => noR, fun _ => []⟩, ⟨fun _ => .pointer (some ⟨b1, 0 + 4, none⟩), fun _ => noR, fun _ => []⟩, ⟨fun _ => .slice A0_4 p0_f.fLooks.length c0_4, fun _ => noR, fun _ => []⟩, ⟨fun _ => .int .i64 s11.1, fun _ => noR, fun _ => []⟩, ⟨fun _ => slA A0_4 (Int.toNat s11.1 * 5), fun _ => noR, fun _ => []⟩, ⟨fun _ => slA A0_4 ((Int.toNat s11.1 * 5) + 0), fun _ => noR, fun _ => []⟩, ⟨fun _ => .int .i64 ((rdL p0_f.fLooks s11.1).fID), fun _ => noR, fun _ => []⟩, ⟨fun ξ14 => .slice (some ⟨(ξ14 7 0).2.1, 0, none⟩) 1 1, fun _ => noR, fun ξ14 => [rowR (some ⟨(ξ14 7 0).2.1, 0, none⟩) 1 3 1 1 (encL cI [(rdL p0_f.fLooks s11.1).fID])]⟩, ⟨fun ξ14 => .agg #[.int .i64 y17.fRise, .int .i64 y17.fFall, .int .i64 y17.fUp, .int .i64 y17.fDown, .slice (ξ14 8 0).1 y17.fLooks.length (ξ14 8 0).2.2], fun _ => noR, fun ξ14 => [rowR (ξ14 8 0).1 (ξ14 8 0).2.2 34 5 y17.fLooks.length (encL TLook_cells y17.fLooks)]⟩, ⟨fun _ => .bool y23, fun _ => noR, fun _ => []⟩, ⟨fun _ => .bool y23, fun _ => noR, fun _ => []⟩] 3 mixed (by kernel_rfl) (by kernel_rfl) ⟨⟨fun ξ14 ξ14' h => ⟨rfl, rfl, rfl⟩, fun _ => rfl⟩, ⟨fun ξ14 ξ14' h => ⟨rfl, rfl, rfl⟩, fun _ => rfl⟩, ⟨fun ξ14 ξ14' h => ⟨rfl, rfl, rfl⟩, fun _ => rfl⟩, ⟨fun ξ14 ξ14' h => ⟨rfl, rfl, rfl⟩, fun _ => rfl⟩, ⟨fun ξ14 ξ14' h => ⟨rfl, rfl, rfl⟩, fun _ => rfl⟩, ⟨fun ξ14 ξ14' h => ⟨rfl, rfl, rfl⟩, fun _ => rfl⟩, ⟨fun ξ14 ξ14' h => ⟨rfl, rfl, rfl⟩, fun _ => rfl⟩, ⟨fun ξ14 ξ14' h => ⟨by simp only [h 7 (.inl rfl)], rfl, by simp only [h 7 (.inl rfl)]⟩, fun _ => rfl⟩, ⟨fun ξ14 ξ14' h => ⟨by simp only [h 8 (.inl rfl)], rfl, by simp only [h 8 (.inl rfl)]⟩, fun _ => rfl⟩, ⟨fun ξ14 ξ14' h => ⟨rfl, rfl, rfl⟩, fun _ => rfl⟩, ⟨fun ξ14 ξ14' h => ⟨rfl, rfl, rfl⟩, fun _ => rfl⟩, trivial⟩ rfl (fun ξ14 => ?_)
          refine gx_o rfl (fun L2 => ?_) ?_
          · dsimp only [maskL, List.cons_append, List.nil_append]
            refine ox_y rfl (y_loadN 0 [.int .i64 p0_f.fRise, .int .i64 p0_f.fFall, .int .i64 p0_f.fUp, .int .i64 p0_f.fDown, .slice A0_4 p0_f.fLooks.length c0_4] ag_24 rfl rfl rfl) ?_
            refine ox_nil ?_
            exact ex_capG (fun _ => (none, 0, 0)) rfl (List.append_nil _)
          dsimp only [aftL, List.set_cons_zero, List.set_cons_succ, List.nil_append, List.cons_append, List.append_nil]
          refine gx_o rfl (fun L2 => ?_) ?_
          · dsimp only [maskL, List.cons_append, List.nil_append]
            refine ox_y rfl (y_fieldAddr fo_24_4 rfl) ?_
            refine ox_nil ?_
            exact ex_capG (fun _ => (none, 0, 0)) rfl (List.append_nil _)
          dsimp only [aftL, List.set_cons_zero, List.set_cons_succ, List.nil_append, List.cons_append, List.append_nil]
          refine gx_o rfl (fun L2 => ?_) ?_
          · dsimp only [maskL, List.cons_append, List.nil_append]
            refine ox_y rfl (y_load1 0 (v := .slice A0_4 p0_f.fLooks.length c0_4) sc_22 rfl rfl rfl) ?_
            refine ox_nil ?_
            exact ex_capG (fun _ => (none, 0, 0)) rfl (List.append_nil _)
          dsimp only [aftL, List.set_cons_zero, List.set_cons_succ, List.nil_append, List.cons_append, List.append_nil]
          refine gx_o rfl (fun L2 => ?_) ?_
          · dsimp only [maskL, List.cons_append, List.nil_append]
            refine ox_y rfl (y_move_int rfl) ?_
            refine ox_nil ?_
            exact ex_capG (fun _ => (none, 0, 0)) rfl (List.append_nil _)
          dsimp only [aftL, List.set_cons_zero, List.set_cons_succ, List.nil_append, List.cons_append, List.append_nil]
          refine gx_o rfl (fun L2 => ?_) ?_
          · dsimp only [maskL, List.cons_append, List.nil_append]
            refine ox_y rfl (y_indexR sl_22 (by decide) hg15.1 hg15.2 (RdL.arg hr0_4) (encL_len TLook_cells_len rfl) rfl rfl) ?_
            refine ox_nil ?_
            exact ex_capG (fun _ => (none, 0, 0)) rfl (List.append_nil _)
          dsimp only [aftL, List.set_cons_zero, List.set_cons_succ, List.nil_append, List.cons_append, List.append_nil]
          refine gx_o rfl (fun L2 => ?_) ?_
          · dsimp only [maskL, List.cons_append, List.nil_append]
            refine ox_y rfl (y_fieldAddrR (A := A0_4) (j := (Int.toNat s11.1 * 5)) fo_34_0 rfl) ?_
            refine ox_nil ?_
            exact ex_capG (fun _ => (none, 0, 0)) rfl (List.append_nil _)
          dsimp only [aftL, List.set_cons_zero, List.set_cons_succ, List.nil_append, List.cons_append, List.append_nil]
          refine gx_o rfl (fun L2 => ?_) ?_
          · dsimp only [maskL, List.cons_append, List.nil_append]
            refine ox_y rfl (y_loadR1 (A := A0_4) (j := ((Int.toNat s11.1 * 5) + 0)) (v := .int .i64 ((rdL p0_f.fLooks s11.1).fID)) sc_3 (RdL.arg hr0_4) rfl (encL_get TLook_cells_len hg15.1 (lt_nat hg15.2 rfl) rfl)) ?_
            refine ox_nil ?_
            exact ex_capG (fun _ => (none, 0, 0)) rfl (List.append_nil _)
          dsimp only [aftL, List.set_cons_zero, List.set_cons_succ, List.nil_append, List.cons_append, List.append_nil]
          refine gx_o rfl (fun L2 => ?_) ?_
          · dsimp only [maskL, List.cons_append, List.nil_append]
            refine ox_buildSliceE 1 (encL cI [(rdL p0_f.fLooks s11.1).fID]) _ mc_3_1 us_41 ze_3 by_3 (by decide) (by decide) (by kernel_rfl) (encL_len cI_len rfl) rfl (fun b16 => ?_)
            refine ox_nil ?_
            exact ex_capG (fun _ => (none, b16, 0)) rfl rfl
          dsimp only [aftL, List.set_cons_zero, List.set_cons_succ, List.nil_append, List.cons_append, List.append_nil]
          refine gx_o rfl (fun L2 => ?_) ?_
          · dsimp only [maskL, List.cons_append, List.nil_append]
            refine ox_call [.agg #[.int .i64 p0_f.fRise, .int .i64 p0_f.fFall, .int .i64 p0_f.fUp, .int .i64 p0_f.fDown, .slice A0_4 p0_f.fLooks.length c0_4], .slice (some ⟨(ξ14 7 0).2.1, 0, none⟩) 1 1] _ _ _ rfl go_77 rfl (fun W2 hW2 => calxref02_without_ok p0_f [(rdL p0_f.fLooks s11.1).fID] y17 hy18 W2 A0_4 p0_f.fLooks.length c0_4 rfl ((RdL.arg hr0_4) W2 hW2) (some ⟨(ξ14 7 0).2.1, 0, none⟩) 1 1 rfl ((RdL.row 3 rfl) W2 hW2)) ?_
            rintro ⟨A19, n21, c20⟩ hn22
            replace hn22 : n21 = y17.fLooks.length := hn22; subst hn22
            refine ox_nil ?_
            exact ex_capG (fun _ => (A19, 0, c20)) rfl rfl
          dsimp only [aftL, List.set_cons_zero, List.set_cons_succ, List.nil_append, List.cons_append, List.append_nil]
          refine gx_o rfl (fun L2 => ?_) ?_
          · dsimp only [maskL, List.cons_append, List.nil_append]
            refine ox_y rfl (y_call [.agg #[.int .i64 y17.fRise, .int .i64 y17.fFall, .int .i64 y17.fUp, .int .i64 y17.fDown, .slice (ξ14 8 0).1 y17.fLooks.length (ξ14 8 0).2.2]] go_76 rfl (fun W2 hW2 => calxref02_agree_ok y17 y23 hy24 W2 (ξ14 8 0).1 y17.fLooks.length (ξ14 8 0).2.2 rfl ((RdL.row 4 rfl) W2 hW2)) rfl) ?_
            refine ox_nil ?_
            exact ex_capG (fun _ => (none, 0, 0)) rfl (List.append_nil _)
          dsimp only [aftL, List.set_cons_zero, List.set_cons_succ, List.nil_append, List.cons_append, List.append_nil]
          refine gx_o rfl (fun L2 => ?_) ?_
          · dsimp only [maskL, List.cons_append, List.nil_append]
            refine ox_y rfl (y_assign_bool rfl) ?_
            refine ox_nil ?_
            exact ex_capG (fun _ => (none, 0, 0)) rfl (List.append_nil _)
          dsimp only [aftL, List.set_cons_zero, List.set_cons_succ, List.nil_append, List.cons_append, List.append_nil]
          refine gx_nil ?_
          refine ex_then ?_
          refine cx_seq ?_
          refine cx_region ?_
          refine ox_y rfl (y_move_bool rfl) ?_
          refine ox_nil ?_
          refine ex_then ?_
          rcases ite_some h with ⟨hp25, h⟩ | ⟨hp25, h⟩
          · refine cx_true (congrArg Value.bool hp25) ?_
            refine cx_region ?_
            refine ox_y rfl (y_move_slice rfl) ?_
            refine ox_y rfl (y_fieldAddr fo_24_4 rfl) ?_
            refine ox_y rfl (y_load1 0 (v := .slice A0_4 p0_f.fLooks.length c0_4) sc_22 rfl rfl rfl) ?_
            refine ox_y rfl (y_move_int rfl) ?_
            obtain ⟨hg26, h⟩ := guardO_some h
            refine ox_y rfl (y_indexR sl_22 (by decide) hg26.1 hg26.2 (RdL.arg hr0_4) (encL_len TLook_cells_len rfl) rfl rfl) ?_
            refine ox_y rfl (y_fieldAddrR (A := A0_4) (j := (Int.toNat s11.1 * 5)) fo_34_0 rfl) ?_
            refine ox_y rfl (y_loadR1 (A := A0_4) (j := ((Int.toNat s11.1 * 5) + 0)) (v := .int .i64 ((rdL p0_f.fLooks s11.1).fID)) sc_3 (RdL.arg hr0_4) rfl (encL_get TLook_cells_len hg26.1 (lt_nat hg26.2 rfl) rfl)) ?_
            obtain ⟨y27, hy28, h⟩ := bind_some h
            refine ox_call [.slice A2_s11 s11.2.length c2_s11, .int .i64 ((rdL p0_f.fLooks s11.1).fID)] _ _ _ rfl go_78 rfl (fun W2 hW2 => calxref02_put_ok s11.2 ((rdL p0_f.fLooks s11.1).fID) y27 hy28 W2 A2_s11 s11.2.length c2_s11 rfl ((RdL.row 2 rfl) W2 hW2)) ?_
            rintro ⟨A29, n31, c30⟩ hn32
            replace hn32 : n31 = y27.length := hn32; subst hn32
            try dsimp only [List.nil_append, List.cons_append, List.set_cons_zero, List.set_cons_succ]
            refine ox_y rfl (y_assign_slice rfl) ?_
            refine ox_nil ?_
            refine ex_block ?_
            refine ex_then ?_
            refine cx_region ?_
            refine ox_y rfl (y_move_int rfl) ?_
            refine ox_y rfl (y_add rfl rfl) ?_
            refine ox_y rfl (y_assign_int rfl) ?_
            refine ox_nil ?_
            refine ex_mv 2 5 (by decide) rfl ?_
            dsimp only [List.set_cons_zero, List.set_cons_succ]
            refine ex_take 3 ?_
            obtain rfl := Option.some.inj h
            exact ex_next ⟨_, A29, c30, y27.length, rfl, rfl, (keep (keep (keep (keep (keep (keep (keep (keep (keep rfl rfl) rfl) rfl) rfl) rfl) rfl) rfl) rfl) rfl)⟩
          · refine cx_false (congrArg Value.bool hp25) ?_
            refine cx_skip ?_
            refine ex_block ?_
            refine ex_then ?_
            refine cx_region ?_
            refine ox_y rfl (y_move_int rfl) ?_
            refine ox_y rfl (y_add rfl rfl) ?_
            refine ox_y rfl (y_assign_int rfl) ?_
            refine ox_nil ?_
            refine ex_take 3 ?_
            obtain rfl := Option.some.inj h
            exact ex_next ⟨_, A2_s11, c2_s11, s11.2.length, rfl, rfl, (keep (keep (keep (keep (keep (keep (keep (keep (keep rfl rfl) rfl) rfl) rfl) rfl) rfl) rfl) rfl) rfl)⟩
        · refine cx_false (congrArg Value.bool hp13) ?_
          refine cx_exit ?_
          refine ex_then_exit ?_
          obtain rfl := Option.some.inj h
          exact ex_stop ⟨rfl, _, A2_s11, c2_s11, s11.2.length, rfl, rfl, (keep (keep (keep (keep (keep (keep (keep (keep (keep rfl rfl) rfl) rfl) rfl) rfl) rfl) rfl) rfl) rfl)⟩
      · intro e L tm hJ
        obtain ⟨rfl, tm0_u12, A2_u12, c2_u12, n2_u12, rfl, rfl, rfl⟩ := hJ
        refine ⟨(by intro hc; cases hc), ?_⟩
        refine ex_block_here ?_
        refine ex_then ?_
        refine cx_seq ?_
        refine cx_region ?_
        refine ox_y rfl (y_move_slice rfl) ?_
        refine ox_y rfl (y_buildS [.slice A2_u12 u12.2.length c2_u12, .int .i64 0] [(0, 1), (1, 1)] ust_74 ze_74 (by kernel_rfl)) ?_
        refine ox_n rfl (y_storeN 1 [.slice A2_u12 u12.2.length c2_u12, .int .i64 0] sz_74 rfl (Nat.le_of_ble_eq_true rfl) rfl rfl rfl) ?_
        refine ox_nil ?_
        refine ex_then ?_
        refine cx_ret ?_
        obtain rfl := Option.some.inj h
        exact ex_res1 (.inl rfl) rfl (resV_cellN 1 [.slice A2_u12 u12.2.length c2_u12, .int .i64 0] ag_74 rfl rfl rfl) (fun W2 hW2 => ⟨(A2_u12, u12.2.length, c2_u12), rfl, rfl, (hW2.pick 2 rfl)⟩)

/-! calx/calxref02.Without -/
set_option maxRecDepth 100000 in
theorem calxref02_Without_ok (p0_f : TFire) (p1_ids : (List Int)) (res : TMade) (h : calxref02_Without p0_f p1_ids = some res) (W : World) (A0_4 : Option Addr) (n0_4 c0_4 : Nat) (hn0_4 : n0_4 = p0_f.fLooks.length) (hr0_4 : Rd W A0_4 n0_4 c0_4 (encL TLook_cells p0_f.fLooks)) (A1_0 : Option Addr) (n1_0 c1_0 : Nat) (hn1_0 : n1_0 = p1_ids.length) (hr1_0 : Rd W A1_0 n1_0 c1_0 (encL cI p1_ids)) :
    Calls Try.prog 34 [.agg #[.int .i64 p0_f.fRise, .int .i64 p0_f.fFall, .int .i64 p0_f.fUp, .int .i64 p0_f.fDown, .slice A0_4 n0_4 c0_4], .slice A1_0 n1_0 c1_0].toArray W fun e W2 => ∃ x : Option Addr × Nat × Nat, x.2.1 = res.fF.fLooks.length ∧ e = .returned (.agg #[.int .i64 res.fF.fRise, .int .i64 res.fF.fFall, .int .i64 res.fF.fUp, .int .i64 res.fF.fDown, .slice x.1 x.2.1 x.2.2, .int .i64 res.fE]) ∧ Ext W W2 [rowR x.1 x.2.2 34 5 x.2.1 (encL TLook_cells res.fF.fLooks)] := by
  subst hn0_4
  subst hn1_0
  unfold calxref02_Without at h
  refine calls_enter (m := 16) Try.func34 rfl rfl (Nat.le_of_ble_eq_true rfl) ?_
  refine cx_seq ?_
  refine cx_region ?_
  refine ox_box [.int .i64 p0_f.fRise, .int .i64 p0_f.fFall, .int .i64 p0_f.fUp, .int .i64 p0_f.fDown, .slice A0_4 p0_f.fLooks.length c0_4] rfl rfl rfl (fun b1 => ?_)
  refine ox_alloc ze_77 rfl (fun b2 => ?_)
  refine ox_nil ?_
  refine ex_then ?_
  refine cx_seq ?_
  refine cx_region ?_
  refine ox_y rfl (y_loadN 0 [.int .i64 p0_f.fRise, .int .i64 p0_f.fFall, .int .i64 p0_f.fUp, .int .i64 p0_f.fDown, .slice A0_4 p0_f.fLooks.length c0_4] ag_24 rfl rfl rfl) ?_
  obtain ⟨y3, hy4, h⟩ := bind_some h
  refine ox_y rfl (y_call [.agg #[.int .i64 p0_f.fRise, .int .i64 p0_f.fFall, .int .i64 p0_f.fUp, .int .i64 p0_f.fDown, .slice A0_4 p0_f.fLooks.length c0_4]] go_35 rfl (fun W2 hW2 => calxref02_Check_ok p0_f y3 hy4 W2 A0_4 p0_f.fLooks.length c0_4 rfl ((RdL.arg hr0_4) W2 hW2)) rfl) ?_
  refine ox_y rfl (y_assign_int rfl) ?_
  refine ox_nil ?_
  refine ex_then ?_
  refine cx_seq ?_
  refine cx_seq ?_
  refine cx_region ?_
  refine ox_y rfl (y_move_int rfl) ?_
  refine ox_y rfl (y_neq rfl rfl) ?_
  refine ox_nil ?_
  refine ex_then ?_
  rcases ite_some h with ⟨hp5, h⟩ | ⟨hp5, h⟩
  · refine cx_true (congrArg Value.bool hp5) ?_
    refine cx_seq ?_
    refine cx_region ?_
    refine ox_y rfl (y_move_int rfl) ?_
    refine ox_y rfl (y_buildS [.int .i64 0, .int .i64 0, .int .i64 0, .int .i64 0, .slice none 0 0, .int .i64 y3] [(0, 5), (5, 1)] ust_77 ze_77 (by kernel_rfl)) ?_
    refine ox_n rfl (y_storeN 1 [.int .i64 0, .int .i64 0, .int .i64 0, .int .i64 0, .slice none 0 0, .int .i64 y3] sz_77 rfl (Nat.le_of_ble_eq_true rfl) rfl rfl rfl) ?_
    refine ox_nil ?_
    refine ex_then ?_
    refine cx_ret ?_
    refine ex_then_ret ?_
    obtain rfl := Option.some.inj h
    exact ex_res1 (.inl rfl) rfl (resV_cellN 1 [.int .i64 0, .int .i64 0, .int .i64 0, .int .i64 0, .slice none 0 0, .int .i64 y3] ag_77 rfl rfl rfl) (fun W2 hW2 => ⟨(none, 0, 0), rfl, rfl, ((hW2.nilrow 34 5).pick 2 rfl)⟩)
  · refine cx_false (congrArg Value.bool hp5) ?_
    refine cx_skip ?_
    refine ex_then ?_
    refine cx_seq ?_
    refine cx_region ?_
    refine ox_y rfl (y_loadN 0 [.int .i64 p0_f.fRise, .int .i64 p0_f.fFall, .int .i64 p0_f.fUp, .int .i64 p0_f.fDown, .slice A0_4 p0_f.fLooks.length c0_4] ag_24 rfl rfl rfl) ?_
    refine ox_y rfl (y_move_slice rfl) ?_
    obtain ⟨y6, hy7, h⟩ := bind_some h
    refine ox_call [.agg #[.int .i64 p0_f.fRise, .int .i64 p0_f.fFall, .int .i64 p0_f.fUp, .int .i64 p0_f.fDown, .slice A0_4 p0_f.fLooks.length c0_4], .slice A1_0 p1_ids.length c1_0] _ _ _ rfl go_77 rfl (fun W2 hW2 => calxref02_without_ok p0_f p1_ids y6 hy7 W2 A0_4 p0_f.fLooks.length c0_4 rfl ((RdL.arg hr0_4) W2 hW2) A1_0 p1_ids.length c1_0 rfl ((RdL.arg hr1_0) W2 hW2)) ?_
    rintro ⟨A8, n10, c9⟩ hn11
    replace hn11 : n10 = y6.fLooks.length := hn11; subst hn11
    refine ox_y rfl (y_buildS [.int .i64 y6.fRise, .int .i64 y6.fFall, .int .i64 y6.fUp, .int .i64 y6.fDown, .slice A8 y6.fLooks.length c9, .int .i64 0] [(0, 5), (5, 1)] ust_77 ze_77 (by kernel_rfl)) ?_
    refine ox_n rfl (y_storeN 1 [.int .i64 y6.fRise, .int .i64 y6.fFall, .int .i64 y6.fUp, .int .i64 y6.fDown, .slice A8 y6.fLooks.length c9, .int .i64 0] sz_77 rfl (Nat.le_of_ble_eq_true rfl) rfl rfl rfl) ?_
    refine ox_nil ?_
    refine ex_then ?_
    refine cx_ret ?_
    obtain rfl := Option.some.inj h
    exact ex_res1 (.inl rfl) rfl (resV_cellN 1 [.int .i64 y6.fRise, .int .i64 y6.fFall, .int .i64 y6.fUp, .int .i64 y6.fDown, .slice A8 y6.fLooks.length c9, .int .i64 0] ag_77 rfl rfl rfl) (fun W2 hW2 => ⟨(A8, y6.fLooks.length, c9), rfl, rfl, (hW2.pick 2 rfl)⟩)

/-! calx/calxref02.look -/
set_option maxRecDepth 100000 in
theorem calxref02_look_ok (p0_f : TFire) (p1_id : Int) (res : Int) (h : calxref02_look p0_f p1_id = some res) (W : World) (A0_4 : Option Addr) (n0_4 c0_4 : Nat) (hn0_4 : n0_4 = p0_f.fLooks.length) (hr0_4 : Rd W A0_4 n0_4 c0_4 (encL TLook_cells p0_f.fLooks)) :
    Calls Try.prog 81 [.agg #[.int .i64 p0_f.fRise, .int .i64 p0_f.fFall, .int .i64 p0_f.fUp, .int .i64 p0_f.fDown, .slice A0_4 n0_4 c0_4], .int .i64 p1_id].toArray W fun e W2 => e = .returned (.int .i64 res) ∧ Ext W W2 [] := by
  subst hn0_4
  unfold calxref02_look at h
  refine calls_enter (m := 22) Try.func81 rfl rfl (Nat.le_of_ble_eq_true rfl) ?_
  refine cx_seq ?_
  refine cx_region ?_
  refine ox_box [.int .i64 p0_f.fRise, .int .i64 p0_f.fFall, .int .i64 p0_f.fUp, .int .i64 p0_f.fDown, .slice A0_4 p0_f.fLooks.length c0_4] rfl rfl rfl (fun b1 => ?_)
  refine ox_y rfl (y_assign_int rfl) ?_
  refine ox_nil ?_
  refine ex_then ?_
  refine cx_seq ?_
  refine cx_seq ?_
  refine cx_region ?_
  refine ox_y rfl (y_assign_int rfl) ?_
  refine ox_nil ?_
  refine ex_then ?_
  refine cx_block ?_
  obtain ⟨u4, hl8, h⟩ := bind_some h
  refine cx_loop (fun (s : (Int × Int)) L tm => ∃ (tm0 : Nat → Value), L = [cellsR b1 24 [.int .i64 p0_f.fRise, .int .i64 p0_f.fFall, .int .i64 p0_f.fUp, .int .i64 p0_f.fDown, .slice A0_4 p0_f.fLooks.length c0_4]] ∧ tm = (upd (upd (upd (upd (upd tm0 0 (.agg #[.int .i64 p0_f.fRise, .int .i64 p0_f.fFall, .int .i64 p0_f.fUp, .int .i64 p0_f.fDown, .slice A0_4 p0_f.fLooks.length c0_4])) 1 (.int .i64 p1_id)) 2 (.pointer (some ⟨b1, 0, none⟩))) 4 (.int .i64 s.1)) 5 (.int .i64 s.2))) (fun | (.inl s), e, L, tm => e = .ret ∧ ∃ (tm0 : Nat → Value), L = [cellsR b1 24 [.int .i64 p0_f.fRise, .int .i64 p0_f.fFall, .int .i64 p0_f.fUp, .int .i64 p0_f.fDown, .slice A0_4 p0_f.fLooks.length c0_4]] ∧ tm = (upd (upd (upd (upd (upd tm0 0 (.agg #[.int .i64 p0_f.fRise, .int .i64 p0_f.fFall, .int .i64 p0_f.fUp, .int .i64 p0_f.fDown, .slice A0_4 p0_f.fLooks.length c0_4])) 1 (.int .i64 p1_id)) 2 (.pointer (some ⟨b1, 0, none⟩))) 4 (.int .i64 s.1)) 5 (.int .i64 s.2)) | (.inr s), e, L, tm => e = .exit 0 ∧ ∃ (tm0 : Nat → Value), L = [cellsR b1 24 [.int .i64 p0_f.fRise, .int .i64 p0_f.fFall, .int .i64 p0_f.fUp, .int .i64 p0_f.fDown, .slice A0_4 p0_f.fLooks.length c0_4]] ∧ tm = (upd (upd (upd (upd (upd tm0 0 (.agg #[.int .i64 p0_f.fRise, .int .i64 p0_f.fFall, .int .i64 p0_f.fUp, .int .i64 p0_f.fDown, .slice A0_4 p0_f.fLooks.length c0_4])) 1 (.int .i64 p1_id)) 2 (.pointer (some ⟨b1, 0, none⟩))) 4 (.int .i64 s.1)) 5 (.int .i64 s.2))) hl8 ⟨_, rfl, (keep (keep (keep (keep (keep rfl rfl) rfl) rfl) rfl) rfl)⟩ ?_ ?_
  · rintro s3 L tm st ⟨tm0_s3, rfl, rfl⟩ h
    unfold calxref02_look_l1 at h
    refine cx_seq ?_
    refine cx_seq ?_
    refine cx_region ?_
    refine ox_y rfl (y_move_int rfl) ?_
    refine ox_y rfl (y_fieldAddr fo_24_4 rfl) ?_
    refine ox_y rfl (y_load1 0 (v := .slice A0_4 p0_f.fLooks.length c0_4) sc_22 rfl rfl rfl) ?_
    refine ox_y rfl (y_len (us := []) us_22 rfl) ?_
    refine ox_y rfl (y_lss rfl rfl) ?_
    refine ox_nil ?_
    refine ex_then ?_
    rcases ite_some h with ⟨hp5, h⟩ | ⟨hp5, h⟩
    · refine cx_true (congrArg Value.bool hp5) ?_
      refine cx_skip ?_
      refine ex_then ?_
      refine cx_seq ?_
      refine cx_block ?_
      refine cx_seq ?_
      refine cx_region ?_
      refine ox_y rfl (y_fieldAddr fo_24_4 rfl) ?_
      refine ox_y rfl (y_load1 0 (v := .slice A0_4 p0_f.fLooks.length c0_4) sc_22 rfl rfl rfl) ?_
      refine ox_y rfl (y_move_int rfl) ?_
      obtain ⟨hg6, h⟩ := guardO_some h
      refine ox_y rfl (y_indexR sl_22 (by decide) hg6.1 hg6.2 (RdL.arg hr0_4) (encL_len TLook_cells_len rfl) rfl rfl) ?_
      refine ox_y rfl (y_fieldAddrR (A := A0_4) (j := (Int.toNat s3.2 * 5)) fo_34_0 rfl) ?_
      refine ox_y rfl (y_loadR1 (A := A0_4) (j := ((Int.toNat s3.2 * 5) + 0)) (v := .int .i64 ((rdL p0_f.fLooks s3.2).fID)) sc_3 (RdL.arg hr0_4) rfl (encL_get TLook_cells_len hg6.1 (lt_nat hg6.2 rfl) rfl)) ?_
      refine ox_y rfl (y_move_int rfl) ?_
      refine ox_y rfl (y_eql rfl rfl) ?_
      refine ox_nil ?_
      refine ex_then ?_
      rcases ite_some h with ⟨hp7, h⟩ | ⟨hp7, h⟩
      · refine cx_true (congrArg Value.bool hp7) ?_
        refine cx_seq ?_
        refine cx_region ?_
        refine ox_y rfl (y_move_int rfl) ?_
        refine ox_y rfl (y_assign_int rfl) ?_
        refine ox_nil ?_
        refine ex_then ?_
        refine cx_ret ?_
        refine ex_block_ret ?_
        refine ex_then_ret ?_
        obtain rfl := Option.some.inj h
        exact ex_stop ⟨rfl, _, rfl, (keep (keep (keep (keep (keep rfl rfl) rfl) rfl) rfl) rfl)⟩
      · refine cx_false (congrArg Value.bool hp7) ?_
        refine cx_skip ?_
        refine ex_block ?_
        refine ex_then ?_
        refine cx_region ?_
        refine ox_y rfl (y_move_int rfl) ?_
        refine ox_y rfl (y_add rfl rfl) ?_
        refine ox_y rfl (y_assign_int rfl) ?_
        refine ox_nil ?_
        obtain rfl := Option.some.inj h
        exact ex_next ⟨_, rfl, (keep (keep (keep (keep (keep rfl rfl) rfl) rfl) rfl) rfl)⟩
    · refine cx_false (congrArg Value.bool hp5) ?_
      refine cx_exit ?_
      refine ex_then_exit ?_
      obtain rfl := Option.some.inj h
      exact ex_stop ⟨rfl, _, rfl, (keep (keep (keep (keep (keep rfl rfl) rfl) rfl) rfl) rfl)⟩
  · intro e L tm hJ
    rcases u4 with u9 | u10
    · dsimp only at h hJ
      obtain ⟨rfl, tm0_u9, rfl, rfl⟩ := hJ
      refine ⟨(by intro hc; cases hc), ?_⟩
      refine ex_block_ret ?_
      refine ex_then_ret ?_
      obtain rfl := Option.some.inj h
      exact ex_res1 (.inl rfl) rfl (resV_tmp (v := .int .i64 u9.1) rfl) (fun W2 hW2 => ⟨rfl, hW2.none⟩)
    · dsimp only at h hJ
      obtain ⟨rfl, tm0_u10, rfl, rfl⟩ := hJ
      refine ⟨(by intro hc; cases hc), ?_⟩
      refine ex_block_here ?_
      refine ex_then ?_
      refine cx_seq ?_
      refine cx_region ?_
      refine ox_y rfl (y_assign_int rfl) ?_
      refine ox_nil ?_
      refine ex_then ?_
      refine cx_ret ?_
      obtain rfl := Option.some.inj h
      exact ex_res1 (.inl rfl) rfl (resV_tmp (v := .int .i64 (-1)) rfl) (fun W2 hW2 => ⟨rfl, hW2.none⟩)

/-! calx/calxref02.CheckClash -/
set_option maxRecDepth 100000 in
theorem calxref02_CheckClash_ok (p0_f : TFire) (p1_a : Int) (p2_b : Int) (res : Int) (h : calxref02_CheckClash p0_f p1_a p2_b = some res) (W : World) (A0_4 : Option Addr) (n0_4 c0_4 : Nat) (hn0_4 : n0_4 = p0_f.fLooks.length) (hr0_4 : Rd W A0_4 n0_4 c0_4 (encL TLook_cells p0_f.fLooks)) :
    Calls Try.prog 36 [.agg #[.int .i64 p0_f.fRise, .int .i64 p0_f.fFall, .int .i64 p0_f.fUp, .int .i64 p0_f.fDown, .slice A0_4 n0_4 c0_4], .int .i64 p1_a, .int .i64 p2_b].toArray W fun e W2 => e = .returned (.int .i64 res) ∧ Ext W W2 [] := by
  subst hn0_4
  unfold calxref02_CheckClash at h
  refine calls_enter (m := 42) Try.func36 rfl rfl (Nat.le_of_ble_eq_true rfl) ?_
  refine cx_seq ?_
  refine cx_region ?_
  refine ox_box [.int .i64 p0_f.fRise, .int .i64 p0_f.fFall, .int .i64 p0_f.fUp, .int .i64 p0_f.fDown, .slice A0_4 p0_f.fLooks.length c0_4] rfl rfl rfl (fun b1 => ?_)
  refine ox_y rfl (y_assign_int rfl) ?_
  refine ox_nil ?_
  refine ex_then ?_
  refine cx_seq ?_
  refine cx_region ?_
  refine ox_y rfl (y_loadN 0 [.int .i64 p0_f.fRise, .int .i64 p0_f.fFall, .int .i64 p0_f.fUp, .int .i64 p0_f.fDown, .slice A0_4 p0_f.fLooks.length c0_4] ag_24 rfl rfl rfl) ?_
  obtain ⟨y2, hy3, h⟩ := bind_some h
  refine ox_y rfl (y_call [.agg #[.int .i64 p0_f.fRise, .int .i64 p0_f.fFall, .int .i64 p0_f.fUp, .int .i64 p0_f.fDown, .slice A0_4 p0_f.fLooks.length c0_4]] go_35 rfl (fun W2 hW2 => calxref02_Check_ok p0_f y2 hy3 W2 A0_4 p0_f.fLooks.length c0_4 rfl ((RdL.arg hr0_4) W2 hW2)) rfl) ?_
  refine ox_y rfl (y_assign_int rfl) ?_
  refine ox_nil ?_
  refine ex_then ?_
  refine cx_seq ?_
  refine cx_seq ?_
  refine cx_region ?_
  refine ox_y rfl (y_move_int rfl) ?_
  refine ox_y rfl (y_neq rfl rfl) ?_
  refine ox_nil ?_
  refine ex_then ?_
  rcases ite_some h with ⟨hp4, h⟩ | ⟨hp4, h⟩
  · refine cx_true (congrArg Value.bool hp4) ?_
    refine cx_seq ?_
    refine cx_region ?_
    refine ox_y rfl (y_move_int rfl) ?_
    refine ox_y rfl (y_assign_int rfl) ?_
    refine ox_nil ?_
    refine ex_then ?_
    refine cx_ret ?_
    refine ex_then_ret ?_
    obtain rfl := Option.some.inj h
    exact ex_res1 (.inl rfl) rfl (resV_tmp (v := .int .i64 y2) rfl) (fun W2 hW2 => ⟨rfl, hW2.none⟩)
  · refine cx_false (congrArg Value.bool hp4) ?_
    refine cx_skip ?_
    refine ex_then ?_
    refine cx_seq ?_
    refine cx_region ?_
    refine ox_y rfl (y_loadN 0 [.int .i64 p0_f.fRise, .int .i64 p0_f.fFall, .int .i64 p0_f.fUp, .int .i64 p0_f.fDown, .slice A0_4 p0_f.fLooks.length c0_4] ag_24 rfl rfl rfl) ?_
    refine ox_y rfl (y_move_int rfl) ?_
    obtain ⟨y5, hy6, h⟩ := bind_some h
    refine ox_y rfl (y_call [.agg #[.int .i64 p0_f.fRise, .int .i64 p0_f.fFall, .int .i64 p0_f.fUp, .int .i64 p0_f.fDown, .slice A0_4 p0_f.fLooks.length c0_4], .int .i64 p1_a] go_81 rfl (fun W2 hW2 => calxref02_look_ok p0_f p1_a y5 hy6 W2 A0_4 p0_f.fLooks.length c0_4 rfl ((RdL.arg hr0_4) W2 hW2)) rfl) ?_
    refine ox_y rfl (y_assign_int rfl) ?_
    refine ox_nil ?_
    refine ex_then ?_
    refine cx_seq ?_
    refine cx_region ?_
    refine ox_y rfl (y_loadN 0 [.int .i64 p0_f.fRise, .int .i64 p0_f.fFall, .int .i64 p0_f.fUp, .int .i64 p0_f.fDown, .slice A0_4 p0_f.fLooks.length c0_4] ag_24 rfl rfl rfl) ?_
    refine ox_y rfl (y_move_int rfl) ?_
    obtain ⟨y7, hy8, h⟩ := bind_some h
    refine ox_y rfl (y_call [.agg #[.int .i64 p0_f.fRise, .int .i64 p0_f.fFall, .int .i64 p0_f.fUp, .int .i64 p0_f.fDown, .slice A0_4 p0_f.fLooks.length c0_4], .int .i64 p2_b] go_81 rfl (fun W2 hW2 => calxref02_look_ok p0_f p2_b y7 hy8 W2 A0_4 p0_f.fLooks.length c0_4 rfl ((RdL.arg hr0_4) W2 hW2)) rfl) ?_
    refine ox_y rfl (y_assign_int rfl) ?_
    refine ox_nil ?_
    refine ex_then ?_
    refine cx_seq ?_
    refine cx_seq ?_
    refine cx_region ?_
    refine ox_y rfl (y_move_int rfl) ?_
    refine ox_y rfl (y_lss rfl rfl) ?_
    refine ox_y rfl (y_move_bool rfl) ?_
    refine ox_join 3 (fun tm0 => (upd (upd (upd (upd (upd tm0 3 (.pointer (some ⟨b1, 0, none⟩))) 6 (.int .i64 0)) 8 (.int .i64 y5)) 9 (.int .i64 y7)) 27 (.bool ((decide (y5 < 0)) || (decide (y7 < 0)))))) (fun tm0 => ?_) (fun key => ?_)
    · refine ox_nil ?_
      refine ex_then ?_
      rcases ite_some h with ⟨hp10, h⟩ | ⟨hp10, h⟩
      · refine cx_true (congrArg Value.bool hp10) ?_
        refine cx_seq ?_
        refine cx_region ?_
        refine ox_y rfl (y_assign_int rfl) ?_
        refine ox_nil ?_
        refine ex_then ?_
        refine cx_ret ?_
        refine ex_then_ret ?_
        obtain rfl := Option.some.inj h
        exact ex_res1 (.inl rfl) rfl (resV_tmp (v := .int .i64 5) rfl) (fun W2 hW2 => ⟨rfl, hW2.none⟩)
      · refine cx_false (congrArg Value.bool hp10) ?_
        refine cx_skip ?_
        refine ex_then ?_
        refine cx_seq ?_
        refine cx_draws 13 mixed (by kernel_rfl) (by kernel_rfl) ?_
        refine qx_y rfl (y_loadN 0 [.int .i64 p0_f.fRise, .int .i64 p0_f.fFall, .int .i64 p0_f.fUp, .int .i64 p0_f.fDown, .slice A0_4 p0_f.fLooks.length c0_4] ag_24 rfl rfl rfl) ?_
        refine qx_y rfl (y_fieldAddr fo_24_4 rfl) ?_
        refine qx_y rfl (y_load1 0 (v := .slice A0_4 p0_f.fLooks.length c0_4) sc_22 rfl rfl rfl) ?_
        refine qx_y rfl (y_move_int rfl) ?_
        obtain ⟨hg11, h⟩ := guardO_some h
        refine qx_y rfl (y_indexR sl_22 (by decide) hg11.1 hg11.2 (RdL.arg hr0_4) (encL_len TLook_cells_len rfl) rfl rfl) ?_
        refine qx_y rfl (y_loadRN (A := A0_4) (j := (Int.toNat y5 * 5)) [.int .i64 ((rdL p0_f.fLooks y5).fID), .int .i64 ((rdL p0_f.fLooks y5).fAt.fFoot), .int .i64 ((rdL p0_f.fLooks y5).fAt.fHour), .int .i64 ((rdL p0_f.fLooks y5).fHeat.fLo), .int .i64 ((rdL p0_f.fLooks y5).fHeat.fHi)] ag_34 (Nat.succ_pos _) (RdL.arg hr0_4) rfl (encL_gets TLook_cells_len hg11.1 (lt_nat hg11.2 rfl))) ?_
        refine qx_y rfl (y_fieldAddr fo_24_4 rfl) ?_
        refine qx_y rfl (y_load1 0 (v := .slice A0_4 p0_f.fLooks.length c0_4) sc_22 rfl rfl rfl) ?_
        refine qx_y rfl (y_move_int rfl) ?_
        obtain ⟨hg12, h⟩ := guardO_some h
        refine qx_y rfl (y_indexR sl_22 (by decide) hg12.1 hg12.2 (RdL.arg hr0_4) (encL_len TLook_cells_len rfl) rfl rfl) ?_
        refine qx_y rfl (y_loadRN (A := A0_4) (j := (Int.toNat y7 * 5)) [.int .i64 ((rdL p0_f.fLooks y7).fID), .int .i64 ((rdL p0_f.fLooks y7).fAt.fFoot), .int .i64 ((rdL p0_f.fLooks y7).fAt.fHour), .int .i64 ((rdL p0_f.fLooks y7).fHeat.fLo), .int .i64 ((rdL p0_f.fLooks y7).fHeat.fHi)] ag_34 (Nat.succ_pos _) (RdL.arg hr0_4) rfl (encL_gets TLook_cells_len hg12.1 (lt_nat hg12.2 rfl))) ?_
        obtain ⟨y13, hy14, h⟩ := bind_some h
        refine qx_y rfl (y_call [.agg #[.int .i64 p0_f.fRise, .int .i64 p0_f.fFall, .int .i64 p0_f.fUp, .int .i64 p0_f.fDown, .slice A0_4 p0_f.fLooks.length c0_4], .agg #[.int .i64 ((rdL p0_f.fLooks y5).fID), .int .i64 ((rdL p0_f.fLooks y5).fAt.fFoot), .int .i64 ((rdL p0_f.fLooks y5).fAt.fHour), .int .i64 ((rdL p0_f.fLooks y5).fHeat.fLo), .int .i64 ((rdL p0_f.fLooks y5).fHeat.fHi)], .agg #[.int .i64 ((rdL p0_f.fLooks y7).fID), .int .i64 ((rdL p0_f.fLooks y7).fAt.fFoot), .int .i64 ((rdL p0_f.fLooks y7).fAt.fHour), .int .i64 ((rdL p0_f.fLooks y7).fHeat.fLo), .int .i64 ((rdL p0_f.fLooks y7).fHeat.fHi)]] go_75 rfl (fun W2 hW2 => calxref02_against_ok p0_f (TLook.mk ((rdL p0_f.fLooks y5).fID) (TSpot.mk ((rdL p0_f.fLooks y5).fAt.fFoot) ((rdL p0_f.fLooks y5).fAt.fHour)) (TSpan.mk ((rdL p0_f.fLooks y5).fHeat.fLo) ((rdL p0_f.fLooks y5).fHeat.fHi))) (TLook.mk ((rdL p0_f.fLooks y7).fID) (TSpot.mk ((rdL p0_f.fLooks y7).fAt.fFoot) ((rdL p0_f.fLooks y7).fAt.fHour)) (TSpan.mk ((rdL p0_f.fLooks y7).fHeat.fLo) ((rdL p0_f.fLooks y7).fHeat.fHi))) y13 hy14 W2 A0_4 p0_f.fLooks.length c0_4 rfl ((RdL.arg hr0_4) W2 hW2)) rfl) ?_
        refine qx_y rfl (y_assign_bool rfl) ?_
        refine qx_nil ?_
        refine ox_nil ?_
        refine ex_then ?_
        refine cx_seq ?_
        refine cx_seq ?_
        refine cx_region ?_
        refine ox_y rfl (y_move_bool rfl) ?_
        refine ox_y rfl (y_not rfl) ?_
        refine ox_nil ?_
        refine ex_then ?_
        rcases ite_some h with ⟨hp15, h⟩ | ⟨hp15, h⟩
        · refine cx_true (congrArg Value.bool hp15) ?_
          refine cx_seq ?_
          refine cx_region ?_
          refine ox_y rfl (y_assign_int rfl) ?_
          refine ox_nil ?_
          refine ex_then ?_
          refine cx_ret ?_
          refine ex_then_ret ?_
          obtain rfl := Option.some.inj h
          exact ex_res1 (.inl rfl) rfl (resV_tmp (v := .int .i64 8) rfl) (fun W2 hW2 => ⟨rfl, hW2.none⟩)
        · refine cx_false (congrArg Value.bool hp15) ?_
          refine cx_skip ?_
          refine ex_then ?_
          refine cx_seq ?_
          refine cx_region ?_
          refine ox_y rfl (y_assign_int rfl) ?_
          refine ox_nil ?_
          refine ex_then ?_
          refine cx_ret ?_
          obtain rfl := Option.some.inj h
          exact ex_res1 (.inl rfl) rfl (resV_tmp (v := .int .i64 0) rfl) (fun W2 hW2 => ⟨rfl, hW2.none⟩)
    · rcases bool_cases (decide (y5 < 0)) with hp9 | hp9
      · refine ox_skip (sees_f rfl rfl rfl rfl hp9) ?_
        refine ox_skip (sees_f rfl rfl rfl rfl hp9) ?_
        refine ox_y rfl (y_pick_tb (congrArg Value.bool hp9) rfl) ?_
        exact key _ _ (keep (keep (keep (keep (keep rfl rfl) rfl) rfl) rfl) (congrArg Value.bool (or_t hp9)))
      · refine ox_y (sees_t rfl rfl rfl rfl hp9) (y_move_int rfl) ?_
        refine ox_y (sees_t rfl rfl rfl rfl hp9) (y_lss rfl rfl) ?_
        refine ox_y rfl (y_pick_fb (congrArg Value.bool hp9) rfl) ?_
        exact key _ _ (keep (keep (keep (keep (keep rfl rfl) rfl) rfl) rfl) (congrArg Value.bool (or_f hp9)))

/-! calx/calxref02.SameFire -/
set_option maxRecDepth 100000 in
theorem calxref02_SameFire_ok (p0_a : TFire) (p1_b : TFire) (res : Bool) (h : calxref02_SameFire p0_a p1_b = some res) (W : World) (A0_4 : Option Addr) (n0_4 c0_4 : Nat) (hn0_4 : n0_4 = p0_a.fLooks.length) (hr0_4 : Rd W A0_4 n0_4 c0_4 (encL TLook_cells p0_a.fLooks)) (A1_4 : Option Addr) (n1_4 c1_4 : Nat) (hn1_4 : n1_4 = p1_b.fLooks.length) (hr1_4 : Rd W A1_4 n1_4 c1_4 (encL TLook_cells p1_b.fLooks)) :
    Calls Try.prog 37 [.agg #[.int .i64 p0_a.fRise, .int .i64 p0_a.fFall, .int .i64 p0_a.fUp, .int .i64 p0_a.fDown, .slice A0_4 n0_4 c0_4], .agg #[.int .i64 p1_b.fRise, .int .i64 p1_b.fFall, .int .i64 p1_b.fUp, .int .i64 p1_b.fDown, .slice A1_4 n1_4 c1_4]].toArray W fun e W2 => e = .returned (.bool res) ∧ Ext W W2 [] := by
  subst hn0_4
  subst hn1_4
  unfold calxref02_SameFire at h
  refine calls_enter (m := 59) Try.func37 rfl rfl (Nat.le_of_ble_eq_true rfl) ?_
  refine cx_seq ?_
  refine cx_region ?_
  refine ox_box [.int .i64 p0_a.fRise, .int .i64 p0_a.fFall, .int .i64 p0_a.fUp, .int .i64 p0_a.fDown, .slice A0_4 p0_a.fLooks.length c0_4] rfl rfl rfl (fun b1 => ?_)
  refine ox_box [.int .i64 p1_b.fRise, .int .i64 p1_b.fFall, .int .i64 p1_b.fUp, .int .i64 p1_b.fDown, .slice A1_4 p1_b.fLooks.length c1_4] rfl rfl rfl (fun b2 => ?_)
  refine ox_y rfl (y_assign_bool rfl) ?_
  refine ox_nil ?_
  refine ex_then ?_
  refine cx_seq ?_
  refine cx_seq ?_
  refine cx_region ?_
  refine ox_y rfl (y_fieldAddr fo_24_0 rfl) ?_
  refine ox_y rfl (y_load1 0 (v := .int .i64 p0_a.fRise) sc_3 rfl rfl rfl) ?_
  refine ox_y rfl (y_fieldAddr fo_24_0 rfl) ?_
  refine ox_y rfl (y_load1 1 (v := .int .i64 p1_b.fRise) sc_3 rfl rfl rfl) ?_
  refine ox_y rfl (y_neq rfl rfl) ?_
  refine ox_y rfl (y_move_bool rfl) ?_
  refine ox_join 6 (fun tm0 => (upd (upd (upd (upd tm0 2 (.pointer (some ⟨b1, 0, none⟩))) 3 (.pointer (some ⟨b2, 0, none⟩))) 4 (.bool false)) 17 (.bool ((p0_a.fRise != p1_b.fRise) || (p0_a.fFall != p1_b.fFall))))) (fun tm0 => ?_) (fun key => ?_)
  · refine ox_y rfl (y_move_bool rfl) ?_
    refine ox_join 6 (fun tm0 => (upd (upd (upd (upd tm0 2 (.pointer (some ⟨b1, 0, none⟩))) 3 (.pointer (some ⟨b2, 0, none⟩))) 4 (.bool false)) 24 (.bool (((p0_a.fRise != p1_b.fRise) || (p0_a.fFall != p1_b.fFall)) || (p0_a.fUp != p1_b.fUp))))) (fun tm0 => ?_) (fun key => ?_)
    · refine ox_y rfl (y_move_bool rfl) ?_
      refine ox_join 6 (fun tm0 => (upd (upd (upd (upd tm0 2 (.pointer (some ⟨b1, 0, none⟩))) 3 (.pointer (some ⟨b2, 0, none⟩))) 4 (.bool false)) 31 (.bool ((((p0_a.fRise != p1_b.fRise) || (p0_a.fFall != p1_b.fFall)) || (p0_a.fUp != p1_b.fUp)) || (p0_a.fDown != p1_b.fDown))))) (fun tm0 => ?_) (fun key => ?_)
      · refine ox_y rfl (y_move_bool rfl) ?_
        refine ox_join 8 (fun tm0 => (upd (upd (upd (upd tm0 2 (.pointer (some ⟨b1, 0, none⟩))) 3 (.pointer (some ⟨b2, 0, none⟩))) 4 (.bool false)) 40 (.bool (((((p0_a.fRise != p1_b.fRise) || (p0_a.fFall != p1_b.fFall)) || (p0_a.fUp != p1_b.fUp)) || (p0_a.fDown != p1_b.fDown)) || (((p0_a.fLooks.length : Nat) : Int) != ((p1_b.fLooks.length : Nat) : Int)))))) (fun tm0 => ?_) (fun key => ?_)
        · refine ox_nil ?_
          refine ex_then ?_
          rcases ite_some h with ⟨hp7, h⟩ | ⟨hp7, h⟩
          · refine cx_true (congrArg Value.bool hp7) ?_
            refine cx_seq ?_
            refine cx_region ?_
            refine ox_y rfl (y_assign_bool rfl) ?_
            refine ox_nil ?_
            refine ex_then ?_
            refine cx_ret ?_
            refine ex_then_ret ?_
            obtain rfl := Option.some.inj h
            exact ex_res1 (.inl rfl) rfl (resV_tmp (v := .bool false) rfl) (fun W2 hW2 => ⟨rfl, hW2.none⟩)
          · refine cx_false (congrArg Value.bool hp7) ?_
            refine cx_skip ?_
            refine ex_then ?_
            refine cx_seq ?_
            refine cx_seq ?_
            refine cx_region ?_
            refine ox_y rfl (y_assign_int rfl) ?_
            refine ox_nil ?_
            refine ex_then ?_
            refine cx_block ?_
            obtain ⟨u10, hl15, h⟩ := bind_some h
            refine cx_loop (fun (s : (Bool × Int)) L tm => ∃ (tm0 : Nat → Value), L = [cellsR b1 24 [.int .i64 p0_a.fRise, .int .i64 p0_a.fFall, .int .i64 p0_a.fUp, .int .i64 p0_a.fDown, .slice A0_4 p0_a.fLooks.length c0_4], cellsR b2 24 [.int .i64 p1_b.fRise, .int .i64 p1_b.fFall, .int .i64 p1_b.fUp, .int .i64 p1_b.fDown, .slice A1_4 p1_b.fLooks.length c1_4]] ∧ tm = (upd (upd (upd (upd (upd tm0 2 (.pointer (some ⟨b1, 0, none⟩))) 3 (.pointer (some ⟨b2, 0, none⟩))) 4 (.bool s.1)) 40 (.bool (((((p0_a.fRise != p1_b.fRise) || (p0_a.fFall != p1_b.fFall)) || (p0_a.fUp != p1_b.fUp)) || (p0_a.fDown != p1_b.fDown)) || (((p0_a.fLooks.length : Nat) : Int) != ((p1_b.fLooks.length : Nat) : Int))))) 5 (.int .i64 s.2))) (fun | (.inl s), e, L, tm => e = .ret ∧ ∃ (tm0 : Nat → Value), L = [cellsR b1 24 [.int .i64 p0_a.fRise, .int .i64 p0_a.fFall, .int .i64 p0_a.fUp, .int .i64 p0_a.fDown, .slice A0_4 p0_a.fLooks.length c0_4], cellsR b2 24 [.int .i64 p1_b.fRise, .int .i64 p1_b.fFall, .int .i64 p1_b.fUp, .int .i64 p1_b.fDown, .slice A1_4 p1_b.fLooks.length c1_4]] ∧ tm = (upd (upd (upd (upd (upd tm0 2 (.pointer (some ⟨b1, 0, none⟩))) 3 (.pointer (some ⟨b2, 0, none⟩))) 4 (.bool s.1)) 40 (.bool (((((p0_a.fRise != p1_b.fRise) || (p0_a.fFall != p1_b.fFall)) || (p0_a.fUp != p1_b.fUp)) || (p0_a.fDown != p1_b.fDown)) || (((p0_a.fLooks.length : Nat) : Int) != ((p1_b.fLooks.length : Nat) : Int))))) 5 (.int .i64 s.2)) | (.inr s), e, L, tm => e = .exit 0 ∧ ∃ (tm0 : Nat → Value), L = [cellsR b1 24 [.int .i64 p0_a.fRise, .int .i64 p0_a.fFall, .int .i64 p0_a.fUp, .int .i64 p0_a.fDown, .slice A0_4 p0_a.fLooks.length c0_4], cellsR b2 24 [.int .i64 p1_b.fRise, .int .i64 p1_b.fFall, .int .i64 p1_b.fUp, .int .i64 p1_b.fDown, .slice A1_4 p1_b.fLooks.length c1_4]] ∧ tm = (upd (upd (upd (upd (upd tm0 2 (.pointer (some ⟨b1, 0, none⟩))) 3 (.pointer (some ⟨b2, 0, none⟩))) 4 (.bool s.1)) 40 (.bool (((((p0_a.fRise != p1_b.fRise) || (p0_a.fFall != p1_b.fFall)) || (p0_a.fUp != p1_b.fUp)) || (p0_a.fDown != p1_b.fDown)) || (((p0_a.fLooks.length : Nat) : Int) != ((p1_b.fLooks.length : Nat) : Int))))) 5 (.int .i64 s.2))) hl15 ⟨_, rfl, (keep (keep (keep (keep (keep rfl rfl) rfl) rfl) rfl) rfl)⟩ ?_ ?_
            · rintro s9 L tm st ⟨tm0_s9, rfl, rfl⟩ h
              unfold calxref02_SameFire_l1 at h
              refine cx_seq ?_
              refine cx_seq ?_
              refine cx_region ?_
              refine ox_y rfl (y_move_int rfl) ?_
              refine ox_y rfl (y_fieldAddr fo_24_4 rfl) ?_
              refine ox_y rfl (y_load1 0 (v := .slice A0_4 p0_a.fLooks.length c0_4) sc_22 rfl rfl rfl) ?_
              refine ox_y rfl (y_len (us := []) us_22 rfl) ?_
              refine ox_y rfl (y_lss rfl rfl) ?_
              refine ox_nil ?_
              refine ex_then ?_
              rcases ite_some h with ⟨hp11, h⟩ | ⟨hp11, h⟩
              · refine cx_true (congrArg Value.bool hp11) ?_
                refine cx_skip ?_
                refine ex_then ?_
                refine cx_seq ?_
                refine cx_block ?_
                refine cx_seq ?_
                refine cx_draws 11 mixed (by kernel_rfl) (by kernel_rfl) ?_
                refine qx_y rfl (y_fieldAddr fo_24_4 rfl) ?_
                refine qx_y rfl (y_load1 0 (v := .slice A0_4 p0_a.fLooks.length c0_4) sc_22 rfl rfl rfl) ?_
                refine qx_y rfl (y_move_int rfl) ?_
                obtain ⟨hg12, h⟩ := guardO_some h
                refine qx_y rfl (y_indexR sl_22 (by decide) hg12.1 hg12.2 (RdL.arg hr0_4) (encL_len TLook_cells_len rfl) rfl rfl) ?_
                refine qx_y rfl (y_loadRN (A := A0_4) (j := (Int.toNat s9.2 * 5)) [.int .i64 ((rdL p0_a.fLooks s9.2).fID), .int .i64 ((rdL p0_a.fLooks s9.2).fAt.fFoot), .int .i64 ((rdL p0_a.fLooks s9.2).fAt.fHour), .int .i64 ((rdL p0_a.fLooks s9.2).fHeat.fLo), .int .i64 ((rdL p0_a.fLooks s9.2).fHeat.fHi)] ag_34 (Nat.succ_pos _) (RdL.arg hr0_4) rfl (encL_gets TLook_cells_len hg12.1 (lt_nat hg12.2 rfl))) ?_
                refine qx_y rfl (y_fieldAddr fo_24_4 rfl) ?_
                refine qx_y rfl (y_load1 1 (v := .slice A1_4 p1_b.fLooks.length c1_4) sc_22 rfl rfl rfl) ?_
                refine qx_y rfl (y_move_int rfl) ?_
                obtain ⟨hg13, h⟩ := guardO_some h
                refine qx_y rfl (y_indexR sl_22 (by decide) hg13.1 hg13.2 (RdL.arg hr1_4) (encL_len TLook_cells_len rfl) rfl rfl) ?_
                refine qx_y rfl (y_loadRN (A := A1_4) (j := (Int.toNat s9.2 * 5)) [.int .i64 ((rdL p1_b.fLooks s9.2).fID), .int .i64 ((rdL p1_b.fLooks s9.2).fAt.fFoot), .int .i64 ((rdL p1_b.fLooks s9.2).fAt.fHour), .int .i64 ((rdL p1_b.fLooks s9.2).fHeat.fLo), .int .i64 ((rdL p1_b.fLooks s9.2).fHeat.fHi)] ag_34 (Nat.succ_pos _) (RdL.arg hr1_4) rfl (encL_gets TLook_cells_len hg13.1 (lt_nat hg13.2 rfl))) ?_
                refine qx_y rfl (y_neqa (b := (((rdL p0_a.fLooks s9.2).fID == (rdL p1_b.fLooks s9.2).fID) && ((((rdL p0_a.fLooks s9.2).fAt.fFoot == (rdL p1_b.fLooks s9.2).fAt.fFoot) && ((rdL p0_a.fLooks s9.2).fAt.fHour == (rdL p1_b.fLooks s9.2).fAt.fHour)) && (((rdL p0_a.fLooks s9.2).fHeat.fLo == (rdL p1_b.fLooks s9.2).fHeat.fLo) && ((rdL p0_a.fLooks s9.2).fHeat.fHi == (rdL p1_b.fLooks s9.2).fHeat.fHi))))) eg_34 rfl rfl (fun _ => (eqS3 fl_34 (part1 sc_3 rfl) (partN (cs := #[.int .i64 ((rdL p0_a.fLooks s9.2).fAt.fFoot), .int .i64 ((rdL p0_a.fLooks s9.2).fAt.fHour)]) ag_26 (by kernel_rfl)) (partN (cs := #[.int .i64 ((rdL p0_a.fLooks s9.2).fHeat.fLo), .int .i64 ((rdL p0_a.fLooks s9.2).fHeat.fHi)]) ag_32 (by kernel_rfl)) (part1 sc_3 rfl) (partN (cs := #[.int .i64 ((rdL p1_b.fLooks s9.2).fAt.fFoot), .int .i64 ((rdL p1_b.fLooks s9.2).fAt.fHour)]) ag_26 (by kernel_rfl)) (partN (cs := #[.int .i64 ((rdL p1_b.fLooks s9.2).fHeat.fLo), .int .i64 ((rdL p1_b.fLooks s9.2).fHeat.fHi)]) ag_32 (by kernel_rfl)) (run_equalIn_int _ _ _ _ _ _ _ ui_3) (eqS2 fl_26 (part1 sc_3 rfl) (part1 sc_3 rfl) (part1 sc_3 rfl) (part1 sc_3 rfl) (run_equalIn_int _ _ _ _ _ _ _ ui_3) (run_equalIn_int _ _ _ _ _ _ _ ui_3)) (eqS2 fl_32 (part1 sc_3 rfl) (part1 sc_3 rfl) (part1 sc_3 rfl) (part1 sc_3 rfl) (run_equalIn_int _ _ _ _ _ _ _ ui_3) (run_equalIn_int _ _ _ _ _ _ _ ui_3))))) ?_
                refine qx_nil ?_
                refine ox_nil ?_
                refine ex_then ?_
                rcases ite_some h with ⟨hp14, h⟩ | ⟨hp14, h⟩
                · refine cx_true (congrArg Value.bool hp14) ?_
                  refine cx_seq ?_
                  refine cx_region ?_
                  refine ox_y rfl (y_assign_bool rfl) ?_
                  refine ox_nil ?_
                  refine ex_then ?_
                  refine cx_ret ?_
                  refine ex_block_ret ?_
                  refine ex_then_ret ?_
                  obtain rfl := Option.some.inj h
                  exact ex_stop ⟨rfl, _, rfl, (keep (keep (keep (keep (keep rfl rfl) rfl) rfl) rfl) rfl)⟩
                · refine cx_false (congrArg Value.bool hp14) ?_
                  refine cx_skip ?_
                  refine ex_block ?_
                  refine ex_then ?_
                  refine cx_region ?_
                  refine ox_y rfl (y_move_int rfl) ?_
                  refine ox_y rfl (y_add rfl rfl) ?_
                  refine ox_y rfl (y_assign_int rfl) ?_
                  refine ox_nil ?_
                  obtain rfl := Option.some.inj h
                  exact ex_next ⟨_, rfl, (keep (keep (keep (keep (keep rfl rfl) rfl) rfl) rfl) rfl)⟩
              · refine cx_false (congrArg Value.bool hp11) ?_
                refine cx_exit ?_
                refine ex_then_exit ?_
                obtain rfl := Option.some.inj h
                exact ex_stop ⟨rfl, _, rfl, (keep (keep (keep (keep (keep rfl rfl) rfl) rfl) rfl) rfl)⟩
            · intro e L tm hJ
              rcases u10 with u16 | u17
              · dsimp only at h hJ
                obtain ⟨rfl, tm0_u16, rfl, rfl⟩ := hJ
                refine ⟨(by intro hc; cases hc), ?_⟩
                refine ex_block_ret ?_
                refine ex_then_ret ?_
                obtain rfl := Option.some.inj h
                exact ex_res1 (.inl rfl) rfl (resV_tmp (v := .bool u16.1) rfl) (fun W2 hW2 => ⟨rfl, hW2.none⟩)
              · dsimp only at h hJ
                obtain ⟨rfl, tm0_u17, rfl, rfl⟩ := hJ
                refine ⟨(by intro hc; cases hc), ?_⟩
                refine ex_block_here ?_
                refine ex_then ?_
                refine cx_seq ?_
                refine cx_region ?_
                refine ox_y rfl (y_assign_bool rfl) ?_
                refine ox_nil ?_
                refine ex_then ?_
                refine cx_ret ?_
                obtain rfl := Option.some.inj h
                exact ex_res1 (.inl rfl) rfl (resV_tmp (v := .bool true) rfl) (fun W2 hW2 => ⟨rfl, hW2.none⟩)
        · rcases bool_cases ((((p0_a.fRise != p1_b.fRise) || (p0_a.fFall != p1_b.fFall)) || (p0_a.fUp != p1_b.fUp)) || (p0_a.fDown != p1_b.fDown)) with hp6 | hp6
          · refine ox_skip (sees_f rfl rfl rfl rfl hp6) ?_
            refine ox_skip (sees_f rfl rfl rfl rfl hp6) ?_
            refine ox_skip (sees_f rfl rfl rfl rfl hp6) ?_
            refine ox_skip (sees_f rfl rfl rfl rfl hp6) ?_
            refine ox_skip (sees_f rfl rfl rfl rfl hp6) ?_
            refine ox_skip (sees_f rfl rfl rfl rfl hp6) ?_
            refine ox_skip (sees_f rfl rfl rfl rfl hp6) ?_
            refine ox_y rfl (y_pick_tb (congrArg Value.bool hp6) rfl) ?_
            exact key _ _ (keep (keep (keep (keep rfl rfl) rfl) rfl) (congrArg Value.bool (or_t hp6)))
          · refine ox_y (sees_t rfl rfl rfl rfl hp6) (y_fieldAddr fo_24_4 rfl) ?_
            refine ox_y (sees_t rfl rfl rfl rfl hp6) (y_load1 0 (v := .slice A0_4 p0_a.fLooks.length c0_4) sc_22 rfl rfl rfl) ?_
            refine ox_y (sees_t rfl rfl rfl rfl hp6) (y_len (us := []) us_22 rfl) ?_
            refine ox_y (sees_t rfl rfl rfl rfl hp6) (y_fieldAddr fo_24_4 rfl) ?_
            refine ox_y (sees_t rfl rfl rfl rfl hp6) (y_load1 1 (v := .slice A1_4 p1_b.fLooks.length c1_4) sc_22 rfl rfl rfl) ?_
            refine ox_y (sees_t rfl rfl rfl rfl hp6) (y_len (us := []) us_22 rfl) ?_
            refine ox_y (sees_t rfl rfl rfl rfl hp6) (y_neq rfl rfl) ?_
            refine ox_y rfl (y_pick_fb (congrArg Value.bool hp6) rfl) ?_
            exact key _ _ (keep (keep (keep (keep rfl rfl) rfl) rfl) (congrArg Value.bool (or_f hp6)))
      · rcases bool_cases (((p0_a.fRise != p1_b.fRise) || (p0_a.fFall != p1_b.fFall)) || (p0_a.fUp != p1_b.fUp)) with hp5 | hp5
        · refine ox_skip (sees_f rfl rfl rfl rfl hp5) ?_
          refine ox_skip (sees_f rfl rfl rfl rfl hp5) ?_
          refine ox_skip (sees_f rfl rfl rfl rfl hp5) ?_
          refine ox_skip (sees_f rfl rfl rfl rfl hp5) ?_
          refine ox_skip (sees_f rfl rfl rfl rfl hp5) ?_
          refine ox_y rfl (y_pick_tb (congrArg Value.bool hp5) rfl) ?_
          exact key _ _ (keep (keep (keep (keep rfl rfl) rfl) rfl) (congrArg Value.bool (or_t hp5)))
        · refine ox_y (sees_t rfl rfl rfl rfl hp5) (y_fieldAddr fo_24_3 rfl) ?_
          refine ox_y (sees_t rfl rfl rfl rfl hp5) (y_load1 0 (v := .int .i64 p0_a.fDown) sc_3 rfl rfl rfl) ?_
          refine ox_y (sees_t rfl rfl rfl rfl hp5) (y_fieldAddr fo_24_3 rfl) ?_
          refine ox_y (sees_t rfl rfl rfl rfl hp5) (y_load1 1 (v := .int .i64 p1_b.fDown) sc_3 rfl rfl rfl) ?_
          refine ox_y (sees_t rfl rfl rfl rfl hp5) (y_neq rfl rfl) ?_
          refine ox_y rfl (y_pick_fb (congrArg Value.bool hp5) rfl) ?_
          exact key _ _ (keep (keep (keep (keep rfl rfl) rfl) rfl) (congrArg Value.bool (or_f hp5)))
    · rcases bool_cases ((p0_a.fRise != p1_b.fRise) || (p0_a.fFall != p1_b.fFall)) with hp4 | hp4
      · refine ox_skip (sees_f rfl rfl rfl rfl hp4) ?_
        refine ox_skip (sees_f rfl rfl rfl rfl hp4) ?_
        refine ox_skip (sees_f rfl rfl rfl rfl hp4) ?_
        refine ox_skip (sees_f rfl rfl rfl rfl hp4) ?_
        refine ox_skip (sees_f rfl rfl rfl rfl hp4) ?_
        refine ox_y rfl (y_pick_tb (congrArg Value.bool hp4) rfl) ?_
        exact key _ _ (keep (keep (keep (keep rfl rfl) rfl) rfl) (congrArg Value.bool (or_t hp4)))
      · refine ox_y (sees_t rfl rfl rfl rfl hp4) (y_fieldAddr fo_24_2 rfl) ?_
        refine ox_y (sees_t rfl rfl rfl rfl hp4) (y_load1 0 (v := .int .i64 p0_a.fUp) sc_3 rfl rfl rfl) ?_
        refine ox_y (sees_t rfl rfl rfl rfl hp4) (y_fieldAddr fo_24_2 rfl) ?_
        refine ox_y (sees_t rfl rfl rfl rfl hp4) (y_load1 1 (v := .int .i64 p1_b.fUp) sc_3 rfl rfl rfl) ?_
        refine ox_y (sees_t rfl rfl rfl rfl hp4) (y_neq rfl rfl) ?_
        refine ox_y rfl (y_pick_fb (congrArg Value.bool hp4) rfl) ?_
        exact key _ _ (keep (keep (keep (keep rfl rfl) rfl) rfl) (congrArg Value.bool (or_f hp4)))
  · rcases bool_cases (p0_a.fRise != p1_b.fRise) with hp3 | hp3
    · refine ox_skip (sees_f rfl rfl rfl rfl hp3) ?_
      refine ox_skip (sees_f rfl rfl rfl rfl hp3) ?_
      refine ox_skip (sees_f rfl rfl rfl rfl hp3) ?_
      refine ox_skip (sees_f rfl rfl rfl rfl hp3) ?_
      refine ox_skip (sees_f rfl rfl rfl rfl hp3) ?_
      refine ox_y rfl (y_pick_tb (congrArg Value.bool hp3) rfl) ?_
      exact key _ _ (keep (keep (keep (keep rfl rfl) rfl) rfl) (congrArg Value.bool (or_t hp3)))
    · refine ox_y (sees_t rfl rfl rfl rfl hp3) (y_fieldAddr fo_24_1 rfl) ?_
      refine ox_y (sees_t rfl rfl rfl rfl hp3) (y_load1 0 (v := .int .i64 p0_a.fFall) sc_3 rfl rfl rfl) ?_
      refine ox_y (sees_t rfl rfl rfl rfl hp3) (y_fieldAddr fo_24_1 rfl) ?_
      refine ox_y (sees_t rfl rfl rfl rfl hp3) (y_load1 1 (v := .int .i64 p1_b.fFall) sc_3 rfl rfl rfl) ?_
      refine ox_y (sees_t rfl rfl rfl rfl hp3) (y_neq rfl rfl) ?_
      refine ox_y rfl (y_pick_fb (congrArg Value.bool hp3) rfl) ?_
      exact key _ _ (keep (keep (keep (keep rfl rfl) rfl) rfl) (congrArg Value.bool (or_f hp3)))

end Go.Proofs.Ytndajeiecdmhnaa
