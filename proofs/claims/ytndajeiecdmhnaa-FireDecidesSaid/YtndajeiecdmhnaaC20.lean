/- The calls hand back what the plain functions say. -/
import Derived.Test.YtndajeiecdmhnaaF
import Derived.Test.YtndajeiecdmhnaaC0
import Derived.Test.YtndajeiecdmhnaaC2
import Derived.Test.YtndajeiecdmhnaaC4
import Derived.Test.YtndajeiecdmhnaaC5
import Derived.Test.YtndajeiecdmhnaaC7
import Derived.Test.YtndajeiecdmhnaaC11
set_option linter.unusedVariables false
set_option maxHeartbeats 4000000
namespace Go.Proofs.Ytndajeiecdmhnaa
open Go.RowKit (Below)
attribute [local irreducible] OX QX CX EX OpY Calls CallsIn

/-! calx/fire.Decides -/
set_option maxRecDepth 100000 in
theorem fire_Decides_ok (p0 : TFire) (p1 : (List TSpot)) (p2 : TSpot) (p3 : Int) (res : ((List Int) × Int)) (h : fire_Decides p0 p1 p2 p3 = some res) (W : World) (A0_4 : Option Addr) (n0_4 c0_4 : Nat) (hn0_4 : n0_4 = p0.fLooks.length) (hr0_4 : Rd W A0_4 n0_4 c0_4 (encL TLook_cells p0.fLooks)) (A1_0 : Option Addr) (n1_0 c1_0 : Nat) (hn1_0 : n1_0 = p1.length) (hr1_0 : Rd W A1_0 n1_0 c1_0 (encL TSpot_cells p1)) :
    Calls Try.prog 45 [.agg #[.int .i64 p0.fRise, .int .i64 p0.fFall, .int .i64 p0.fUp, .int .i64 p0.fDown, .slice A0_4 n0_4 c0_4], .slice A1_0 n1_0 c1_0, .agg #[.int .i64 p2.fFoot, .int .i64 p2.fHour], .int .i64 p3].toArray W fun e W2 => ∃ x : Option Addr × Nat × Nat, x.2.1 = res.1.length ∧ e = .returned (.tuple #[.slice x.1 x.2.1 x.2.2, .int .i64 res.2]) ∧ Ext W W2 [rowR x.1 x.2.2 3 1 x.2.1 (encL cI res.1)] := by
  subst hn0_4
  subst hn1_0
  unfold fire_Decides at h
  refine calls_enter (m := 86) Try.func45 rfl rfl (Nat.le_of_ble_eq_true rfl) ?_
  refine cx_seq ?_
  refine cx_region ?_
  refine ox_box [.int .i64 p0.fRise, .int .i64 p0.fFall, .int .i64 p0.fUp, .int .i64 p0.fDown, .slice A0_4 p0.fLooks.length c0_4] rfl rfl rfl (fun b1 => ?_)
  refine ox_box [.int .i64 p2.fFoot, .int .i64 p2.fHour] rfl rfl rfl (fun b2 => ?_)
  refine ox_y rfl (y_assign_slice rfl) ?_
  refine ox_y rfl (y_assign_int rfl) ?_
  refine ox_nil ?_
  refine ex_then ?_
  refine cx_seq ?_
  refine cx_region ?_
  refine ox_y rfl (y_loadN 0 [.int .i64 p0.fRise, .int .i64 p0.fFall, .int .i64 p0.fUp, .int .i64 p0.fDown, .slice A0_4 p0.fLooks.length c0_4] ag_24 rfl rfl rfl) ?_
  refine ox_y rfl (y_move_slice rfl) ?_
  obtain ⟨y3, hy4, h⟩ := bind_some h
  refine ox_y rfl (y_call [.agg #[.int .i64 p0.fRise, .int .i64 p0.fFall, .int .i64 p0.fUp, .int .i64 p0.fDown, .slice A0_4 p0.fLooks.length c0_4], .slice A1_0 p1.length c1_0] go_84 rfl (fun W2 hW2 => fire_listed_ok p0 p1 y3 hy4 W2 A0_4 p0.fLooks.length c0_4 rfl ((RdL.arg hr0_4) W2 hW2) A1_0 p1.length c1_0 rfl ((RdL.arg hr1_0) W2 hW2)) rfl) ?_
  refine ox_y rfl (y_assign_int rfl) ?_
  refine ox_nil ?_
  refine ex_then ?_
  refine cx_seq ?_
  refine cx_seq ?_
  refine cx_region ?_
  refine ox_y rfl (y_move_int rfl) ?_
  refine ox_y rfl (y_eql rfl rfl) ?_
  refine ox_y rfl (y_move_bool rfl) ?_
  obtain ⟨b6, hb7, h⟩ := bind_some h
  refine ox_join 9 (fun tm0 => (upd (upd (upd (upd (upd (upd (upd (upd tm0 1 (.slice A1_0 p1.length c1_0)) 3 (.int .i64 p3)) 4 (.pointer (some ⟨b1, 0, none⟩))) 6 (.pointer (some ⟨b2, 0, none⟩))) 8 (.slice none 0 0)) 9 (.int .i64 0)) 10 (.int .i64 y3)) 31 (.bool b6))) (fun tm0 => ?_) (fun key => ?_)
  · refine ox_nil ?_
    refine ex_then ?_
    rcases ite_some h with ⟨hp8, h⟩ | ⟨hp8, h⟩
    · refine cx_true (congrArg Value.bool hp8) ?_
      refine cx_region ?_
      refine ox_y rfl (y_assign_int rfl) ?_
      refine ox_nil ?_
      refine ex_then ?_
      refine cx_seq ?_
      refine cx_seq ?_
      refine cx_region ?_
      refine ox_y rfl (y_loadN 0 [.int .i64 p0.fRise, .int .i64 p0.fFall, .int .i64 p0.fUp, .int .i64 p0.fDown, .slice A0_4 p0.fLooks.length c0_4] ag_24 rfl rfl rfl) ?_
      refine ox_y rfl (y_move_int rfl) ?_
      obtain ⟨y9, hy10, h⟩ := bind_some h
      refine ox_y rfl (y_call [.agg #[.int .i64 p0.fRise, .int .i64 p0.fFall, .int .i64 p0.fUp, .int .i64 p0.fDown, .slice A0_4 p0.fLooks.length c0_4], .int .i64 1] go_55 rfl (fun W2 hW2 => fire_agreed_ok p0 1 y9 hy10 W2 A0_4 p0.fLooks.length c0_4 rfl ((RdL.arg hr0_4) W2 hW2)) rfl) ?_
      refine ox_y rfl (y_assign_int rfl) ?_
      refine ox_nil ?_
      refine ex_then ?_
      refine cx_seq ?_
      refine cx_region ?_
      refine ox_y rfl (y_move_int rfl) ?_
      refine ox_y rfl (y_neq rfl rfl) ?_
      refine ox_nil ?_
      refine ex_then ?_
      rcases ite_some h with ⟨hp11, h⟩ | ⟨hp11, h⟩
      · refine cx_true (congrArg Value.bool hp11) ?_
        refine cx_seq ?_
        refine cx_region ?_
        refine ox_y rfl (y_move_int rfl) ?_
        refine ox_y rfl (y_assign_slice rfl) ?_
        refine ox_y rfl (y_assign_int rfl) ?_
        refine ox_nil ?_
        refine ex_then ?_
        refine cx_ret ?_
        refine ex_then_ret ?_
        obtain rfl := Option.some.inj h
        exact ex_res2 (.inl rfl) rfl (resV_tmp (v := .slice none 0 0) rfl) (resV_tmp (v := .int .i64 y9) rfl) (fun W2 hW2 => ⟨(none, 0, 0), rfl, rfl, ((hW2.nilrow 3 1).pick 2 rfl)⟩)
      · refine cx_false (congrArg Value.bool hp11) ?_
        refine cx_skip ?_
        refine ex_then ?_
        refine cx_seq ?_
        refine cx_region ?_
        refine ox_y rfl (y_assign_slice rfl) ?_
        refine ox_nil ?_
        refine ex_then ?_
        refine cx_seq ?_
        refine cx_seq ?_
        refine cx_region ?_
        refine ox_y rfl (y_move_slice rfl) ?_
        refine ox_y rfl (y_len (us := []) us_46 rfl) ?_
        refine ox_y rfl (y_move_int rfl) ?_
        refine ox_nil ?_
        refine ex_then ?_
        refine cx_block ?_
        obtain ⟨u15, hl36, h⟩ := bind_some h
        refine cx_nilrow 3 1 ?_
        refine cx_loop (fun (s : (Int × (List Int))) L tm => ∃ (tm0 : Nat → Value) (A2_s : Option Addr) (c2_s : Nat) (n2_s : Nat), n2_s = s.2.length ∧ L = [cellsR b1 24 [.int .i64 p0.fRise, .int .i64 p0.fFall, .int .i64 p0.fUp, .int .i64 p0.fDown, .slice A0_4 p0.fLooks.length c0_4], cellsR b2 26 [.int .i64 p2.fFoot, .int .i64 p2.fHour], rowR A2_s c2_s 3 1 n2_s (encL cI s.2)] ∧ tm = (upd (upd (upd (upd (upd (upd (upd (upd (upd (upd (upd (upd (upd tm0 1 (.slice A1_0 p1.length c1_0)) 3 (.int .i64 p3)) 4 (.pointer (some ⟨b1, 0, none⟩))) 6 (.pointer (some ⟨b2, 0, none⟩))) 8 (.slice none 0 0)) 9 (.int .i64 0)) 10 (.int .i64 y9)) 31 (.bool b6)) 36 (.bool (y9 != 0))) 11 (.slice A2_s n2_s c2_s)) 38 (.slice A1_0 p1.length c1_0)) 39 (.int .i64 ((p1.length : Nat) : Int))) 40 (.int .i64 s.1))) (fun s e L tm => e = .exit 0 ∧ ∃ (tm0 : Nat → Value) (A2_s : Option Addr) (c2_s : Nat) (n2_s : Nat), n2_s = s.2.length ∧ L = [cellsR b1 24 [.int .i64 p0.fRise, .int .i64 p0.fFall, .int .i64 p0.fUp, .int .i64 p0.fDown, .slice A0_4 p0.fLooks.length c0_4], cellsR b2 26 [.int .i64 p2.fFoot, .int .i64 p2.fHour], rowR A2_s c2_s 3 1 n2_s (encL cI s.2)] ∧ tm = (upd (upd (upd (upd (upd (upd (upd (upd (upd (upd (upd (upd (upd tm0 1 (.slice A1_0 p1.length c1_0)) 3 (.int .i64 p3)) 4 (.pointer (some ⟨b1, 0, none⟩))) 6 (.pointer (some ⟨b2, 0, none⟩))) 8 (.slice none 0 0)) 9 (.int .i64 0)) 10 (.int .i64 y9)) 31 (.bool b6)) 36 (.bool (y9 != 0))) 11 (.slice A2_s n2_s c2_s)) 38 (.slice A1_0 p1.length c1_0)) 39 (.int .i64 ((p1.length : Nat) : Int))) 40 (.int .i64 s.1))) hl36 ⟨_, none, 0, 0, rfl, rfl, (keep (keep (keep (keep (keep (keep (keep (keep (keep (keep (keep (keep (keep rfl rfl) rfl) rfl) rfl) rfl) rfl) rfl) rfl) rfl) rfl) rfl) rfl) rfl)⟩ ?_ ?_
        · rintro s14 L tm st ⟨tm0_s14, A2_s14, c2_s14, n2_s14, rfl, rfl, rfl⟩ h
          unfold fire_Decides_l1 at h
          refine cx_seq ?_
          refine cx_region ?_
          refine ox_y rfl (y_lss rfl rfl) ?_
          refine ox_nil ?_
          refine ex_then ?_
          refine cx_seq ?_
          rcases ite_some h with ⟨hp16, h⟩ | ⟨hp16, h⟩
          · refine cx_true (congrArg Value.bool hp16) ?_
            refine cx_skip ?_
            refine ex_then ?_
            refine cx_seq ?_
            refine cx_block ?_
            refine cx_seq ?_
            refine cx_region ?_
            refine ox_y rfl (y_move_int rfl) ?_
            obtain ⟨hg17, h⟩ := guardO_some h
            refine ox_y rfl (y_indexR sl_46 (by decide) hg17.1 hg17.2 (RdL.arg hr1_0) (encL_len TSpot_cells_len rfl) rfl rfl) ?_
            refine ox_y rfl (y_loadRN (A := A1_0) (j := (Int.toNat s14.1 * 2)) [.int .i64 ((rdL p1 s14.1).fFoot), .int .i64 ((rdL p1 s14.1).fHour)] ag_26 (Nat.succ_pos _) (RdL.arg hr1_0) rfl (encL_gets TSpot_cells_len hg17.1 (lt_nat hg17.2 rfl))) ?_
            refine ox_alloc ze_26 rfl (fun b18 => ?_)
            refine ox_y rfl (y_assign_int rfl) ?_
            refine ox_n rfl (y_storeN 3 [.int .i64 ((rdL p1 s14.1).fFoot), .int .i64 ((rdL p1 s14.1).fHour)] sz_26 rfl (Nat.le_of_ble_eq_true rfl) rfl rfl rfl) ?_
            refine ox_nil ?_
            refine ex_then ?_
            refine cx_seq ?_
            refine cx_region ?_
            refine ox_y rfl (y_loadN 0 [.int .i64 p0.fRise, .int .i64 p0.fFall, .int .i64 p0.fUp, .int .i64 p0.fDown, .slice A0_4 p0.fLooks.length c0_4] ag_24 rfl rfl rfl) ?_
            refine ox_y rfl (y_loadN 3 [.int .i64 ((rdL p1 s14.1).fFoot), .int .i64 ((rdL p1 s14.1).fHour)] ag_26 rfl rfl rfl) ?_
            obtain ⟨y19, hy20, h⟩ := bind_some h
            refine ox_y rfl (y_call [.agg #[.int .i64 p0.fRise, .int .i64 p0.fFall, .int .i64 p0.fUp, .int .i64 p0.fDown, .slice A0_4 p0.fLooks.length c0_4], .agg #[.int .i64 ((rdL p1 s14.1).fFoot), .int .i64 ((rdL p1 s14.1).fHour)]] go_57 rfl (fun W2 hW2 => fire_ends_ok p0 (TSpot.mk ((rdL p1 s14.1).fFoot) ((rdL p1 s14.1).fHour)) y19 hy20 W2 A0_4 p0.fLooks.length c0_4 rfl ((RdL.arg hr0_4) W2 hW2)) rfl) ?_
            refine ox_y rfl (y_fieldN [.int .i64 y19.fSpan.fLo, .int .i64 y19.fSpan.fHi, .int .i64 y19.fLow, .int .i64 y19.fHigh] [.int .i64 y19.fSpan.fLo, .int .i64 y19.fSpan.fHi] fd_36_0 ag_32 rfl rfl) ?_
            refine ox_y rfl (y_field1 [.int .i64 y19.fSpan.fLo, .int .i64 y19.fSpan.fHi] (v := .int .i64 y19.fSpan.fLo) fd_32_0 sc_3 rfl rfl) ?_
            refine ox_y rfl (y_assign_int rfl) ?_
            refine ox_nil ?_
            refine ex_then ?_
            refine cx_seq ?_
            refine cx_region ?_
            refine ox_y rfl (y_loadN 0 [.int .i64 p0.fRise, .int .i64 p0.fFall, .int .i64 p0.fUp, .int .i64 p0.fDown, .slice A0_4 p0.fLooks.length c0_4] ag_24 rfl rfl rfl) ?_
            refine ox_y rfl (y_loadN 3 [.int .i64 ((rdL p1 s14.1).fFoot), .int .i64 ((rdL p1 s14.1).fHour)] ag_26 rfl rfl rfl) ?_
            refine ox_y rfl (y_loadN 1 [.int .i64 p2.fFoot, .int .i64 p2.fHour] ag_26 rfl rfl rfl) ?_
            refine ox_y rfl (y_move_int rfl) ?_
            obtain ⟨y21, hy22, h⟩ := bind_some h
            refine ox_y rfl (y_call [.agg #[.int .i64 p0.fRise, .int .i64 p0.fFall, .int .i64 p0.fUp, .int .i64 p0.fDown, .slice A0_4 p0.fLooks.length c0_4], .agg #[.int .i64 ((rdL p1 s14.1).fFoot), .int .i64 ((rdL p1 s14.1).fHour)], .agg #[.int .i64 p2.fFoot, .int .i64 p2.fHour], .int .i64 p3] go_88 rfl (fun W2 hW2 => fire_needed_ok p0 (TSpot.mk ((rdL p1 s14.1).fFoot) ((rdL p1 s14.1).fHour)) p2 p3 y21 hy22 W2 A0_4 p0.fLooks.length c0_4 rfl ((RdL.arg hr0_4) W2 hW2)) rfl) ?_
            refine ox_y rfl (y_move_tuple rfl) ?_
            refine ox_y rfl (y_extract (vs := [.int .i64 y21.1, .bool y21.2]) (v := .int .i64 y21.1) rfl rfl) ?_
            refine ox_y rfl (y_extract (vs := [.int .i64 y21.1, .bool y21.2]) (v := .bool y21.2) rfl rfl) ?_
            refine ox_y rfl (y_assign_int rfl) ?_
            refine ox_y rfl (y_assign_bool rfl) ?_
            refine ox_nil ?_
            refine ex_then ?_
            refine cx_seq ?_
            refine cx_draws 22 mixed (by kernel_rfl) (by kernel_rfl) ?_
            refine qx_y rfl (y_move_bool rfl) ?_
            refine qx_y rfl (y_move_bool rfl) ?_
            refine qx_join 4 (fun tm0 => (upd (upd (upd (upd (upd (upd (upd (upd (upd (upd (upd (upd (upd (upd (upd (upd (upd (upd (upd (upd tm0 1 (.slice A1_0 p1.length c1_0)) 3 (.int .i64 p3)) 4 (.pointer (some ⟨b1, 0, none⟩))) 6 (.pointer (some ⟨b2, 0, none⟩))) 8 (.slice none 0 0)) 9 (.int .i64 0)) 10 (.int .i64 y9)) 31 (.bool b6)) 36 (.bool (y9 != 0))) 11 (.slice A2_s14 s14.2.length c2_s14)) 38 (.slice A1_0 p1.length c1_0)) 39 (.int .i64 ((p1.length : Nat) : Int))) 40 (.int .i64 s14.1)) 41 (.bool (decide (s14.1 < ((p1.length : Nat) : Int))))) 13 (.pointer (some ⟨b18, 0, none⟩))) 12 (.int .i64 s14.1)) 14 (.int .i64 y19.fSpan.fLo)) 15 (.int .i64 y21.1)) 16 (.bool y21.2)) 63 (.bool (y21.2 && (decide (y19.fSpan.fLo < y21.1)))))) (fun tm0 => ?_) (fun key => ?_)
            · refine qx_y rfl (y_move_bool rfl) ?_
              obtain ⟨b25, hb26, h⟩ := bind_some h
              refine qx_join 15 (fun tm0 => (upd (upd (upd (upd (upd (upd (upd (upd (upd (upd (upd (upd (upd (upd (upd (upd (upd (upd (upd (upd tm0 1 (.slice A1_0 p1.length c1_0)) 3 (.int .i64 p3)) 4 (.pointer (some ⟨b1, 0, none⟩))) 6 (.pointer (some ⟨b2, 0, none⟩))) 8 (.slice none 0 0)) 9 (.int .i64 0)) 10 (.int .i64 y9)) 31 (.bool b6)) 36 (.bool (y9 != 0))) 11 (.slice A2_s14 s14.2.length c2_s14)) 38 (.slice A1_0 p1.length c1_0)) 39 (.int .i64 ((p1.length : Nat) : Int))) 40 (.int .i64 s14.1)) 41 (.bool (decide (s14.1 < ((p1.length : Nat) : Int))))) 13 (.pointer (some ⟨b18, 0, none⟩))) 12 (.int .i64 s14.1)) 14 (.int .i64 y19.fSpan.fLo)) 15 (.int .i64 y21.1)) 16 (.bool y21.2)) 79 (.bool b25))) (fun tm0 => ?_) (fun key => ?_)
              · refine qx_nil ?_
                refine ox_nil ?_
                refine ex_then ?_
                rcases ite_some h with ⟨hp27, h⟩ | ⟨hp27, h⟩
                · refine cx_true (congrArg Value.bool hp27) ?_
                  refine cx_region ?_
                  refine ox_y rfl (y_move_slice rfl) ?_
                  refine ox_y rfl (y_move_int rfl) ?_
                  refine ox_buildSliceE 1 (encL cI [s14.1]) _ mc_3_1 us_41 ze_3 by_3 (by decide) (by decide) (by kernel_rfl) (encL_len cI_len rfl) rfl (fun b28 => ?_)
                  obtain ⟨hg31, h⟩ := guardO_some h
                  refine ox_append0 2 us_41 ze_3 by_3 rfl rfl rfl (RdL.row 4 rfl) (encL_len cI_len rfl) (encL_one cI_one _) (app_room hg31 (by decide)) rfl (fun A29 c30 => ?_)
                  refine ox_y rfl (y_assign_slice rfl) ?_
                  refine ox_nil ?_
                  refine ex_block ?_
                  refine ex_then ?_
                  refine cx_region ?_
                  refine ox_y rfl (y_add rfl rfl) ?_
                  refine ox_y rfl (y_move_int rfl) ?_
                  refine ox_nil ?_
                  refine ex_take 3 ?_
                  obtain rfl := Option.some.inj h
                  exact ex_next ⟨_, A29, c30, (s14.2.length + 1), (hn_app rfl rfl), rfl, (keep (keep (keep (keep (keep (keep (keep (keep (keep (keep (keep (keep (keep rfl rfl) rfl) rfl) rfl) rfl) rfl) rfl) rfl) rfl) rfl) rfl) rfl) rfl)⟩
                · refine cx_false (congrArg Value.bool hp27) ?_
                  refine cx_skip ?_
                  refine ex_block ?_
                  refine ex_then ?_
                  refine cx_region ?_
                  refine ox_y rfl (y_add rfl rfl) ?_
                  refine ox_y rfl (y_move_int rfl) ?_
                  refine ox_nil ?_
                  refine ex_take 3 ?_
                  obtain rfl := Option.some.inj h
                  exact ex_next ⟨_, A2_s14, c2_s14, s14.2.length, rfl, rfl, (keep (keep (keep (keep (keep (keep (keep (keep (keep (keep (keep (keep (keep rfl rfl) rfl) rfl) rfl) rfl) rfl) rfl) rfl) rfl) rfl) rfl) rfl) rfl)⟩
              · clear h; rcases ite_some hb26 with ⟨hp24, h⟩ | ⟨hp24, h⟩
                · refine qx_y (sees_t rfl rfl rfl rfl hp24) (y_loadN 0 [.int .i64 p0.fRise, .int .i64 p0.fFall, .int .i64 p0.fUp, .int .i64 p0.fDown, .slice A0_4 p0.fLooks.length c0_4] ag_24 rfl rfl rfl) ?_
                  refine qx_y (sees_t rfl rfl rfl rfl hp24) (y_loadN 1 [.int .i64 p2.fFoot, .int .i64 p2.fHour] ag_26 rfl rfl rfl) ?_
                  obtain ⟨y32, hy33, h⟩ := bind_some h
                  refine qx_y (sees_t rfl rfl rfl rfl hp24) (y_call [.agg #[.int .i64 p0.fRise, .int .i64 p0.fFall, .int .i64 p0.fUp, .int .i64 p0.fDown, .slice A0_4 p0.fLooks.length c0_4], .agg #[.int .i64 p2.fFoot, .int .i64 p2.fHour]] go_57 rfl (fun W2 hW2 => fire_ends_ok p0 p2 y32 hy33 W2 A0_4 p0.fLooks.length c0_4 rfl ((RdL.arg hr0_4) W2 hW2)) rfl) ?_
                  refine qx_y (sees_t rfl rfl rfl rfl hp24) (y_fieldN [.int .i64 y32.fSpan.fLo, .int .i64 y32.fSpan.fHi, .int .i64 y32.fLow, .int .i64 y32.fHigh] [.int .i64 y32.fSpan.fLo, .int .i64 y32.fSpan.fHi] fd_36_0 ag_32 rfl rfl) ?_
                  refine qx_y (sees_t rfl rfl rfl rfl hp24) (y_field1 [.int .i64 y32.fSpan.fLo, .int .i64 y32.fSpan.fHi] (v := .int .i64 y32.fSpan.fHi) fd_32_1 sc_3 rfl rfl) ?_
                  refine qx_y (sees_t rfl rfl rfl rfl hp24) (y_move_int rfl) ?_
                  refine qx_y (sees_t rfl rfl rfl rfl hp24) (y_loadN 0 [.int .i64 p0.fRise, .int .i64 p0.fFall, .int .i64 p0.fUp, .int .i64 p0.fDown, .slice A0_4 p0.fLooks.length c0_4] ag_24 rfl rfl rfl) ?_
                  refine qx_y (sees_t rfl rfl rfl rfl hp24) (y_loadN 3 [.int .i64 ((rdL p1 s14.1).fFoot), .int .i64 ((rdL p1 s14.1).fHour)] ag_26 rfl rfl rfl) ?_
                  refine qx_y (sees_t rfl rfl rfl rfl hp24) (y_loadN 1 [.int .i64 p2.fFoot, .int .i64 p2.fHour] ag_26 rfl rfl rfl) ?_
                  obtain ⟨y34, hy35, h⟩ := bind_some h
                  refine qx_y (sees_t rfl rfl rfl rfl hp24) (y_call [.agg #[.int .i64 p0.fRise, .int .i64 p0.fFall, .int .i64 p0.fUp, .int .i64 p0.fDown, .slice A0_4 p0.fLooks.length c0_4], .agg #[.int .i64 ((rdL p1 s14.1).fFoot), .int .i64 ((rdL p1 s14.1).fHour)], .agg #[.int .i64 p2.fFoot, .int .i64 p2.fHour]] go_73 rfl (fun W2 hW2 => fire_far_ok p0 (TSpot.mk ((rdL p1 s14.1).fFoot) ((rdL p1 s14.1).fHour)) p2 y34 hy35 W2 A0_4 p0.fLooks.length c0_4 rfl ((RdL.arg hr0_4) W2 hW2)) rfl) ?_
                  refine qx_y (sees_t rfl rfl rfl rfl hp24) (y_add rfl rfl) ?_
                  refine qx_y (sees_t rfl rfl rfl rfl hp24) (y_min rfl rfl) ?_
                  refine qx_y (sees_t rfl rfl rfl rfl hp24) (y_move_int rfl) ?_
                  refine qx_y (sees_t rfl rfl rfl rfl hp24) (y_lss rfl rfl) ?_
                  refine qx_y rfl (y_pick_tb (congrArg Value.bool hp24) rfl) ?_
                  obtain rfl := Option.some.inj h
                  exact key _ _ (keep (keep (keep (keep (keep (keep (keep (keep (keep (keep (keep (keep (keep (keep (keep (keep (keep (keep (keep (keep rfl rfl) rfl) rfl) rfl) rfl) rfl) rfl) rfl) rfl) rfl) rfl) rfl) rfl) rfl) rfl) rfl) rfl) rfl) rfl) rfl)
                · refine qx_skip (sees_f rfl rfl rfl rfl hp24) ?_
                  refine qx_skip (sees_f rfl rfl rfl rfl hp24) ?_
                  refine qx_skip (sees_f rfl rfl rfl rfl hp24) ?_
                  refine qx_skip (sees_f rfl rfl rfl rfl hp24) ?_
                  refine qx_skip (sees_f rfl rfl rfl rfl hp24) ?_
                  refine qx_skip (sees_f rfl rfl rfl rfl hp24) ?_
                  refine qx_skip (sees_f rfl rfl rfl rfl hp24) ?_
                  refine qx_skip (sees_f rfl rfl rfl rfl hp24) ?_
                  refine qx_skip (sees_f rfl rfl rfl rfl hp24) ?_
                  refine qx_skip (sees_f rfl rfl rfl rfl hp24) ?_
                  refine qx_skip (sees_f rfl rfl rfl rfl hp24) ?_
                  refine qx_skip (sees_f rfl rfl rfl rfl hp24) ?_
                  refine qx_skip (sees_f rfl rfl rfl rfl hp24) ?_
                  refine qx_skip (sees_f rfl rfl rfl rfl hp24) ?_
                  refine qx_y rfl (y_pick_fb (congrArg Value.bool hp24) rfl) ?_
                  obtain rfl := Option.some.inj h
                  exact key _ _ (keep (keep (keep (keep (keep (keep (keep (keep (keep (keep (keep (keep (keep (keep (keep (keep (keep (keep (keep (keep rfl rfl) rfl) rfl) rfl) rfl) rfl) rfl) rfl) rfl) rfl) rfl) rfl) rfl) rfl) rfl) rfl) rfl) rfl) rfl) rfl)
            · rcases bool_cases y21.2 with hp23 | hp23
              · refine qx_y (sees_t rfl rfl rfl rfl hp23) (y_move_int rfl) ?_
                refine qx_y (sees_t rfl rfl rfl rfl hp23) (y_move_int rfl) ?_
                refine qx_y (sees_t rfl rfl rfl rfl hp23) (y_gtr rfl rfl) ?_
                refine qx_y rfl (y_pick_tb (congrArg Value.bool hp23) rfl) ?_
                exact key _ _ (keep (keep (keep (keep (keep (keep (keep (keep (keep (keep (keep (keep (keep (keep (keep (keep (keep (keep (keep (keep rfl rfl) rfl) rfl) rfl) rfl) rfl) rfl) rfl) rfl) rfl) rfl) rfl) rfl) rfl) rfl) rfl) rfl) rfl) rfl) (congrArg Value.bool (and_t hp23)))
              · refine qx_skip (sees_f rfl rfl rfl rfl hp23) ?_
                refine qx_skip (sees_f rfl rfl rfl rfl hp23) ?_
                refine qx_skip (sees_f rfl rfl rfl rfl hp23) ?_
                refine qx_y rfl (y_pick_fb (congrArg Value.bool hp23) rfl) ?_
                exact key _ _ (keep (keep (keep (keep (keep (keep (keep (keep (keep (keep (keep (keep (keep (keep (keep (keep (keep (keep (keep (keep rfl rfl) rfl) rfl) rfl) rfl) rfl) rfl) rfl) rfl) rfl) rfl) rfl) rfl) rfl) rfl) rfl) rfl) rfl) rfl) (congrArg Value.bool (and_f hp23)))
          · refine cx_false (congrArg Value.bool hp16) ?_
            refine cx_exit ?_
            refine ex_then_exit ?_
            obtain rfl := Option.some.inj h
            exact ex_stop ⟨rfl, _, A2_s14, c2_s14, s14.2.length, rfl, rfl, (keep (keep (keep (keep (keep (keep (keep (keep (keep (keep (keep (keep (keep rfl rfl) rfl) rfl) rfl) rfl) rfl) rfl) rfl) rfl) rfl) rfl) rfl) rfl)⟩
        · intro e L tm hJ
          obtain ⟨rfl, tm0_u15, A2_u15, c2_u15, n2_u15, rfl, rfl, rfl⟩ := hJ
          refine ⟨(by intro hc; cases hc), ?_⟩
          refine ex_block_here ?_
          refine ex_then ?_
          refine cx_seq ?_
          refine cx_region ?_
          refine ox_y rfl (y_move_slice rfl) ?_
          refine ox_y rfl (y_assign_slice rfl) ?_
          refine ox_y rfl (y_assign_int rfl) ?_
          refine ox_nil ?_
          refine ex_then ?_
          refine cx_ret ?_
          obtain rfl := Option.some.inj h
          exact ex_res2 (.inl rfl) rfl (resV_tmp (v := .slice A2_u15 u15.2.length c2_u15) rfl) (resV_tmp (v := .int .i64 0) rfl) (fun W2 hW2 => ⟨(A2_u15, u15.2.length, c2_u15), rfl, rfl, (hW2.pick 2 rfl)⟩)
    · refine cx_false (congrArg Value.bool hp8) ?_
      refine cx_skip ?_
      refine ex_then ?_
      refine cx_seq ?_
      refine cx_seq ?_
      refine cx_region ?_
      refine ox_y rfl (y_loadN 0 [.int .i64 p0.fRise, .int .i64 p0.fFall, .int .i64 p0.fUp, .int .i64 p0.fDown, .slice A0_4 p0.fLooks.length c0_4] ag_24 rfl rfl rfl) ?_
      refine ox_y rfl (y_move_int rfl) ?_
      obtain ⟨y37, hy38, h⟩ := bind_some h
      refine ox_y rfl (y_call [.agg #[.int .i64 p0.fRise, .int .i64 p0.fFall, .int .i64 p0.fUp, .int .i64 p0.fDown, .slice A0_4 p0.fLooks.length c0_4], .int .i64 y3] go_55 rfl (fun W2 hW2 => fire_agreed_ok p0 y3 y37 hy38 W2 A0_4 p0.fLooks.length c0_4 rfl ((RdL.arg hr0_4) W2 hW2)) rfl) ?_
      refine ox_y rfl (y_assign_int rfl) ?_
      refine ox_nil ?_
      refine ex_then ?_
      refine cx_seq ?_
      refine cx_region ?_
      refine ox_y rfl (y_move_int rfl) ?_
      refine ox_y rfl (y_neq rfl rfl) ?_
      refine ox_nil ?_
      refine ex_then ?_
      rcases ite_some h with ⟨hp39, h⟩ | ⟨hp39, h⟩
      · refine cx_true (congrArg Value.bool hp39) ?_
        refine cx_seq ?_
        refine cx_region ?_
        refine ox_y rfl (y_move_int rfl) ?_
        refine ox_y rfl (y_assign_slice rfl) ?_
        refine ox_y rfl (y_assign_int rfl) ?_
        refine ox_nil ?_
        refine ex_then ?_
        refine cx_ret ?_
        refine ex_then_ret ?_
        obtain rfl := Option.some.inj h
        exact ex_res2 (.inl rfl) rfl (resV_tmp (v := .slice none 0 0) rfl) (resV_tmp (v := .int .i64 y37) rfl) (fun W2 hW2 => ⟨(none, 0, 0), rfl, rfl, ((hW2.nilrow 3 1).pick 2 rfl)⟩)
      · refine cx_false (congrArg Value.bool hp39) ?_
        refine cx_skip ?_
        refine ex_then ?_
        refine cx_seq ?_
        refine cx_region ?_
        refine ox_y rfl (y_assign_slice rfl) ?_
        refine ox_nil ?_
        refine ex_then ?_
        refine cx_seq ?_
        refine cx_seq ?_
        refine cx_region ?_
        refine ox_y rfl (y_move_slice rfl) ?_
        refine ox_y rfl (y_len (us := []) us_46 rfl) ?_
        refine ox_y rfl (y_move_int rfl) ?_
        refine ox_nil ?_
        refine ex_then ?_
        refine cx_block ?_
        obtain ⟨u43, hl64, h⟩ := bind_some h
        refine cx_nilrow 3 1 ?_
        refine cx_loop (fun (s : (Int × (List Int))) L tm => ∃ (tm0 : Nat → Value) (A2_s : Option Addr) (c2_s : Nat) (n2_s : Nat), n2_s = s.2.length ∧ L = [cellsR b1 24 [.int .i64 p0.fRise, .int .i64 p0.fFall, .int .i64 p0.fUp, .int .i64 p0.fDown, .slice A0_4 p0.fLooks.length c0_4], cellsR b2 26 [.int .i64 p2.fFoot, .int .i64 p2.fHour], rowR A2_s c2_s 3 1 n2_s (encL cI s.2)] ∧ tm = (upd (upd (upd (upd (upd (upd (upd (upd (upd (upd (upd (upd (upd tm0 1 (.slice A1_0 p1.length c1_0)) 3 (.int .i64 p3)) 4 (.pointer (some ⟨b1, 0, none⟩))) 6 (.pointer (some ⟨b2, 0, none⟩))) 8 (.slice none 0 0)) 9 (.int .i64 0)) 10 (.int .i64 y37)) 31 (.bool b6)) 36 (.bool (y37 != 0))) 11 (.slice A2_s n2_s c2_s)) 38 (.slice A1_0 p1.length c1_0)) 39 (.int .i64 ((p1.length : Nat) : Int))) 40 (.int .i64 s.1))) (fun s e L tm => e = .exit 0 ∧ ∃ (tm0 : Nat → Value) (A2_s : Option Addr) (c2_s : Nat) (n2_s : Nat), n2_s = s.2.length ∧ L = [cellsR b1 24 [.int .i64 p0.fRise, .int .i64 p0.fFall, .int .i64 p0.fUp, .int .i64 p0.fDown, .slice A0_4 p0.fLooks.length c0_4], cellsR b2 26 [.int .i64 p2.fFoot, .int .i64 p2.fHour], rowR A2_s c2_s 3 1 n2_s (encL cI s.2)] ∧ tm = (upd (upd (upd (upd (upd (upd (upd (upd (upd (upd (upd (upd (upd tm0 1 (.slice A1_0 p1.length c1_0)) 3 (.int .i64 p3)) 4 (.pointer (some ⟨b1, 0, none⟩))) 6 (.pointer (some ⟨b2, 0, none⟩))) 8 (.slice none 0 0)) 9 (.int .i64 0)) 10 (.int .i64 y37)) 31 (.bool b6)) 36 (.bool (y37 != 0))) 11 (.slice A2_s n2_s c2_s)) 38 (.slice A1_0 p1.length c1_0)) 39 (.int .i64 ((p1.length : Nat) : Int))) 40 (.int .i64 s.1))) hl64 ⟨_, none, 0, 0, rfl, rfl, (keep (keep (keep (keep (keep (keep (keep (keep (keep (keep (keep (keep (keep rfl rfl) rfl) rfl) rfl) rfl) rfl) rfl) rfl) rfl) rfl) rfl) rfl) rfl)⟩ ?_ ?_
        · rintro s42 L tm st ⟨tm0_s42, A2_s42, c2_s42, n2_s42, rfl, rfl, rfl⟩ h
          unfold fire_Decides_l2 at h
          refine cx_seq ?_
          refine cx_region ?_
          refine ox_y rfl (y_lss rfl rfl) ?_
          refine ox_nil ?_
          refine ex_then ?_
          refine cx_seq ?_
          rcases ite_some h with ⟨hp44, h⟩ | ⟨hp44, h⟩
          · refine cx_true (congrArg Value.bool hp44) ?_
            refine cx_skip ?_
            refine ex_then ?_
            refine cx_seq ?_
            refine cx_block ?_
            refine cx_seq ?_
            refine cx_region ?_
            refine ox_y rfl (y_move_int rfl) ?_
            obtain ⟨hg45, h⟩ := guardO_some h
            refine ox_y rfl (y_indexR sl_46 (by decide) hg45.1 hg45.2 (RdL.arg hr1_0) (encL_len TSpot_cells_len rfl) rfl rfl) ?_
            refine ox_y rfl (y_loadRN (A := A1_0) (j := (Int.toNat s42.1 * 2)) [.int .i64 ((rdL p1 s42.1).fFoot), .int .i64 ((rdL p1 s42.1).fHour)] ag_26 (Nat.succ_pos _) (RdL.arg hr1_0) rfl (encL_gets TSpot_cells_len hg45.1 (lt_nat hg45.2 rfl))) ?_
            refine ox_alloc ze_26 rfl (fun b46 => ?_)
            refine ox_y rfl (y_assign_int rfl) ?_
            refine ox_n rfl (y_storeN 3 [.int .i64 ((rdL p1 s42.1).fFoot), .int .i64 ((rdL p1 s42.1).fHour)] sz_26 rfl (Nat.le_of_ble_eq_true rfl) rfl rfl rfl) ?_
            refine ox_nil ?_
            refine ex_then ?_
            refine cx_seq ?_
            refine cx_region ?_
            refine ox_y rfl (y_loadN 0 [.int .i64 p0.fRise, .int .i64 p0.fFall, .int .i64 p0.fUp, .int .i64 p0.fDown, .slice A0_4 p0.fLooks.length c0_4] ag_24 rfl rfl rfl) ?_
            refine ox_y rfl (y_loadN 3 [.int .i64 ((rdL p1 s42.1).fFoot), .int .i64 ((rdL p1 s42.1).fHour)] ag_26 rfl rfl rfl) ?_
            obtain ⟨y47, hy48, h⟩ := bind_some h
            refine ox_y rfl (y_call [.agg #[.int .i64 p0.fRise, .int .i64 p0.fFall, .int .i64 p0.fUp, .int .i64 p0.fDown, .slice A0_4 p0.fLooks.length c0_4], .agg #[.int .i64 ((rdL p1 s42.1).fFoot), .int .i64 ((rdL p1 s42.1).fHour)]] go_57 rfl (fun W2 hW2 => fire_ends_ok p0 (TSpot.mk ((rdL p1 s42.1).fFoot) ((rdL p1 s42.1).fHour)) y47 hy48 W2 A0_4 p0.fLooks.length c0_4 rfl ((RdL.arg hr0_4) W2 hW2)) rfl) ?_
            refine ox_y rfl (y_fieldN [.int .i64 y47.fSpan.fLo, .int .i64 y47.fSpan.fHi, .int .i64 y47.fLow, .int .i64 y47.fHigh] [.int .i64 y47.fSpan.fLo, .int .i64 y47.fSpan.fHi] fd_36_0 ag_32 rfl rfl) ?_
            refine ox_y rfl (y_field1 [.int .i64 y47.fSpan.fLo, .int .i64 y47.fSpan.fHi] (v := .int .i64 y47.fSpan.fLo) fd_32_0 sc_3 rfl rfl) ?_
            refine ox_y rfl (y_assign_int rfl) ?_
            refine ox_nil ?_
            refine ex_then ?_
            refine cx_seq ?_
            refine cx_region ?_
            refine ox_y rfl (y_loadN 0 [.int .i64 p0.fRise, .int .i64 p0.fFall, .int .i64 p0.fUp, .int .i64 p0.fDown, .slice A0_4 p0.fLooks.length c0_4] ag_24 rfl rfl rfl) ?_
            refine ox_y rfl (y_loadN 3 [.int .i64 ((rdL p1 s42.1).fFoot), .int .i64 ((rdL p1 s42.1).fHour)] ag_26 rfl rfl rfl) ?_
            refine ox_y rfl (y_loadN 1 [.int .i64 p2.fFoot, .int .i64 p2.fHour] ag_26 rfl rfl rfl) ?_
            refine ox_y rfl (y_move_int rfl) ?_
            obtain ⟨y49, hy50, h⟩ := bind_some h
            refine ox_y rfl (y_call [.agg #[.int .i64 p0.fRise, .int .i64 p0.fFall, .int .i64 p0.fUp, .int .i64 p0.fDown, .slice A0_4 p0.fLooks.length c0_4], .agg #[.int .i64 ((rdL p1 s42.1).fFoot), .int .i64 ((rdL p1 s42.1).fHour)], .agg #[.int .i64 p2.fFoot, .int .i64 p2.fHour], .int .i64 p3] go_88 rfl (fun W2 hW2 => fire_needed_ok p0 (TSpot.mk ((rdL p1 s42.1).fFoot) ((rdL p1 s42.1).fHour)) p2 p3 y49 hy50 W2 A0_4 p0.fLooks.length c0_4 rfl ((RdL.arg hr0_4) W2 hW2)) rfl) ?_
            refine ox_y rfl (y_move_tuple rfl) ?_
            refine ox_y rfl (y_extract (vs := [.int .i64 y49.1, .bool y49.2]) (v := .int .i64 y49.1) rfl rfl) ?_
            refine ox_y rfl (y_extract (vs := [.int .i64 y49.1, .bool y49.2]) (v := .bool y49.2) rfl rfl) ?_
            refine ox_y rfl (y_assign_int rfl) ?_
            refine ox_y rfl (y_assign_bool rfl) ?_
            refine ox_nil ?_
            refine ex_then ?_
            refine cx_seq ?_
            refine cx_draws 22 mixed (by kernel_rfl) (by kernel_rfl) ?_
            refine qx_y rfl (y_move_bool rfl) ?_
            refine qx_y rfl (y_move_bool rfl) ?_
            refine qx_join 4 (fun tm0 => (upd (upd (upd (upd (upd (upd (upd (upd (upd (upd (upd (upd (upd (upd (upd (upd (upd (upd (upd (upd tm0 1 (.slice A1_0 p1.length c1_0)) 3 (.int .i64 p3)) 4 (.pointer (some ⟨b1, 0, none⟩))) 6 (.pointer (some ⟨b2, 0, none⟩))) 8 (.slice none 0 0)) 9 (.int .i64 0)) 10 (.int .i64 y37)) 31 (.bool b6)) 36 (.bool (y37 != 0))) 11 (.slice A2_s42 s42.2.length c2_s42)) 38 (.slice A1_0 p1.length c1_0)) 39 (.int .i64 ((p1.length : Nat) : Int))) 40 (.int .i64 s42.1)) 41 (.bool (decide (s42.1 < ((p1.length : Nat) : Int))))) 13 (.pointer (some ⟨b46, 0, none⟩))) 12 (.int .i64 s42.1)) 14 (.int .i64 y47.fSpan.fLo)) 15 (.int .i64 y49.1)) 16 (.bool y49.2)) 63 (.bool (y49.2 && (decide (y47.fSpan.fLo < y49.1)))))) (fun tm0 => ?_) (fun key => ?_)
            · refine qx_y rfl (y_move_bool rfl) ?_
              obtain ⟨b53, hb54, h⟩ := bind_some h
              refine qx_join 15 (fun tm0 => (upd (upd (upd (upd (upd (upd (upd (upd (upd (upd (upd (upd (upd (upd (upd (upd (upd (upd (upd (upd tm0 1 (.slice A1_0 p1.length c1_0)) 3 (.int .i64 p3)) 4 (.pointer (some ⟨b1, 0, none⟩))) 6 (.pointer (some ⟨b2, 0, none⟩))) 8 (.slice none 0 0)) 9 (.int .i64 0)) 10 (.int .i64 y37)) 31 (.bool b6)) 36 (.bool (y37 != 0))) 11 (.slice A2_s42 s42.2.length c2_s42)) 38 (.slice A1_0 p1.length c1_0)) 39 (.int .i64 ((p1.length : Nat) : Int))) 40 (.int .i64 s42.1)) 41 (.bool (decide (s42.1 < ((p1.length : Nat) : Int))))) 13 (.pointer (some ⟨b46, 0, none⟩))) 12 (.int .i64 s42.1)) 14 (.int .i64 y47.fSpan.fLo)) 15 (.int .i64 y49.1)) 16 (.bool y49.2)) 79 (.bool b53))) (fun tm0 => ?_) (fun key => ?_)
              · refine qx_nil ?_
                refine ox_nil ?_
                refine ex_then ?_
                rcases ite_some h with ⟨hp55, h⟩ | ⟨hp55, h⟩
                · refine cx_true (congrArg Value.bool hp55) ?_
                  refine cx_region ?_
                  refine ox_y rfl (y_move_slice rfl) ?_
                  refine ox_y rfl (y_move_int rfl) ?_
                  refine ox_buildSliceE 1 (encL cI [s42.1]) _ mc_3_1 us_41 ze_3 by_3 (by decide) (by decide) (by kernel_rfl) (encL_len cI_len rfl) rfl (fun b56 => ?_)
                  obtain ⟨hg59, h⟩ := guardO_some h
                  refine ox_append0 2 us_41 ze_3 by_3 rfl rfl rfl (RdL.row 4 rfl) (encL_len cI_len rfl) (encL_one cI_one _) (app_room hg59 (by decide)) rfl (fun A57 c58 => ?_)
                  refine ox_y rfl (y_assign_slice rfl) ?_
                  refine ox_nil ?_
                  refine ex_block ?_
                  refine ex_then ?_
                  refine cx_region ?_
                  refine ox_y rfl (y_add rfl rfl) ?_
                  refine ox_y rfl (y_move_int rfl) ?_
                  refine ox_nil ?_
                  refine ex_take 3 ?_
                  obtain rfl := Option.some.inj h
                  exact ex_next ⟨_, A57, c58, (s42.2.length + 1), (hn_app rfl rfl), rfl, (keep (keep (keep (keep (keep (keep (keep (keep (keep (keep (keep (keep (keep rfl rfl) rfl) rfl) rfl) rfl) rfl) rfl) rfl) rfl) rfl) rfl) rfl) rfl)⟩
                · refine cx_false (congrArg Value.bool hp55) ?_
                  refine cx_skip ?_
                  refine ex_block ?_
                  refine ex_then ?_
                  refine cx_region ?_
                  refine ox_y rfl (y_add rfl rfl) ?_
                  refine ox_y rfl (y_move_int rfl) ?_
                  refine ox_nil ?_
                  refine ex_take 3 ?_
                  obtain rfl := Option.some.inj h
                  exact ex_next ⟨_, A2_s42, c2_s42, s42.2.length, rfl, rfl, (keep (keep (keep (keep (keep (keep (keep (keep (keep (keep (keep (keep (keep rfl rfl) rfl) rfl) rfl) rfl) rfl) rfl) rfl) rfl) rfl) rfl) rfl) rfl)⟩
              · clear h; rcases ite_some hb54 with ⟨hp52, h⟩ | ⟨hp52, h⟩
                · refine qx_y (sees_t rfl rfl rfl rfl hp52) (y_loadN 0 [.int .i64 p0.fRise, .int .i64 p0.fFall, .int .i64 p0.fUp, .int .i64 p0.fDown, .slice A0_4 p0.fLooks.length c0_4] ag_24 rfl rfl rfl) ?_
                  refine qx_y (sees_t rfl rfl rfl rfl hp52) (y_loadN 1 [.int .i64 p2.fFoot, .int .i64 p2.fHour] ag_26 rfl rfl rfl) ?_
                  obtain ⟨y60, hy61, h⟩ := bind_some h
                  refine qx_y (sees_t rfl rfl rfl rfl hp52) (y_call [.agg #[.int .i64 p0.fRise, .int .i64 p0.fFall, .int .i64 p0.fUp, .int .i64 p0.fDown, .slice A0_4 p0.fLooks.length c0_4], .agg #[.int .i64 p2.fFoot, .int .i64 p2.fHour]] go_57 rfl (fun W2 hW2 => fire_ends_ok p0 p2 y60 hy61 W2 A0_4 p0.fLooks.length c0_4 rfl ((RdL.arg hr0_4) W2 hW2)) rfl) ?_
                  refine qx_y (sees_t rfl rfl rfl rfl hp52) (y_fieldN [.int .i64 y60.fSpan.fLo, .int .i64 y60.fSpan.fHi, .int .i64 y60.fLow, .int .i64 y60.fHigh] [.int .i64 y60.fSpan.fLo, .int .i64 y60.fSpan.fHi] fd_36_0 ag_32 rfl rfl) ?_
                  refine qx_y (sees_t rfl rfl rfl rfl hp52) (y_field1 [.int .i64 y60.fSpan.fLo, .int .i64 y60.fSpan.fHi] (v := .int .i64 y60.fSpan.fHi) fd_32_1 sc_3 rfl rfl) ?_
                  refine qx_y (sees_t rfl rfl rfl rfl hp52) (y_move_int rfl) ?_
                  refine qx_y (sees_t rfl rfl rfl rfl hp52) (y_loadN 0 [.int .i64 p0.fRise, .int .i64 p0.fFall, .int .i64 p0.fUp, .int .i64 p0.fDown, .slice A0_4 p0.fLooks.length c0_4] ag_24 rfl rfl rfl) ?_
                  refine qx_y (sees_t rfl rfl rfl rfl hp52) (y_loadN 3 [.int .i64 ((rdL p1 s42.1).fFoot), .int .i64 ((rdL p1 s42.1).fHour)] ag_26 rfl rfl rfl) ?_
                  refine qx_y (sees_t rfl rfl rfl rfl hp52) (y_loadN 1 [.int .i64 p2.fFoot, .int .i64 p2.fHour] ag_26 rfl rfl rfl) ?_
                  obtain ⟨y62, hy63, h⟩ := bind_some h
                  refine qx_y (sees_t rfl rfl rfl rfl hp52) (y_call [.agg #[.int .i64 p0.fRise, .int .i64 p0.fFall, .int .i64 p0.fUp, .int .i64 p0.fDown, .slice A0_4 p0.fLooks.length c0_4], .agg #[.int .i64 ((rdL p1 s42.1).fFoot), .int .i64 ((rdL p1 s42.1).fHour)], .agg #[.int .i64 p2.fFoot, .int .i64 p2.fHour]] go_73 rfl (fun W2 hW2 => fire_far_ok p0 (TSpot.mk ((rdL p1 s42.1).fFoot) ((rdL p1 s42.1).fHour)) p2 y62 hy63 W2 A0_4 p0.fLooks.length c0_4 rfl ((RdL.arg hr0_4) W2 hW2)) rfl) ?_
                  refine qx_y (sees_t rfl rfl rfl rfl hp52) (y_add rfl rfl) ?_
                  refine qx_y (sees_t rfl rfl rfl rfl hp52) (y_min rfl rfl) ?_
                  refine qx_y (sees_t rfl rfl rfl rfl hp52) (y_move_int rfl) ?_
                  refine qx_y (sees_t rfl rfl rfl rfl hp52) (y_lss rfl rfl) ?_
                  refine qx_y rfl (y_pick_tb (congrArg Value.bool hp52) rfl) ?_
                  obtain rfl := Option.some.inj h
                  exact key _ _ (keep (keep (keep (keep (keep (keep (keep (keep (keep (keep (keep (keep (keep (keep (keep (keep (keep (keep (keep (keep rfl rfl) rfl) rfl) rfl) rfl) rfl) rfl) rfl) rfl) rfl) rfl) rfl) rfl) rfl) rfl) rfl) rfl) rfl) rfl) rfl)
                · refine qx_skip (sees_f rfl rfl rfl rfl hp52) ?_
                  refine qx_skip (sees_f rfl rfl rfl rfl hp52) ?_
                  refine qx_skip (sees_f rfl rfl rfl rfl hp52) ?_
                  refine qx_skip (sees_f rfl rfl rfl rfl hp52) ?_
                  refine qx_skip (sees_f rfl rfl rfl rfl hp52) ?_
                  refine qx_skip (sees_f rfl rfl rfl rfl hp52) ?_
                  refine qx_skip (sees_f rfl rfl rfl rfl hp52) ?_
                  refine qx_skip (sees_f rfl rfl rfl rfl hp52) ?_
                  refine qx_skip (sees_f rfl rfl rfl rfl hp52) ?_
                  refine qx_skip (sees_f rfl rfl rfl rfl hp52) ?_
                  refine qx_skip (sees_f rfl rfl rfl rfl hp52) ?_
                  refine qx_skip (sees_f rfl rfl rfl rfl hp52) ?_
                  refine qx_skip (sees_f rfl rfl rfl rfl hp52) ?_
                  refine qx_skip (sees_f rfl rfl rfl rfl hp52) ?_
                  refine qx_y rfl (y_pick_fb (congrArg Value.bool hp52) rfl) ?_
                  obtain rfl := Option.some.inj h
                  exact key _ _ (keep (keep (keep (keep (keep (keep (keep (keep (keep (keep (keep (keep (keep (keep (keep (keep (keep (keep (keep (keep rfl rfl) rfl) rfl) rfl) rfl) rfl) rfl) rfl) rfl) rfl) rfl) rfl) rfl) rfl) rfl) rfl) rfl) rfl) rfl) rfl)
            · rcases bool_cases y49.2 with hp51 | hp51
              · refine qx_y (sees_t rfl rfl rfl rfl hp51) (y_move_int rfl) ?_
                refine qx_y (sees_t rfl rfl rfl rfl hp51) (y_move_int rfl) ?_
                refine qx_y (sees_t rfl rfl rfl rfl hp51) (y_gtr rfl rfl) ?_
                refine qx_y rfl (y_pick_tb (congrArg Value.bool hp51) rfl) ?_
                exact key _ _ (keep (keep (keep (keep (keep (keep (keep (keep (keep (keep (keep (keep (keep (keep (keep (keep (keep (keep (keep (keep rfl rfl) rfl) rfl) rfl) rfl) rfl) rfl) rfl) rfl) rfl) rfl) rfl) rfl) rfl) rfl) rfl) rfl) rfl) rfl) (congrArg Value.bool (and_t hp51)))
              · refine qx_skip (sees_f rfl rfl rfl rfl hp51) ?_
                refine qx_skip (sees_f rfl rfl rfl rfl hp51) ?_
                refine qx_skip (sees_f rfl rfl rfl rfl hp51) ?_
                refine qx_y rfl (y_pick_fb (congrArg Value.bool hp51) rfl) ?_
                exact key _ _ (keep (keep (keep (keep (keep (keep (keep (keep (keep (keep (keep (keep (keep (keep (keep (keep (keep (keep (keep (keep rfl rfl) rfl) rfl) rfl) rfl) rfl) rfl) rfl) rfl) rfl) rfl) rfl) rfl) rfl) rfl) rfl) rfl) rfl) rfl) (congrArg Value.bool (and_f hp51)))
          · refine cx_false (congrArg Value.bool hp44) ?_
            refine cx_exit ?_
            refine ex_then_exit ?_
            obtain rfl := Option.some.inj h
            exact ex_stop ⟨rfl, _, A2_s42, c2_s42, s42.2.length, rfl, rfl, (keep (keep (keep (keep (keep (keep (keep (keep (keep (keep (keep (keep (keep rfl rfl) rfl) rfl) rfl) rfl) rfl) rfl) rfl) rfl) rfl) rfl) rfl) rfl)⟩
        · intro e L tm hJ
          obtain ⟨rfl, tm0_u43, A2_u43, c2_u43, n2_u43, rfl, rfl, rfl⟩ := hJ
          refine ⟨(by intro hc; cases hc), ?_⟩
          refine ex_block_here ?_
          refine ex_then ?_
          refine cx_seq ?_
          refine cx_region ?_
          refine ox_y rfl (y_move_slice rfl) ?_
          refine ox_y rfl (y_assign_slice rfl) ?_
          refine ox_y rfl (y_assign_int rfl) ?_
          refine ox_nil ?_
          refine ex_then ?_
          refine cx_ret ?_
          obtain rfl := Option.some.inj h
          exact ex_res2 (.inl rfl) rfl (resV_tmp (v := .slice A2_u43 u43.2.length c2_u43) rfl) (resV_tmp (v := .int .i64 0) rfl) (fun W2 hW2 => ⟨(A2_u43, u43.2.length, c2_u43), rfl, rfl, (hW2.pick 2 rfl)⟩)
  · clear h; rcases ite_some hb7 with ⟨hp5, h⟩ | ⟨hp5, h⟩
    · refine ox_y (sees_t rfl rfl rfl rfl hp5) (y_loadN 1 [.int .i64 p2.fFoot, .int .i64 p2.fHour] ag_26 rfl rfl rfl) ?_
      obtain ⟨y65, hy66, h⟩ := bind_some h
      refine ox_y (sees_t rfl rfl rfl rfl hp5) (y_call [.agg #[.int .i64 p2.fFoot, .int .i64 p2.fHour]] go_70 rfl (fun W2 hW2 => fire_right_ok p2 y65 hy66 W2 ) rfl) ?_
      refine ox_y (sees_t rfl rfl rfl rfl hp5) (y_not rfl) ?_
      refine ox_y (sees_t rfl rfl rfl rfl hp5) (y_move_bool rfl) ?_
      obtain ⟨b68, hb69, h⟩ := bind_some h
      refine ox_join 4 (fun tm0 => (upd (upd (upd (upd (upd (upd (upd (upd (upd tm0 1 (.slice A1_0 p1.length c1_0)) 3 (.int .i64 p3)) 4 (.pointer (some ⟨b1, 0, none⟩))) 6 (.pointer (some ⟨b2, 0, none⟩))) 8 (.slice none 0 0)) 9 (.int .i64 0)) 10 (.int .i64 y3)) 22 (.bool (y3 == 0))) 30 (.bool b68))) (fun tm0 => ?_) (fun key => ?_)
      · refine ox_y rfl (y_pick_tb (congrArg Value.bool hp5) rfl) ?_
        obtain rfl := Option.some.inj h
        exact key _ _ (keep (keep (keep (keep (keep (keep (keep (keep rfl rfl) rfl) rfl) rfl) rfl) rfl) rfl) rfl)
      · clear h; rcases ite_some hb69 with ⟨hp67, h⟩ | ⟨hp67, h⟩
        · refine ox_skip (sees_f rfl rfl rfl rfl hp67) ?_
          refine ox_skip (sees_f rfl rfl rfl rfl hp67) ?_
          refine ox_skip (sees_f rfl rfl rfl rfl hp67) ?_
          refine ox_y (sees_t rfl rfl rfl rfl hp5) (y_pick_tb (congrArg Value.bool hp67) rfl) ?_
          obtain rfl := Option.some.inj h
          exact key _ _ (keep (keep (keep (keep (keep (keep (keep (keep (keep rfl rfl) rfl) rfl) rfl) rfl) rfl) rfl) rfl) rfl)
        · refine ox_y (sees_t rfl rfl rfl rfl hp67) (y_move_int rfl) ?_
          obtain ⟨y70, hy71, h⟩ := bind_some h
          refine ox_y (sees_t rfl rfl rfl rfl hp67) (y_call [.int .i64 p3] go_87 rfl (fun W2 hW2 => fire_heat_ok p3 y70 hy71 W2 ) rfl) ?_
          refine ox_y (sees_t rfl rfl rfl rfl hp67) (y_not rfl) ?_
          refine ox_y (sees_t rfl rfl rfl rfl hp5) (y_pick_fb (congrArg Value.bool hp67) rfl) ?_
          obtain rfl := Option.some.inj h
          exact key _ _ (keep (keep (keep (keep (keep (keep (keep (keep (keep rfl rfl) rfl) rfl) rfl) rfl) rfl) rfl) rfl) rfl)
    · refine ox_skip (sees_f rfl rfl rfl rfl hp5) ?_
      refine ox_skip (sees_f rfl rfl rfl rfl hp5) ?_
      refine ox_skip (sees_f rfl rfl rfl rfl hp5) ?_
      refine ox_skip (sees_f rfl rfl rfl rfl hp5) ?_
      refine ox_skip rfl ?_
      refine ox_skip rfl ?_
      refine ox_skip rfl ?_
      refine ox_skip (sees_f rfl rfl rfl rfl hp5) ?_
      refine ox_y rfl (y_pick_fb (congrArg Value.bool hp5) rfl) ?_
      obtain rfl := Option.some.inj h
      exact key _ _ (keep (keep (keep (keep (keep (keep (keep (keep rfl rfl) rfl) rfl) rfl) rfl) rfl) rfl) rfl)

/-! calx/calxlaw02.FireDecides -/
set_option maxRecDepth 100000 in
theorem calxlaw02_FireDecides_ok (p0 : TFire) (p1 : TSpot) (p2 : TSpot) (p3 : Int) (p4 : Int) (res : Bool) (h : calxlaw02_FireDecides p0 p1 p2 p3 p4 = some res) (W : World) (A0_4 : Option Addr) (n0_4 c0_4 : Nat) (hn0_4 : n0_4 = p0.fLooks.length) (hr0_4 : Rd W A0_4 n0_4 c0_4 (encL TLook_cells p0.fLooks)) :
    Calls Try.prog 9 [.agg #[.int .i64 p0.fRise, .int .i64 p0.fFall, .int .i64 p0.fUp, .int .i64 p0.fDown, .slice A0_4 n0_4 c0_4], .agg #[.int .i64 p1.fFoot, .int .i64 p1.fHour], .agg #[.int .i64 p2.fFoot, .int .i64 p2.fHour], .int .i64 p3, .int .i64 p4].toArray W fun e W2 => e = .returned (.bool res) ∧ Ext W W2 [] := by
  subst hn0_4
  unfold calxlaw02_FireDecides at h
  refine calls_enter (m := 199) Try.func9 rfl rfl (Nat.le_of_ble_eq_true rfl) ?_
  refine cx_seq ?_
  refine cx_region ?_
  refine ox_box [.int .i64 p0.fRise, .int .i64 p0.fFall, .int .i64 p0.fUp, .int .i64 p0.fDown, .slice A0_4 p0.fLooks.length c0_4] rfl rfl rfl (fun b1 => ?_)
  refine ox_box [.int .i64 p1.fFoot, .int .i64 p1.fHour] rfl rfl rfl (fun b2 => ?_)
  refine ox_box [.int .i64 p2.fFoot, .int .i64 p2.fHour] rfl rfl rfl (fun b3 => ?_)
  refine ox_y rfl (y_assign_bool rfl) ?_
  refine ox_nil ?_
  refine ex_then ?_
  refine cx_seq ?_
  refine cx_seq ?_
  refine cx_region ?_
  refine ox_y rfl (y_loadN 0 [.int .i64 p0.fRise, .int .i64 p0.fFall, .int .i64 p0.fUp, .int .i64 p0.fDown, .slice A0_4 p0.fLooks.length c0_4] ag_24 rfl rfl rfl) ?_
  obtain ⟨y4, hy5, h⟩ := bind_some h
  refine ox_y rfl (y_call [.agg #[.int .i64 p0.fRise, .int .i64 p0.fFall, .int .i64 p0.fUp, .int .i64 p0.fDown, .slice A0_4 p0.fLooks.length c0_4]] go_11 rfl (fun W2 hW2 => calxlaw02_few_ok p0 y4 hy5 W2 A0_4 p0.fLooks.length c0_4 rfl ((RdL.arg hr0_4) W2 hW2)) rfl) ?_
  refine ox_y rfl (y_not rfl) ?_
  refine ox_y rfl (y_move_bool rfl) ?_
  refine ox_join 5 (fun tm0 => (upd (upd (upd (upd (upd (upd (upd tm0 3 (.int .i64 p3)) 4 (.int .i64 p4)) 5 (.pointer (some ⟨b1, 0, none⟩))) 6 (.pointer (some ⟨b2, 0, none⟩))) 7 (.pointer (some ⟨b3, 0, none⟩))) 10 (.bool false)) 32 (.bool ((!y4) || (decide (24 ≤ ((p0.fLooks.length : Nat) : Int))))))) (fun tm0 => ?_) (fun key => ?_)
  · refine ox_nil ?_
    refine ex_then ?_
    rcases ite_some h with ⟨hp7, h⟩ | ⟨hp7, h⟩
    · refine cx_true (congrArg Value.bool hp7) ?_
      refine cx_seq ?_
      refine cx_region ?_
      obtain ⟨y8, hy9, h⟩ := bind_some h
      refine ox_y rfl (y_call [] go_13 rfl (fun W2 hW2 => calxlaw02_sanity_ok  y8 hy9 W2 ) rfl) ?_
      refine ox_y rfl (y_assign_bool rfl) ?_
      refine ox_nil ?_
      refine ex_then ?_
      refine cx_ret ?_
      refine ex_then_ret ?_
      obtain rfl := Option.some.inj h
      exact ex_res1 (.inl rfl) rfl (resV_tmp (v := .bool y8) rfl) (fun W2 hW2 => ⟨rfl, hW2.none⟩)
    · refine cx_false (congrArg Value.bool hp7) ?_
      refine cx_skip ?_
      refine ex_then ?_
      refine cx_seq ?_
      refine cx_region ?_
      refine ox_y rfl (y_loadN 0 [.int .i64 p0.fRise, .int .i64 p0.fFall, .int .i64 p0.fUp, .int .i64 p0.fDown, .slice A0_4 p0.fLooks.length c0_4] ag_24 rfl rfl rfl) ?_
      refine ox_y rfl (y_loadN 2 [.int .i64 p2.fFoot, .int .i64 p2.fHour] ag_26 rfl rfl rfl) ?_
      refine ox_y rfl (y_loadN 1 [.int .i64 p1.fFoot, .int .i64 p1.fHour] ag_26 rfl rfl rfl) ?_
      refine ox_y rfl (y_move_int rfl) ?_
      obtain ⟨y10, hy11, h⟩ := bind_some h
      refine ox_y rfl (y_call [.agg #[.int .i64 p0.fRise, .int .i64 p0.fFall, .int .i64 p0.fUp, .int .i64 p0.fDown, .slice A0_4 p0.fLooks.length c0_4], .agg #[.int .i64 p2.fFoot, .int .i64 p2.fHour], .agg #[.int .i64 p1.fFoot, .int .i64 p1.fHour], .int .i64 p3] go_44 rfl (fun W2 hW2 => fire_Needed_ok p0 p2 p1 p3 y10 hy11 W2 A0_4 p0.fLooks.length c0_4 rfl ((RdL.arg hr0_4) W2 hW2)) rfl) ?_
      refine ox_y rfl (y_move_tuple rfl) ?_
      refine ox_y rfl (y_extract (vs := [.int .i64 y10.1, .bool y10.2.1, .int .i64 y10.2.2]) (v := .int .i64 y10.1) rfl rfl) ?_
      refine ox_y rfl (y_extract (vs := [.int .i64 y10.1, .bool y10.2.1, .int .i64 y10.2.2]) (v := .bool y10.2.1) rfl rfl) ?_
      refine ox_y rfl (y_extract (vs := [.int .i64 y10.1, .bool y10.2.1, .int .i64 y10.2.2]) (v := .int .i64 y10.2.2) rfl rfl) ?_
      refine ox_y rfl (y_assign_int rfl) ?_
      refine ox_y rfl (y_assign_bool rfl) ?_
      refine ox_y rfl (y_assign_int rfl) ?_
      refine ox_nil ?_
      refine ex_then ?_
      refine cx_seq ?_
      refine cx_region ?_
      refine ox_y rfl (y_loadN 0 [.int .i64 p0.fRise, .int .i64 p0.fFall, .int .i64 p0.fUp, .int .i64 p0.fDown, .slice A0_4 p0.fLooks.length c0_4] ag_24 rfl rfl rfl) ?_
      refine ox_y rfl (y_loadN 2 [.int .i64 p2.fFoot, .int .i64 p2.fHour] ag_26 rfl rfl rfl) ?_
      refine ox_buildSliceE 1 (encL TSpot_cells [p2]) _ mc_26_1 us_46 ze_26 by_26 (by decide) (by decide) (by kernel_rfl) (encL_len TSpot_cells_len rfl) rfl (fun b12 => ?_)
      refine ox_y rfl (y_loadN 1 [.int .i64 p1.fFoot, .int .i64 p1.fHour] ag_26 rfl rfl rfl) ?_
      refine ox_y rfl (y_move_int rfl) ?_
      obtain ⟨y13, hy14, h⟩ := bind_some h
      refine ox_call [.agg #[.int .i64 p0.fRise, .int .i64 p0.fFall, .int .i64 p0.fUp, .int .i64 p0.fDown, .slice A0_4 p0.fLooks.length c0_4], .slice (some ⟨b12, 0, none⟩) 1 1, .agg #[.int .i64 p1.fFoot, .int .i64 p1.fHour], .int .i64 p3] _ _ _ rfl go_45 rfl (fun W2 hW2 => fire_Decides_ok p0 [p2] p1 p3 y13 hy14 W2 A0_4 p0.fLooks.length c0_4 rfl ((RdL.arg hr0_4) W2 hW2) (some ⟨b12, 0, none⟩) 1 1 rfl ((RdL.row 3 rfl) W2 hW2)) ?_
      rintro ⟨A15, n17, c16⟩ hn18
      replace hn18 : n17 = y13.1.length := hn18; subst hn18
      refine ox_y rfl (y_move_tuple rfl) ?_
      refine ox_y rfl (y_extract (vs := [.slice A15 y13.1.length c16, .int .i64 y13.2]) (v := .slice A15 y13.1.length c16) rfl rfl) ?_
      refine ox_y rfl (y_extract (vs := [.slice A15 y13.1.length c16, .int .i64 y13.2]) (v := .int .i64 y13.2) rfl rfl) ?_
      refine ox_y rfl (y_assign_slice rfl) ?_
      refine ox_y rfl (y_assign_int rfl) ?_
      refine ox_nil ?_
      refine ex_then ?_
      refine cx_seq ?_
      refine cx_seq ?_
      refine cx_region ?_
      refine ox_y rfl (y_move_int rfl) ?_
      refine ox_y rfl (y_move_int rfl) ?_
      refine ox_y rfl (y_neq rfl rfl) ?_
      refine ox_nil ?_
      refine ex_then ?_
      rcases ite_some h with ⟨hp19, h⟩ | ⟨hp19, h⟩
      · refine cx_true (congrArg Value.bool hp19) ?_
        refine cx_seq ?_
        refine cx_region ?_
        refine ox_y rfl (y_assign_bool rfl) ?_
        refine ox_nil ?_
        refine ex_then ?_
        refine cx_ret ?_
        refine ex_then_ret ?_
        obtain rfl := Option.some.inj h
        exact ex_res1 (.inl rfl) rfl (resV_tmp (v := .bool false) rfl) (fun W2 hW2 => ⟨rfl, hW2.none⟩)
      · refine cx_false (congrArg Value.bool hp19) ?_
        refine cx_skip ?_
        refine ex_then ?_
        refine cx_seq ?_
        refine cx_seq ?_
        refine cx_region ?_
        refine ox_y rfl (y_move_int rfl) ?_
        refine ox_y rfl (y_neq rfl rfl) ?_
        refine ox_nil ?_
        refine ex_then ?_
        rcases ite_some h with ⟨hp20, h⟩ | ⟨hp20, h⟩
        · refine cx_true (congrArg Value.bool hp20) ?_
          refine cx_seq ?_
          refine cx_region ?_
          obtain ⟨y21, hy22, h⟩ := bind_some h
          refine ox_y rfl (y_call [] go_13 rfl (fun W2 hW2 => calxlaw02_sanity_ok  y21 hy22 W2 ) rfl) ?_
          refine ox_y rfl (y_assign_bool rfl) ?_
          refine ox_nil ?_
          refine ex_then ?_
          refine cx_ret ?_
          refine ex_then_ret ?_
          obtain rfl := Option.some.inj h
          exact ex_res1 (.inl rfl) rfl (resV_tmp (v := .bool y21) rfl) (fun W2 hW2 => ⟨rfl, hW2.none⟩)
        · refine cx_false (congrArg Value.bool hp20) ?_
          refine cx_skip ?_
          refine ex_then ?_
          refine cx_seq ?_
          refine cx_region ?_
          refine ox_y rfl (y_loadN 0 [.int .i64 p0.fRise, .int .i64 p0.fFall, .int .i64 p0.fUp, .int .i64 p0.fDown, .slice A0_4 p0.fLooks.length c0_4] ag_24 rfl rfl rfl) ?_
          refine ox_y rfl (y_loadN 2 [.int .i64 p2.fFoot, .int .i64 p2.fHour] ag_26 rfl rfl rfl) ?_
          obtain ⟨y23, hy24, h⟩ := bind_some h
          refine ox_y rfl (y_call [.agg #[.int .i64 p0.fRise, .int .i64 p0.fFall, .int .i64 p0.fUp, .int .i64 p0.fDown, .slice A0_4 p0.fLooks.length c0_4], .agg #[.int .i64 p2.fFoot, .int .i64 p2.fHour]] go_14 rfl (fun W2 hW2 => fire_Ends_ok p0 p2 y23 hy24 W2 A0_4 p0.fLooks.length c0_4 rfl ((RdL.arg hr0_4) W2 hW2)) rfl) ?_
          refine ox_y rfl (y_move_tuple rfl) ?_
          refine ox_y rfl (y_extract (vs := [.agg #[.int .i64 y23.1.fSpan.fLo, .int .i64 y23.1.fSpan.fHi, .int .i64 y23.1.fLow, .int .i64 y23.1.fHigh], .int .i64 y23.2]) (v := .agg #[.int .i64 y23.1.fSpan.fLo, .int .i64 y23.1.fSpan.fHi, .int .i64 y23.1.fLow, .int .i64 y23.1.fHigh]) rfl rfl) ?_
          refine ox_y rfl (y_extract (vs := [.agg #[.int .i64 y23.1.fSpan.fLo, .int .i64 y23.1.fSpan.fHi, .int .i64 y23.1.fLow, .int .i64 y23.1.fHigh], .int .i64 y23.2]) (v := .int .i64 y23.2) rfl rfl) ?_
          refine ox_alloc ze_36 rfl (fun b25 => ?_)
          try dsimp only [List.nil_append, List.cons_append, List.set_cons_zero, List.set_cons_succ]
          refine ox_n rfl (y_storeN 5 [.int .i64 y23.1.fSpan.fLo, .int .i64 y23.1.fSpan.fHi, .int .i64 y23.1.fLow, .int .i64 y23.1.fHigh] sz_36 rfl (Nat.le_of_ble_eq_true rfl) rfl rfl rfl) ?_
          refine ox_y rfl (y_assign_int rfl) ?_
          refine ox_nil ?_
          refine ex_then ?_
          refine cx_seq ?_
          refine cx_seq ?_
          refine cx_region ?_
          refine ox_y rfl (y_move_int rfl) ?_
          refine ox_y rfl (y_neq rfl rfl) ?_
          refine ox_y rfl (y_move_bool rfl) ?_
          refine ox_join 8 (fun tm0 => (upd (upd (upd (upd (upd (upd (upd (upd (upd (upd (upd tm0 3 (.int .i64 p3)) 4 (.int .i64 p4)) 5 (.pointer (some ⟨b1, 0, none⟩))) 6 (.pointer (some ⟨b2, 0, none⟩))) 7 (.pointer (some ⟨b3, 0, none⟩))) 10 (.bool false)) 11 (.int .i64 y10.1)) 12 (.bool y10.2.1)) 14 (.slice A15 y13.1.length c16)) 16 (.pointer (some ⟨b25, 0, none⟩))) 74 (.bool ((y23.2 != 0) || ((decide (0 < ((y13.1.length : Nat) : Int))) && (!y10.2.1)))))) (fun tm0 => ?_) (fun key => ?_)
          · refine ox_nil ?_
            refine ex_then ?_
            rcases ite_some h with ⟨hp27, h⟩ | ⟨hp27, h⟩
            · refine cx_true (congrArg Value.bool hp27) ?_
              refine cx_seq ?_
              refine cx_region ?_
              refine ox_y rfl (y_assign_bool rfl) ?_
              refine ox_nil ?_
              refine ex_then ?_
              refine cx_ret ?_
              refine ex_then_ret ?_
              obtain rfl := Option.some.inj h
              exact ex_res1 (.inl rfl) rfl (resV_tmp (v := .bool false) rfl) (fun W2 hW2 => ⟨rfl, hW2.none⟩)
            · refine cx_false (congrArg Value.bool hp27) ?_
              refine cx_skip ?_
              refine ex_then ?_
              refine cx_seq ?_
              refine cx_seq ?_
              refine cx_region ?_
              refine ox_y rfl (y_move_bool rfl) ?_
              refine ox_nil ?_
              refine ex_then ?_
              rcases ite_some h with ⟨hp28, h⟩ | ⟨hp28, h⟩
              · refine cx_true (congrArg Value.bool hp28) ?_
                refine cx_seq ?_
                refine cx_region ?_
                refine ox_y rfl (y_loadN 0 [.int .i64 p0.fRise, .int .i64 p0.fFall, .int .i64 p0.fUp, .int .i64 p0.fDown, .slice A0_4 p0.fLooks.length c0_4] ag_24 rfl rfl rfl) ?_
                refine ox_y rfl (y_move_int rfl) ?_
                refine ox_y rfl (y_loadN 2 [.int .i64 p2.fFoot, .int .i64 p2.fHour] ag_26 rfl rfl rfl) ?_
                refine ox_y rfl (y_move_int rfl) ?_
                refine ox_y rfl (y_fieldAddr fo_36_0 rfl) ?_
                refine ox_y rfl (y_fieldAddr fo_32_1 rfl) ?_
                refine ox_y rfl (y_load1 5 (v := .int .i64 y23.1.fSpan.fHi) sc_3 rfl rfl rfl) ?_
                refine ox_y rfl (y_buildS [.int .i64 y10.1, .int .i64 y23.1.fSpan.fHi] [(0, 1), (1, 1)] ust_32 ze_32 (by kernel_rfl)) ?_
                refine ox_y rfl (y_buildS [.int .i64 p4, .int .i64 p2.fFoot, .int .i64 p2.fHour, .int .i64 y10.1, .int .i64 y23.1.fSpan.fHi] [(0, 1), (1, 2), (3, 2)] ust_34 ze_34 (by kernel_rfl)) ?_
                refine ox_y rfl (y_loadN 1 [.int .i64 p1.fFoot, .int .i64 p1.fHour] ag_26 rfl rfl rfl) ?_
                obtain ⟨y29, hy30, h⟩ := bind_some h
                refine ox_y rfl (y_call [.agg #[.int .i64 p0.fRise, .int .i64 p0.fFall, .int .i64 p0.fUp, .int .i64 p0.fDown, .slice A0_4 p0.fLooks.length c0_4], .agg #[.int .i64 p4, .int .i64 p2.fFoot, .int .i64 p2.fHour, .int .i64 y10.1, .int .i64 y23.1.fSpan.fHi], .agg #[.int .i64 p1.fFoot, .int .i64 p1.fHour]] go_38 rfl (fun W2 hW2 => fire_Would_ok p0 (TLook.mk p4 p2 (TSpan.mk y10.1 y23.1.fSpan.fHi)) p1 y29 hy30 W2 A0_4 p0.fLooks.length c0_4 rfl ((RdL.arg hr0_4) W2 hW2)) rfl) ?_
                refine ox_y rfl (y_move_tuple rfl) ?_
                refine ox_y rfl (y_extract (vs := [.agg #[.int .i64 y29.1.fSpan.fLo, .int .i64 y29.1.fSpan.fHi, .int .i64 y29.1.fLow, .int .i64 y29.1.fHigh], .int .i64 y29.2]) (v := .agg #[.int .i64 y29.1.fSpan.fLo, .int .i64 y29.1.fSpan.fHi, .int .i64 y29.1.fLow, .int .i64 y29.1.fHigh]) rfl rfl) ?_
                refine ox_y rfl (y_extract (vs := [.agg #[.int .i64 y29.1.fSpan.fLo, .int .i64 y29.1.fSpan.fHi, .int .i64 y29.1.fLow, .int .i64 y29.1.fHigh], .int .i64 y29.2]) (v := .int .i64 y29.2) rfl rfl) ?_
                refine ox_alloc ze_36 rfl (fun b31 => ?_)
                try dsimp only [List.nil_append, List.cons_append, List.set_cons_zero, List.set_cons_succ]
                refine ox_n rfl (y_storeN 6 [.int .i64 y29.1.fSpan.fLo, .int .i64 y29.1.fSpan.fHi, .int .i64 y29.1.fLow, .int .i64 y29.1.fHigh] sz_36 rfl (Nat.le_of_ble_eq_true rfl) rfl rfl rfl) ?_
                refine ox_y rfl (y_assign_int rfl) ?_
                refine ox_nil ?_
                refine ex_then ?_
                refine cx_seq ?_
                refine cx_seq ?_
                refine cx_region ?_
                refine ox_y rfl (y_move_int rfl) ?_
                refine ox_y rfl (y_neq rfl rfl) ?_
                refine ox_nil ?_
                refine ex_then ?_
                rcases ite_some h with ⟨hp32, h⟩ | ⟨hp32, h⟩
                · refine cx_true (congrArg Value.bool hp32) ?_
                  refine cx_seq ?_
                  refine cx_region ?_
                  obtain ⟨y33, hy34, h⟩ := bind_some h
                  refine ox_y rfl (y_call [] go_13 rfl (fun W2 hW2 => calxlaw02_sanity_ok  y33 hy34 W2 ) rfl) ?_
                  refine ox_y rfl (y_move_bool rfl) ?_
                  refine ox_join 7 (fun tm0 => (upd (upd (upd (upd (upd (upd (upd (upd (upd (upd (upd tm0 3 (.int .i64 p3)) 4 (.int .i64 p4)) 5 (.pointer (some ⟨b1, 0, none⟩))) 6 (.pointer (some ⟨b2, 0, none⟩))) 7 (.pointer (some ⟨b3, 0, none⟩))) 10 (.bool false)) 11 (.int .i64 y10.1)) 14 (.slice A15 y13.1.length c16)) 16 (.pointer (some ⟨b25, 0, none⟩))) 18 (.pointer (some ⟨b31, 0, none⟩))) 100 (.bool (y33 && ((y29.2 == 1) || (y29.2 == 6)))))) (fun tm0 => ?_) (fun key => ?_)
                  · refine ox_y rfl (y_assign_bool rfl) ?_
                    refine ox_nil ?_
                    refine ex_then ?_
                    refine cx_ret ?_
                    refine ex_then_ret ?_
                    refine ex_then_ret ?_
                    obtain rfl := Option.some.inj h
                    exact ex_res1 (.inl rfl) rfl (resV_tmp (v := .bool (y33 && ((y29.2 == 1) || (y29.2 == 6)))) rfl) (fun W2 hW2 => ⟨rfl, hW2.none⟩)
                  · rcases bool_cases y33 with hp35 | hp35
                    · refine ox_y (sees_t rfl rfl rfl rfl hp35) (y_move_int rfl) ?_
                      refine ox_y (sees_t rfl rfl rfl rfl hp35) (y_eql rfl rfl) ?_
                      refine ox_y (sees_t rfl rfl rfl rfl hp35) (y_move_bool rfl) ?_
                      refine ox_join 3 (fun tm0 => (upd (upd (upd (upd (upd (upd (upd (upd (upd (upd (upd (upd tm0 3 (.int .i64 p3)) 4 (.int .i64 p4)) 5 (.pointer (some ⟨b1, 0, none⟩))) 6 (.pointer (some ⟨b2, 0, none⟩))) 7 (.pointer (some ⟨b3, 0, none⟩))) 10 (.bool false)) 11 (.int .i64 y10.1)) 14 (.slice A15 y13.1.length c16)) 16 (.pointer (some ⟨b25, 0, none⟩))) 18 (.pointer (some ⟨b31, 0, none⟩))) 93 (.bool y33)) 99 (.bool ((y29.2 == 1) || (y29.2 == 6))))) (fun tm0 => ?_) (fun key => ?_)
                      · refine ox_y rfl (y_pick_tb (congrArg Value.bool hp35) rfl) ?_
                        exact key _ _ (keep (keep (keep (keep (keep (keep (keep (keep (keep (keep (keep rfl rfl) rfl) rfl) rfl) rfl) rfl) rfl) rfl) rfl) rfl) (congrArg Value.bool (and_t hp35)))
                      · rcases bool_cases (y29.2 == 1) with hp36 | hp36
                        · refine ox_skip (sees_f rfl rfl rfl rfl hp36) ?_
                          refine ox_skip (sees_f rfl rfl rfl rfl hp36) ?_
                          refine ox_y (sees_t rfl rfl rfl rfl hp35) (y_pick_tb (congrArg Value.bool hp36) rfl) ?_
                          exact key _ _ (keep (keep (keep (keep (keep (keep (keep (keep (keep (keep (keep (keep rfl rfl) rfl) rfl) rfl) rfl) rfl) rfl) rfl) rfl) rfl) rfl) (congrArg Value.bool (or_t hp36)))
                        · refine ox_y (sees_t rfl rfl rfl rfl hp36) (y_move_int rfl) ?_
                          refine ox_y (sees_t rfl rfl rfl rfl hp36) (y_eql rfl rfl) ?_
                          refine ox_y (sees_t rfl rfl rfl rfl hp35) (y_pick_fb (congrArg Value.bool hp36) rfl) ?_
                          exact key _ _ (keep (keep (keep (keep (keep (keep (keep (keep (keep (keep (keep (keep rfl rfl) rfl) rfl) rfl) rfl) rfl) rfl) rfl) rfl) rfl) rfl) (congrArg Value.bool (or_f hp36)))
                    · refine ox_skip (sees_f rfl rfl rfl rfl hp35) ?_
                      refine ox_skip (sees_f rfl rfl rfl rfl hp35) ?_
                      refine ox_skip (sees_f rfl rfl rfl rfl hp35) ?_
                      refine ox_skip rfl ?_
                      refine ox_skip rfl ?_
                      refine ox_skip (sees_f rfl rfl rfl rfl hp35) ?_
                      refine ox_y rfl (y_pick_fb (congrArg Value.bool hp35) rfl) ?_
                      exact key _ _ (keep (keep (keep (keep (keep (keep (keep (keep (keep (keep (keep rfl rfl) rfl) rfl) rfl) rfl) rfl) rfl) rfl) rfl) rfl) (congrArg Value.bool (and_f hp35)))
                · refine cx_false (congrArg Value.bool hp32) ?_
                  refine cx_skip ?_
                  refine ex_then ?_
                  refine cx_seq ?_
                  refine cx_seq ?_
                  refine cx_region ?_
                  refine ox_y rfl (y_move_int rfl) ?_
                  refine ox_y rfl (y_fieldAddr fo_36_0 rfl) ?_
                  refine ox_y rfl (y_fieldAddr fo_32_0 rfl) ?_
                  refine ox_y rfl (y_load1 5 (v := .int .i64 y23.1.fSpan.fLo) sc_3 rfl rfl rfl) ?_
                  refine ox_y rfl (y_lss rfl rfl) ?_
                  refine ox_y rfl (y_move_bool rfl) ?_
                  refine ox_join 6 (fun tm0 => (upd (upd (upd (upd (upd (upd (upd (upd (upd (upd (upd tm0 3 (.int .i64 p3)) 4 (.int .i64 p4)) 5 (.pointer (some ⟨b1, 0, none⟩))) 6 (.pointer (some ⟨b2, 0, none⟩))) 7 (.pointer (some ⟨b3, 0, none⟩))) 10 (.bool false)) 11 (.int .i64 y10.1)) 14 (.slice A15 y13.1.length c16)) 16 (.pointer (some ⟨b25, 0, none⟩))) 18 (.pointer (some ⟨b31, 0, none⟩))) 112 (.bool ((decide (y10.1 < y23.1.fSpan.fLo)) || (decide (y23.1.fSpan.fHi < y10.1)))))) (fun tm0 => ?_) (fun key => ?_)
                  · refine ox_y rfl (y_move_bool rfl) ?_
                    refine ox_join 6 (fun tm0 => (upd (upd (upd (upd (upd (upd (upd (upd (upd (upd tm0 3 (.int .i64 p3)) 4 (.int .i64 p4)) 5 (.pointer (some ⟨b1, 0, none⟩))) 6 (.pointer (some ⟨b2, 0, none⟩))) 7 (.pointer (some ⟨b3, 0, none⟩))) 10 (.bool false)) 11 (.int .i64 y10.1)) 14 (.slice A15 y13.1.length c16)) 16 (.pointer (some ⟨b25, 0, none⟩))) 119 (.bool (((decide (y10.1 < y23.1.fSpan.fLo)) || (decide (y23.1.fSpan.fHi < y10.1))) || (decide (y29.1.fSpan.fLo < p3)))))) (fun tm0 => ?_) (fun key => ?_)
                    · refine ox_nil ?_
                      refine ex_then ?_
                      rcases ite_some h with ⟨hp39, h⟩ | ⟨hp39, h⟩
                      · refine cx_true (congrArg Value.bool hp39) ?_
                        refine cx_seq ?_
                        refine cx_region ?_
                        refine ox_y rfl (y_assign_bool rfl) ?_
                        refine ox_nil ?_
                        refine ex_then ?_
                        refine cx_ret ?_
                        refine ex_then_ret ?_
                        refine ex_then_ret ?_
                        obtain rfl := Option.some.inj h
                        exact ex_res1 (.inl rfl) rfl (resV_tmp (v := .bool false) rfl) (fun W2 hW2 => ⟨rfl, hW2.none⟩)
                      · refine cx_false (congrArg Value.bool hp39) ?_
                        refine cx_skip ?_
                        refine ex_then ?_
                        refine cx_seq ?_
                        refine cx_region ?_
                        refine ox_y rfl (y_move_int rfl) ?_
                        refine ox_y rfl (y_fieldAddr fo_36_0 rfl) ?_
                        refine ox_y rfl (y_fieldAddr fo_32_0 rfl) ?_
                        refine ox_y rfl (y_load1 5 (v := .int .i64 y23.1.fSpan.fLo) sc_3 rfl rfl rfl) ?_
                        refine ox_y rfl (y_gtr rfl rfl) ?_
                        refine ox_nil ?_
                        refine ex_then ?_
                        rcases ite_some h with ⟨hp40, h⟩ | ⟨hp40, h⟩
                        · refine cx_true (congrArg Value.bool hp40) ?_
                          refine cx_seq ?_
                          refine cx_region ?_
                          refine ox_y rfl (y_loadN 0 [.int .i64 p0.fRise, .int .i64 p0.fFall, .int .i64 p0.fUp, .int .i64 p0.fDown, .slice A0_4 p0.fLooks.length c0_4] ag_24 rfl rfl rfl) ?_
                          refine ox_y rfl (y_move_int rfl) ?_
                          refine ox_y rfl (y_loadN 2 [.int .i64 p2.fFoot, .int .i64 p2.fHour] ag_26 rfl rfl rfl) ?_
                          refine ox_y rfl (y_move_int rfl) ?_
                          refine ox_y rfl (y_sub rfl rfl) ?_
                          refine ox_y rfl (y_fieldAddr fo_36_0 rfl) ?_
                          refine ox_y rfl (y_fieldAddr fo_32_1 rfl) ?_
                          refine ox_y rfl (y_load1 5 (v := .int .i64 y23.1.fSpan.fHi) sc_3 rfl rfl rfl) ?_
                          refine ox_y rfl (y_buildS [.int .i64 (w64 (y10.1 - 1)), .int .i64 y23.1.fSpan.fHi] [(0, 1), (1, 1)] ust_32 ze_32 (by kernel_rfl)) ?_
                          refine ox_y rfl (y_buildS [.int .i64 p4, .int .i64 p2.fFoot, .int .i64 p2.fHour, .int .i64 (w64 (y10.1 - 1)), .int .i64 y23.1.fSpan.fHi] [(0, 1), (1, 2), (3, 2)] ust_34 ze_34 (by kernel_rfl)) ?_
                          refine ox_y rfl (y_loadN 1 [.int .i64 p1.fFoot, .int .i64 p1.fHour] ag_26 rfl rfl rfl) ?_
                          obtain ⟨y41, hy42, h⟩ := bind_some h
                          refine ox_y rfl (y_call [.agg #[.int .i64 p0.fRise, .int .i64 p0.fFall, .int .i64 p0.fUp, .int .i64 p0.fDown, .slice A0_4 p0.fLooks.length c0_4], .agg #[.int .i64 p4, .int .i64 p2.fFoot, .int .i64 p2.fHour, .int .i64 (w64 (y10.1 - 1)), .int .i64 y23.1.fSpan.fHi], .agg #[.int .i64 p1.fFoot, .int .i64 p1.fHour]] go_38 rfl (fun W2 hW2 => fire_Would_ok p0 (TLook.mk p4 p2 (TSpan.mk (w64 (y10.1 - 1)) y23.1.fSpan.fHi)) p1 y41 hy42 W2 A0_4 p0.fLooks.length c0_4 rfl ((RdL.arg hr0_4) W2 hW2)) rfl) ?_
                          refine ox_y rfl (y_move_tuple rfl) ?_
                          refine ox_y rfl (y_extract (vs := [.agg #[.int .i64 y41.1.fSpan.fLo, .int .i64 y41.1.fSpan.fHi, .int .i64 y41.1.fLow, .int .i64 y41.1.fHigh], .int .i64 y41.2]) (v := .agg #[.int .i64 y41.1.fSpan.fLo, .int .i64 y41.1.fSpan.fHi, .int .i64 y41.1.fLow, .int .i64 y41.1.fHigh]) rfl rfl) ?_
                          refine ox_y rfl (y_extract (vs := [.agg #[.int .i64 y41.1.fSpan.fLo, .int .i64 y41.1.fSpan.fHi, .int .i64 y41.1.fLow, .int .i64 y41.1.fHigh], .int .i64 y41.2]) (v := .int .i64 y41.2) rfl rfl) ?_
                          refine ox_alloc ze_36 rfl (fun b43 => ?_)
                          try dsimp only [List.nil_append, List.cons_append, List.set_cons_zero, List.set_cons_succ]
                          refine ox_n rfl (y_storeN 7 [.int .i64 y41.1.fSpan.fLo, .int .i64 y41.1.fSpan.fHi, .int .i64 y41.1.fLow, .int .i64 y41.1.fHigh] sz_36 rfl (Nat.le_of_ble_eq_true rfl) rfl rfl rfl) ?_
                          refine ox_y rfl (y_assign_int rfl) ?_
                          refine ox_nil ?_
                          refine ex_then ?_
                          refine cx_seq ?_
                          refine cx_region ?_
                          refine ox_y rfl (y_move_int rfl) ?_
                          refine ox_y rfl (y_neq rfl rfl) ?_
                          refine ox_y rfl (y_move_bool rfl) ?_
                          refine ox_join 6 (fun tm0 => (upd (upd (upd (upd (upd (upd (upd (upd (upd (upd tm0 3 (.int .i64 p3)) 4 (.int .i64 p4)) 5 (.pointer (some ⟨b1, 0, none⟩))) 6 (.pointer (some ⟨b2, 0, none⟩))) 7 (.pointer (some ⟨b3, 0, none⟩))) 10 (.bool false)) 11 (.int .i64 y10.1)) 14 (.slice A15 y13.1.length c16)) 16 (.pointer (some ⟨b25, 0, none⟩))) 148 (.bool ((y41.2 != 0) || (decide (p3 ≤ y41.1.fSpan.fLo)))))) (fun tm0 => ?_) (fun key => ?_)
                          · refine ox_nil ?_
                            refine ex_then ?_
                            rcases ite_some h with ⟨hp45, h⟩ | ⟨hp45, h⟩
                            · refine cx_true (congrArg Value.bool hp45) ?_
                              refine cx_seq ?_
                              refine cx_region ?_
                              refine ox_y rfl (y_assign_bool rfl) ?_
                              refine ox_nil ?_
                              refine ex_then ?_
                              refine cx_ret ?_
                              refine ex_then_ret ?_
                              obtain rfl := Option.some.inj h
                              exact ex_res1 (.inl rfl) rfl (resV_tmp (v := .bool false) rfl) (fun W2 hW2 => ⟨rfl, hW2.none⟩)
                            · refine cx_false (congrArg Value.bool hp45) ?_
                              refine cx_skip ?_
                              refine ex_then ?_
                              refine cx_seq ?_
                              refine cx_seq ?_
                              refine cx_region ?_
                              refine ox_y rfl (y_move_slice rfl) ?_
                              refine ox_y rfl (y_len (us := []) us_41 rfl) ?_
                              refine ox_y rfl (y_eql rfl rfl) ?_
                              refine ox_nil ?_
                              refine ex_then ?_
                              rcases ite_some h with ⟨hp46, h⟩ | ⟨hp46, h⟩
                              · refine cx_true (congrArg Value.bool hp46) ?_
                                refine cx_seq ?_
                                refine cx_region ?_
                                obtain ⟨y47, hy48, h⟩ := bind_some h
                                refine ox_y rfl (y_call [] go_13 rfl (fun W2 hW2 => calxlaw02_sanity_ok  y47 hy48 W2 ) rfl) ?_
                                refine ox_y rfl (y_assign_bool rfl) ?_
                                refine ox_nil ?_
                                refine ex_then ?_
                                refine cx_ret ?_
                                refine ex_then_ret ?_
                                obtain rfl := Option.some.inj h
                                exact ex_res1 (.inl rfl) rfl (resV_tmp (v := .bool y47) rfl) (fun W2 hW2 => ⟨rfl, hW2.none⟩)
                              · refine cx_false (congrArg Value.bool hp46) ?_
                                refine cx_skip ?_
                                refine ex_then ?_
                                refine cx_seq ?_
                                refine cx_region ?_
                                refine ox_y rfl (y_loadN 0 [.int .i64 p0.fRise, .int .i64 p0.fFall, .int .i64 p0.fUp, .int .i64 p0.fDown, .slice A0_4 p0.fLooks.length c0_4] ag_24 rfl rfl rfl) ?_
                                refine ox_y rfl (y_move_int rfl) ?_
                                refine ox_y rfl (y_loadN 2 [.int .i64 p2.fFoot, .int .i64 p2.fHour] ag_26 rfl rfl rfl) ?_
                                refine ox_y rfl (y_fieldAddr fo_36_0 rfl) ?_
                                refine ox_y rfl (y_fieldAddr fo_32_0 rfl) ?_
                                refine ox_y rfl (y_load1 5 (v := .int .i64 y23.1.fSpan.fLo) sc_3 rfl rfl rfl) ?_
                                refine ox_y rfl (y_fieldAddr fo_36_0 rfl) ?_
                                refine ox_y rfl (y_fieldAddr fo_32_0 rfl) ?_
                                refine ox_y rfl (y_load1 5 (v := .int .i64 y23.1.fSpan.fLo) sc_3 rfl rfl rfl) ?_
                                refine ox_y rfl (y_buildS [.int .i64 y23.1.fSpan.fLo, .int .i64 y23.1.fSpan.fLo] [(0, 1), (1, 1)] ust_32 ze_32 (by kernel_rfl)) ?_
                                refine ox_y rfl (y_buildS [.int .i64 p4, .int .i64 p2.fFoot, .int .i64 p2.fHour, .int .i64 y23.1.fSpan.fLo, .int .i64 y23.1.fSpan.fLo] [(0, 1), (1, 2), (3, 2)] ust_34 ze_34 (by kernel_rfl)) ?_
                                refine ox_y rfl (y_loadN 1 [.int .i64 p1.fFoot, .int .i64 p1.fHour] ag_26 rfl rfl rfl) ?_
                                obtain ⟨y49, hy50, h⟩ := bind_some h
                                refine ox_y rfl (y_call [.agg #[.int .i64 p0.fRise, .int .i64 p0.fFall, .int .i64 p0.fUp, .int .i64 p0.fDown, .slice A0_4 p0.fLooks.length c0_4], .agg #[.int .i64 p4, .int .i64 p2.fFoot, .int .i64 p2.fHour, .int .i64 y23.1.fSpan.fLo, .int .i64 y23.1.fSpan.fLo], .agg #[.int .i64 p1.fFoot, .int .i64 p1.fHour]] go_38 rfl (fun W2 hW2 => fire_Would_ok p0 (TLook.mk p4 p2 (TSpan.mk y23.1.fSpan.fLo y23.1.fSpan.fLo)) p1 y49 hy50 W2 A0_4 p0.fLooks.length c0_4 rfl ((RdL.arg hr0_4) W2 hW2)) rfl) ?_
                                refine ox_y rfl (y_move_tuple rfl) ?_
                                refine ox_y rfl (y_extract (vs := [.agg #[.int .i64 y49.1.fSpan.fLo, .int .i64 y49.1.fSpan.fHi, .int .i64 y49.1.fLow, .int .i64 y49.1.fHigh], .int .i64 y49.2]) (v := .agg #[.int .i64 y49.1.fSpan.fLo, .int .i64 y49.1.fSpan.fHi, .int .i64 y49.1.fLow, .int .i64 y49.1.fHigh]) rfl rfl) ?_
                                refine ox_y rfl (y_extract (vs := [.agg #[.int .i64 y49.1.fSpan.fLo, .int .i64 y49.1.fSpan.fHi, .int .i64 y49.1.fLow, .int .i64 y49.1.fHigh], .int .i64 y49.2]) (v := .int .i64 y49.2) rfl rfl) ?_
                                refine ox_alloc ze_36 rfl (fun b51 => ?_)
                                try dsimp only [List.nil_append, List.cons_append, List.set_cons_zero, List.set_cons_succ]
                                refine ox_n rfl (y_storeN 8 [.int .i64 y49.1.fSpan.fLo, .int .i64 y49.1.fSpan.fHi, .int .i64 y49.1.fLow, .int .i64 y49.1.fHigh] sz_36 rfl (Nat.le_of_ble_eq_true rfl) rfl rfl rfl) ?_
                                refine ox_y rfl (y_assign_int rfl) ?_
                                refine ox_nil ?_
                                refine ex_then ?_
                                refine cx_seq ?_
                                refine cx_region ?_
                                obtain ⟨y52, hy53, h⟩ := bind_some h
                                refine ox_y rfl (y_call [] go_13 rfl (fun W2 hW2 => calxlaw02_sanity_ok  y52 hy53 W2 ) rfl) ?_
                                refine ox_y rfl (y_move_bool rfl) ?_
                                refine ox_join 4 (fun tm0 => (upd (upd (upd (upd (upd (upd (upd (upd tm0 3 (.int .i64 p3)) 10 (.bool false)) 11 (.int .i64 y10.1)) 14 (.slice A15 y13.1.length c16)) 16 (.pointer (some ⟨b25, 0, none⟩))) 22 (.pointer (some ⟨b51, 0, none⟩))) 23 (.int .i64 y49.2)) 174 (.bool (y52 && (((y13.1.length : Nat) : Int) == 1))))) (fun tm0 => ?_) (fun key => ?_)
                                · refine ox_y rfl (y_move_bool rfl) ?_
                                  obtain ⟨b56, hb57, h⟩ := bind_some h
                                  refine ox_join 5 (fun tm0 => (upd (upd (upd (upd (upd (upd (upd tm0 3 (.int .i64 p3)) 10 (.bool false)) 11 (.int .i64 y10.1)) 16 (.pointer (some ⟨b25, 0, none⟩))) 22 (.pointer (some ⟨b51, 0, none⟩))) 23 (.int .i64 y49.2)) 180 (.bool b56))) (fun tm0 => ?_) (fun key => ?_)
                                  · refine ox_y rfl (y_move_bool rfl) ?_
                                    refine ox_join 6 (fun tm0 => (upd (upd (upd (upd (upd tm0 3 (.int .i64 p3)) 10 (.bool false)) 22 (.pointer (some ⟨b51, 0, none⟩))) 23 (.int .i64 y49.2)) 187 (.bool (b56 && (decide (y23.1.fSpan.fLo < y10.1)))))) (fun tm0 => ?_) (fun key => ?_)
                                    · refine ox_y rfl (y_move_bool rfl) ?_
                                      refine ox_join 3 (fun tm0 => (upd (upd (upd (upd tm0 3 (.int .i64 p3)) 10 (.bool false)) 22 (.pointer (some ⟨b51, 0, none⟩))) 191 (.bool ((b56 && (decide (y23.1.fSpan.fLo < y10.1))) && (y49.2 == 0))))) (fun tm0 => ?_) (fun key => ?_)
                                      · refine ox_y rfl (y_move_bool rfl) ?_
                                        refine ox_join 6 (fun tm0 => (upd (upd tm0 10 (.bool false)) 198 (.bool (((b56 && (decide (y23.1.fSpan.fLo < y10.1))) && (y49.2 == 0)) && (decide (y49.1.fSpan.fHi < p3)))))) (fun tm0 => ?_) (fun key => ?_)
                                        · refine ox_y rfl (y_assign_bool rfl) ?_
                                          refine ox_nil ?_
                                          refine ex_then ?_
                                          refine cx_ret ?_
                                          obtain rfl := Option.some.inj h
                                          exact ex_res1 (.inl rfl) rfl (resV_tmp (v := .bool (((b56 && (decide (y23.1.fSpan.fLo < y10.1))) && (y49.2 == 0)) && (decide (y49.1.fSpan.fHi < p3)))) rfl) (fun W2 hW2 => ⟨rfl, hW2.none⟩)
                                        · rcases bool_cases ((b56 && (decide (y23.1.fSpan.fLo < y10.1))) && (y49.2 == 0)) with hp60 | hp60
                                          · refine ox_y (sees_t rfl rfl rfl rfl hp60) (y_fieldAddr fo_36_0 rfl) ?_
                                            refine ox_y (sees_t rfl rfl rfl rfl hp60) (y_fieldAddr fo_32_1 rfl) ?_
                                            refine ox_y (sees_t rfl rfl rfl rfl hp60) (y_load1 8 (v := .int .i64 y49.1.fSpan.fHi) sc_3 rfl rfl rfl) ?_
                                            refine ox_y (sees_t rfl rfl rfl rfl hp60) (y_move_int rfl) ?_
                                            refine ox_y (sees_t rfl rfl rfl rfl hp60) (y_lss rfl rfl) ?_
                                            refine ox_y rfl (y_pick_tb (congrArg Value.bool hp60) rfl) ?_
                                            exact key _ _ (keep (keep rfl rfl) (congrArg Value.bool (and_t hp60)))
                                          · refine ox_skip (sees_f rfl rfl rfl rfl hp60) ?_
                                            refine ox_skip (sees_f rfl rfl rfl rfl hp60) ?_
                                            refine ox_skip (sees_f rfl rfl rfl rfl hp60) ?_
                                            refine ox_skip (sees_f rfl rfl rfl rfl hp60) ?_
                                            refine ox_skip (sees_f rfl rfl rfl rfl hp60) ?_
                                            refine ox_y rfl (y_pick_fb (congrArg Value.bool hp60) rfl) ?_
                                            exact key _ _ (keep (keep rfl rfl) (congrArg Value.bool (and_f hp60)))
                                      · rcases bool_cases (b56 && (decide (y23.1.fSpan.fLo < y10.1))) with hp59 | hp59
                                        · refine ox_y (sees_t rfl rfl rfl rfl hp59) (y_move_int rfl) ?_
                                          refine ox_y (sees_t rfl rfl rfl rfl hp59) (y_eql rfl rfl) ?_
                                          refine ox_y rfl (y_pick_tb (congrArg Value.bool hp59) rfl) ?_
                                          exact key _ _ (keep (keep (keep (keep rfl rfl) rfl) rfl) (congrArg Value.bool (and_t hp59)))
                                        · refine ox_skip (sees_f rfl rfl rfl rfl hp59) ?_
                                          refine ox_skip (sees_f rfl rfl rfl rfl hp59) ?_
                                          refine ox_y rfl (y_pick_fb (congrArg Value.bool hp59) rfl) ?_
                                          exact key _ _ (keep (keep (keep (keep rfl rfl) rfl) rfl) (congrArg Value.bool (and_f hp59)))
                                    · rcases bool_cases b56 with hp58 | hp58
                                      · refine ox_y (sees_t rfl rfl rfl rfl hp58) (y_move_int rfl) ?_
                                        refine ox_y (sees_t rfl rfl rfl rfl hp58) (y_fieldAddr fo_36_0 rfl) ?_
                                        refine ox_y (sees_t rfl rfl rfl rfl hp58) (y_fieldAddr fo_32_0 rfl) ?_
                                        refine ox_y (sees_t rfl rfl rfl rfl hp58) (y_load1 5 (v := .int .i64 y23.1.fSpan.fLo) sc_3 rfl rfl rfl) ?_
                                        refine ox_y (sees_t rfl rfl rfl rfl hp58) (y_gtr rfl rfl) ?_
                                        refine ox_y rfl (y_pick_tb (congrArg Value.bool hp58) rfl) ?_
                                        exact key _ _ (keep (keep (keep (keep (keep rfl rfl) rfl) rfl) rfl) (congrArg Value.bool (and_t hp58)))
                                      · refine ox_skip (sees_f rfl rfl rfl rfl hp58) ?_
                                        refine ox_skip (sees_f rfl rfl rfl rfl hp58) ?_
                                        refine ox_skip (sees_f rfl rfl rfl rfl hp58) ?_
                                        refine ox_skip (sees_f rfl rfl rfl rfl hp58) ?_
                                        refine ox_skip (sees_f rfl rfl rfl rfl hp58) ?_
                                        refine ox_y rfl (y_pick_fb (congrArg Value.bool hp58) rfl) ?_
                                        exact key _ _ (keep (keep (keep (keep (keep rfl rfl) rfl) rfl) rfl) (congrArg Value.bool (and_f hp58)))
                                  · clear h; rcases ite_some hb57 with ⟨hp55, h⟩ | ⟨hp55, h⟩
                                    · refine ox_y (sees_t rfl rfl rfl rfl hp55) (y_move_slice rfl) ?_
                                      obtain ⟨hg61, h⟩ := guardO_some h
                                      refine ox_y (sees_t rfl rfl rfl rfl hp55) (y_indexR sl_41 (by decide) hg61.1 hg61.2 (RdL.row 4 rfl) (encL_len cI_len rfl) rfl rfl) ?_
                                      refine ox_y (sees_t rfl rfl rfl rfl hp55) (y_loadR1 (A := A15) (j := (Int.toNat 0 * 1)) (v := .int .i64 (rdL y13.1 0)) sc_3 (RdL.row 4 rfl) rfl (encL_get0 cI_len hg61.1 (lt_nat hg61.2 rfl) rfl)) ?_
                                      refine ox_y (sees_t rfl rfl rfl rfl hp55) (y_eql rfl rfl) ?_
                                      refine ox_y rfl (y_pick_tb (congrArg Value.bool hp55) rfl) ?_
                                      obtain rfl := Option.some.inj h
                                      exact key _ _ (keep (keep (keep (keep (keep (keep (keep rfl rfl) rfl) rfl) rfl) rfl) rfl) rfl)
                                    · refine ox_skip (sees_f rfl rfl rfl rfl hp55) ?_
                                      refine ox_skip (sees_f rfl rfl rfl rfl hp55) ?_
                                      refine ox_skip (sees_f rfl rfl rfl rfl hp55) ?_
                                      refine ox_skip (sees_f rfl rfl rfl rfl hp55) ?_
                                      refine ox_y rfl (y_pick_fb (congrArg Value.bool hp55) rfl) ?_
                                      obtain rfl := Option.some.inj h
                                      exact key _ _ (keep (keep (keep (keep (keep (keep (keep rfl rfl) rfl) rfl) rfl) rfl) rfl) rfl)
                                · rcases bool_cases y52 with hp54 | hp54
                                  · refine ox_y (sees_t rfl rfl rfl rfl hp54) (y_move_slice rfl) ?_
                                    refine ox_y (sees_t rfl rfl rfl rfl hp54) (y_len (us := []) us_41 rfl) ?_
                                    refine ox_y (sees_t rfl rfl rfl rfl hp54) (y_eql rfl rfl) ?_
                                    refine ox_y rfl (y_pick_tb (congrArg Value.bool hp54) rfl) ?_
                                    exact key _ _ (keep (keep (keep (keep (keep (keep (keep (keep rfl rfl) rfl) rfl) rfl) rfl) rfl) rfl) (congrArg Value.bool (and_t hp54)))
                                  · refine ox_skip (sees_f rfl rfl rfl rfl hp54) ?_
                                    refine ox_skip (sees_f rfl rfl rfl rfl hp54) ?_
                                    refine ox_skip (sees_f rfl rfl rfl rfl hp54) ?_
                                    refine ox_y rfl (y_pick_fb (congrArg Value.bool hp54) rfl) ?_
                                    exact key _ _ (keep (keep (keep (keep (keep (keep (keep (keep rfl rfl) rfl) rfl) rfl) rfl) rfl) rfl) (congrArg Value.bool (and_f hp54)))
                          · rcases bool_cases (y41.2 != 0) with hp44 | hp44
                            · refine ox_skip (sees_f rfl rfl rfl rfl hp44) ?_
                              refine ox_skip (sees_f rfl rfl rfl rfl hp44) ?_
                              refine ox_skip (sees_f rfl rfl rfl rfl hp44) ?_
                              refine ox_skip (sees_f rfl rfl rfl rfl hp44) ?_
                              refine ox_skip (sees_f rfl rfl rfl rfl hp44) ?_
                              refine ox_y rfl (y_pick_tb (congrArg Value.bool hp44) rfl) ?_
                              exact key _ _ (keep (keep (keep (keep (keep (keep (keep (keep (keep (keep rfl rfl) rfl) rfl) rfl) rfl) rfl) rfl) rfl) rfl) (congrArg Value.bool (or_t hp44)))
                            · refine ox_y (sees_t rfl rfl rfl rfl hp44) (y_fieldAddr fo_36_0 rfl) ?_
                              refine ox_y (sees_t rfl rfl rfl rfl hp44) (y_fieldAddr fo_32_0 rfl) ?_
                              refine ox_y (sees_t rfl rfl rfl rfl hp44) (y_load1 7 (v := .int .i64 y41.1.fSpan.fLo) sc_3 rfl rfl rfl) ?_
                              refine ox_y (sees_t rfl rfl rfl rfl hp44) (y_move_int rfl) ?_
                              refine ox_y (sees_t rfl rfl rfl rfl hp44) (y_geq rfl rfl) ?_
                              refine ox_y rfl (y_pick_fb (congrArg Value.bool hp44) rfl) ?_
                              exact key _ _ (keep (keep (keep (keep (keep (keep (keep (keep (keep (keep rfl rfl) rfl) rfl) rfl) rfl) rfl) rfl) rfl) rfl) (congrArg Value.bool (or_f hp44)))
                        · refine cx_false (congrArg Value.bool hp40) ?_
                          refine cx_skip ?_
                          refine ex_then ?_
                          refine cx_seq ?_
                          refine cx_seq ?_
                          refine cx_region ?_
                          refine ox_y rfl (y_move_slice rfl) ?_
                          refine ox_y rfl (y_len (us := []) us_41 rfl) ?_
                          refine ox_y rfl (y_eql rfl rfl) ?_
                          refine ox_nil ?_
                          refine ex_then ?_
                          rcases ite_some h with ⟨hp62, h⟩ | ⟨hp62, h⟩
                          · refine cx_true (congrArg Value.bool hp62) ?_
                            refine cx_seq ?_
                            refine cx_region ?_
                            obtain ⟨y63, hy64, h⟩ := bind_some h
                            refine ox_y rfl (y_call [] go_13 rfl (fun W2 hW2 => calxlaw02_sanity_ok  y63 hy64 W2 ) rfl) ?_
                            refine ox_y rfl (y_assign_bool rfl) ?_
                            refine ox_nil ?_
                            refine ex_then ?_
                            refine cx_ret ?_
                            refine ex_then_ret ?_
                            obtain rfl := Option.some.inj h
                            exact ex_res1 (.inl rfl) rfl (resV_tmp (v := .bool y63) rfl) (fun W2 hW2 => ⟨rfl, hW2.none⟩)
                          · refine cx_false (congrArg Value.bool hp62) ?_
                            refine cx_skip ?_
                            refine ex_then ?_
                            refine cx_seq ?_
                            refine cx_region ?_
                            refine ox_y rfl (y_loadN 0 [.int .i64 p0.fRise, .int .i64 p0.fFall, .int .i64 p0.fUp, .int .i64 p0.fDown, .slice A0_4 p0.fLooks.length c0_4] ag_24 rfl rfl rfl) ?_
                            refine ox_y rfl (y_move_int rfl) ?_
                            refine ox_y rfl (y_loadN 2 [.int .i64 p2.fFoot, .int .i64 p2.fHour] ag_26 rfl rfl rfl) ?_
                            refine ox_y rfl (y_fieldAddr fo_36_0 rfl) ?_
                            refine ox_y rfl (y_fieldAddr fo_32_0 rfl) ?_
                            refine ox_y rfl (y_load1 5 (v := .int .i64 y23.1.fSpan.fLo) sc_3 rfl rfl rfl) ?_
                            refine ox_y rfl (y_fieldAddr fo_36_0 rfl) ?_
                            refine ox_y rfl (y_fieldAddr fo_32_0 rfl) ?_
                            refine ox_y rfl (y_load1 5 (v := .int .i64 y23.1.fSpan.fLo) sc_3 rfl rfl rfl) ?_
                            refine ox_y rfl (y_buildS [.int .i64 y23.1.fSpan.fLo, .int .i64 y23.1.fSpan.fLo] [(0, 1), (1, 1)] ust_32 ze_32 (by kernel_rfl)) ?_
                            refine ox_y rfl (y_buildS [.int .i64 p4, .int .i64 p2.fFoot, .int .i64 p2.fHour, .int .i64 y23.1.fSpan.fLo, .int .i64 y23.1.fSpan.fLo] [(0, 1), (1, 2), (3, 2)] ust_34 ze_34 (by kernel_rfl)) ?_
                            refine ox_y rfl (y_loadN 1 [.int .i64 p1.fFoot, .int .i64 p1.fHour] ag_26 rfl rfl rfl) ?_
                            obtain ⟨y65, hy66, h⟩ := bind_some h
                            refine ox_y rfl (y_call [.agg #[.int .i64 p0.fRise, .int .i64 p0.fFall, .int .i64 p0.fUp, .int .i64 p0.fDown, .slice A0_4 p0.fLooks.length c0_4], .agg #[.int .i64 p4, .int .i64 p2.fFoot, .int .i64 p2.fHour, .int .i64 y23.1.fSpan.fLo, .int .i64 y23.1.fSpan.fLo], .agg #[.int .i64 p1.fFoot, .int .i64 p1.fHour]] go_38 rfl (fun W2 hW2 => fire_Would_ok p0 (TLook.mk p4 p2 (TSpan.mk y23.1.fSpan.fLo y23.1.fSpan.fLo)) p1 y65 hy66 W2 A0_4 p0.fLooks.length c0_4 rfl ((RdL.arg hr0_4) W2 hW2)) rfl) ?_
                            refine ox_y rfl (y_move_tuple rfl) ?_
                            refine ox_y rfl (y_extract (vs := [.agg #[.int .i64 y65.1.fSpan.fLo, .int .i64 y65.1.fSpan.fHi, .int .i64 y65.1.fLow, .int .i64 y65.1.fHigh], .int .i64 y65.2]) (v := .agg #[.int .i64 y65.1.fSpan.fLo, .int .i64 y65.1.fSpan.fHi, .int .i64 y65.1.fLow, .int .i64 y65.1.fHigh]) rfl rfl) ?_
                            refine ox_y rfl (y_extract (vs := [.agg #[.int .i64 y65.1.fSpan.fLo, .int .i64 y65.1.fSpan.fHi, .int .i64 y65.1.fLow, .int .i64 y65.1.fHigh], .int .i64 y65.2]) (v := .int .i64 y65.2) rfl rfl) ?_
                            refine ox_alloc ze_36 rfl (fun b67 => ?_)
                            try dsimp only [List.nil_append, List.cons_append, List.set_cons_zero, List.set_cons_succ]
                            refine ox_n rfl (y_storeN 7 [.int .i64 y65.1.fSpan.fLo, .int .i64 y65.1.fSpan.fHi, .int .i64 y65.1.fLow, .int .i64 y65.1.fHigh] sz_36 rfl (Nat.le_of_ble_eq_true rfl) rfl rfl rfl) ?_
                            refine ox_y rfl (y_assign_int rfl) ?_
                            refine ox_nil ?_
                            refine ex_then ?_
                            refine cx_seq ?_
                            refine cx_region ?_
                            obtain ⟨y68, hy69, h⟩ := bind_some h
                            refine ox_y rfl (y_call [] go_13 rfl (fun W2 hW2 => calxlaw02_sanity_ok  y68 hy69 W2 ) rfl) ?_
                            refine ox_y rfl (y_move_bool rfl) ?_
                            refine ox_join 4 (fun tm0 => (upd (upd (upd (upd (upd (upd (upd (upd tm0 3 (.int .i64 p3)) 10 (.bool false)) 11 (.int .i64 y10.1)) 14 (.slice A15 y13.1.length c16)) 16 (.pointer (some ⟨b25, 0, none⟩))) 22 (.pointer (some ⟨b67, 0, none⟩))) 23 (.int .i64 y65.2)) 174 (.bool (y68 && (((y13.1.length : Nat) : Int) == 1))))) (fun tm0 => ?_) (fun key => ?_)
                            · refine ox_y rfl (y_move_bool rfl) ?_
                              obtain ⟨b72, hb73, h⟩ := bind_some h
                              refine ox_join 5 (fun tm0 => (upd (upd (upd (upd (upd (upd (upd tm0 3 (.int .i64 p3)) 10 (.bool false)) 11 (.int .i64 y10.1)) 16 (.pointer (some ⟨b25, 0, none⟩))) 22 (.pointer (some ⟨b67, 0, none⟩))) 23 (.int .i64 y65.2)) 180 (.bool b72))) (fun tm0 => ?_) (fun key => ?_)
                              · refine ox_y rfl (y_move_bool rfl) ?_
                                refine ox_join 6 (fun tm0 => (upd (upd (upd (upd (upd tm0 3 (.int .i64 p3)) 10 (.bool false)) 22 (.pointer (some ⟨b67, 0, none⟩))) 23 (.int .i64 y65.2)) 187 (.bool (b72 && (decide (y23.1.fSpan.fLo < y10.1)))))) (fun tm0 => ?_) (fun key => ?_)
                                · refine ox_y rfl (y_move_bool rfl) ?_
                                  refine ox_join 3 (fun tm0 => (upd (upd (upd (upd tm0 3 (.int .i64 p3)) 10 (.bool false)) 22 (.pointer (some ⟨b67, 0, none⟩))) 191 (.bool ((b72 && (decide (y23.1.fSpan.fLo < y10.1))) && (y65.2 == 0))))) (fun tm0 => ?_) (fun key => ?_)
                                  · refine ox_y rfl (y_move_bool rfl) ?_
                                    refine ox_join 6 (fun tm0 => (upd (upd tm0 10 (.bool false)) 198 (.bool (((b72 && (decide (y23.1.fSpan.fLo < y10.1))) && (y65.2 == 0)) && (decide (y65.1.fSpan.fHi < p3)))))) (fun tm0 => ?_) (fun key => ?_)
                                    · refine ox_y rfl (y_assign_bool rfl) ?_
                                      refine ox_nil ?_
                                      refine ex_then ?_
                                      refine cx_ret ?_
                                      obtain rfl := Option.some.inj h
                                      exact ex_res1 (.inl rfl) rfl (resV_tmp (v := .bool (((b72 && (decide (y23.1.fSpan.fLo < y10.1))) && (y65.2 == 0)) && (decide (y65.1.fSpan.fHi < p3)))) rfl) (fun W2 hW2 => ⟨rfl, hW2.none⟩)
                                    · rcases bool_cases ((b72 && (decide (y23.1.fSpan.fLo < y10.1))) && (y65.2 == 0)) with hp76 | hp76
                                      · refine ox_y (sees_t rfl rfl rfl rfl hp76) (y_fieldAddr fo_36_0 rfl) ?_
                                        refine ox_y (sees_t rfl rfl rfl rfl hp76) (y_fieldAddr fo_32_1 rfl) ?_
                                        refine ox_y (sees_t rfl rfl rfl rfl hp76) (y_load1 7 (v := .int .i64 y65.1.fSpan.fHi) sc_3 rfl rfl rfl) ?_
                                        refine ox_y (sees_t rfl rfl rfl rfl hp76) (y_move_int rfl) ?_
                                        refine ox_y (sees_t rfl rfl rfl rfl hp76) (y_lss rfl rfl) ?_
                                        refine ox_y rfl (y_pick_tb (congrArg Value.bool hp76) rfl) ?_
                                        exact key _ _ (keep (keep rfl rfl) (congrArg Value.bool (and_t hp76)))
                                      · refine ox_skip (sees_f rfl rfl rfl rfl hp76) ?_
                                        refine ox_skip (sees_f rfl rfl rfl rfl hp76) ?_
                                        refine ox_skip (sees_f rfl rfl rfl rfl hp76) ?_
                                        refine ox_skip (sees_f rfl rfl rfl rfl hp76) ?_
                                        refine ox_skip (sees_f rfl rfl rfl rfl hp76) ?_
                                        refine ox_y rfl (y_pick_fb (congrArg Value.bool hp76) rfl) ?_
                                        exact key _ _ (keep (keep rfl rfl) (congrArg Value.bool (and_f hp76)))
                                  · rcases bool_cases (b72 && (decide (y23.1.fSpan.fLo < y10.1))) with hp75 | hp75
                                    · refine ox_y (sees_t rfl rfl rfl rfl hp75) (y_move_int rfl) ?_
                                      refine ox_y (sees_t rfl rfl rfl rfl hp75) (y_eql rfl rfl) ?_
                                      refine ox_y rfl (y_pick_tb (congrArg Value.bool hp75) rfl) ?_
                                      exact key _ _ (keep (keep (keep (keep rfl rfl) rfl) rfl) (congrArg Value.bool (and_t hp75)))
                                    · refine ox_skip (sees_f rfl rfl rfl rfl hp75) ?_
                                      refine ox_skip (sees_f rfl rfl rfl rfl hp75) ?_
                                      refine ox_y rfl (y_pick_fb (congrArg Value.bool hp75) rfl) ?_
                                      exact key _ _ (keep (keep (keep (keep rfl rfl) rfl) rfl) (congrArg Value.bool (and_f hp75)))
                                · rcases bool_cases b72 with hp74 | hp74
                                  · refine ox_y (sees_t rfl rfl rfl rfl hp74) (y_move_int rfl) ?_
                                    refine ox_y (sees_t rfl rfl rfl rfl hp74) (y_fieldAddr fo_36_0 rfl) ?_
                                    refine ox_y (sees_t rfl rfl rfl rfl hp74) (y_fieldAddr fo_32_0 rfl) ?_
                                    refine ox_y (sees_t rfl rfl rfl rfl hp74) (y_load1 5 (v := .int .i64 y23.1.fSpan.fLo) sc_3 rfl rfl rfl) ?_
                                    refine ox_y (sees_t rfl rfl rfl rfl hp74) (y_gtr rfl rfl) ?_
                                    refine ox_y rfl (y_pick_tb (congrArg Value.bool hp74) rfl) ?_
                                    exact key _ _ (keep (keep (keep (keep (keep rfl rfl) rfl) rfl) rfl) (congrArg Value.bool (and_t hp74)))
                                  · refine ox_skip (sees_f rfl rfl rfl rfl hp74) ?_
                                    refine ox_skip (sees_f rfl rfl rfl rfl hp74) ?_
                                    refine ox_skip (sees_f rfl rfl rfl rfl hp74) ?_
                                    refine ox_skip (sees_f rfl rfl rfl rfl hp74) ?_
                                    refine ox_skip (sees_f rfl rfl rfl rfl hp74) ?_
                                    refine ox_y rfl (y_pick_fb (congrArg Value.bool hp74) rfl) ?_
                                    exact key _ _ (keep (keep (keep (keep (keep rfl rfl) rfl) rfl) rfl) (congrArg Value.bool (and_f hp74)))
                              · clear h; rcases ite_some hb73 with ⟨hp71, h⟩ | ⟨hp71, h⟩
                                · refine ox_y (sees_t rfl rfl rfl rfl hp71) (y_move_slice rfl) ?_
                                  obtain ⟨hg77, h⟩ := guardO_some h
                                  refine ox_y (sees_t rfl rfl rfl rfl hp71) (y_indexR sl_41 (by decide) hg77.1 hg77.2 (RdL.row 4 rfl) (encL_len cI_len rfl) rfl rfl) ?_
                                  refine ox_y (sees_t rfl rfl rfl rfl hp71) (y_loadR1 (A := A15) (j := (Int.toNat 0 * 1)) (v := .int .i64 (rdL y13.1 0)) sc_3 (RdL.row 4 rfl) rfl (encL_get0 cI_len hg77.1 (lt_nat hg77.2 rfl) rfl)) ?_
                                  refine ox_y (sees_t rfl rfl rfl rfl hp71) (y_eql rfl rfl) ?_
                                  refine ox_y rfl (y_pick_tb (congrArg Value.bool hp71) rfl) ?_
                                  obtain rfl := Option.some.inj h
                                  exact key _ _ (keep (keep (keep (keep (keep (keep (keep rfl rfl) rfl) rfl) rfl) rfl) rfl) rfl)
                                · refine ox_skip (sees_f rfl rfl rfl rfl hp71) ?_
                                  refine ox_skip (sees_f rfl rfl rfl rfl hp71) ?_
                                  refine ox_skip (sees_f rfl rfl rfl rfl hp71) ?_
                                  refine ox_skip (sees_f rfl rfl rfl rfl hp71) ?_
                                  refine ox_y rfl (y_pick_fb (congrArg Value.bool hp71) rfl) ?_
                                  obtain rfl := Option.some.inj h
                                  exact key _ _ (keep (keep (keep (keep (keep (keep (keep rfl rfl) rfl) rfl) rfl) rfl) rfl) rfl)
                            · rcases bool_cases y68 with hp70 | hp70
                              · refine ox_y (sees_t rfl rfl rfl rfl hp70) (y_move_slice rfl) ?_
                                refine ox_y (sees_t rfl rfl rfl rfl hp70) (y_len (us := []) us_41 rfl) ?_
                                refine ox_y (sees_t rfl rfl rfl rfl hp70) (y_eql rfl rfl) ?_
                                refine ox_y rfl (y_pick_tb (congrArg Value.bool hp70) rfl) ?_
                                exact key _ _ (keep (keep (keep (keep (keep (keep (keep (keep rfl rfl) rfl) rfl) rfl) rfl) rfl) rfl) (congrArg Value.bool (and_t hp70)))
                              · refine ox_skip (sees_f rfl rfl rfl rfl hp70) ?_
                                refine ox_skip (sees_f rfl rfl rfl rfl hp70) ?_
                                refine ox_skip (sees_f rfl rfl rfl rfl hp70) ?_
                                refine ox_y rfl (y_pick_fb (congrArg Value.bool hp70) rfl) ?_
                                exact key _ _ (keep (keep (keep (keep (keep (keep (keep (keep rfl rfl) rfl) rfl) rfl) rfl) rfl) rfl) (congrArg Value.bool (and_f hp70)))
                    · rcases bool_cases ((decide (y10.1 < y23.1.fSpan.fLo)) || (decide (y23.1.fSpan.fHi < y10.1))) with hp38 | hp38
                      · refine ox_skip (sees_f rfl rfl rfl rfl hp38) ?_
                        refine ox_skip (sees_f rfl rfl rfl rfl hp38) ?_
                        refine ox_skip (sees_f rfl rfl rfl rfl hp38) ?_
                        refine ox_skip (sees_f rfl rfl rfl rfl hp38) ?_
                        refine ox_skip (sees_f rfl rfl rfl rfl hp38) ?_
                        refine ox_y rfl (y_pick_tb (congrArg Value.bool hp38) rfl) ?_
                        exact key _ _ (keep (keep (keep (keep (keep (keep (keep (keep (keep (keep rfl rfl) rfl) rfl) rfl) rfl) rfl) rfl) rfl) rfl) (congrArg Value.bool (or_t hp38)))
                      · refine ox_y (sees_t rfl rfl rfl rfl hp38) (y_fieldAddr fo_36_0 rfl) ?_
                        refine ox_y (sees_t rfl rfl rfl rfl hp38) (y_fieldAddr fo_32_0 rfl) ?_
                        refine ox_y (sees_t rfl rfl rfl rfl hp38) (y_load1 6 (v := .int .i64 y29.1.fSpan.fLo) sc_3 rfl rfl rfl) ?_
                        refine ox_y (sees_t rfl rfl rfl rfl hp38) (y_move_int rfl) ?_
                        refine ox_y (sees_t rfl rfl rfl rfl hp38) (y_lss rfl rfl) ?_
                        refine ox_y rfl (y_pick_fb (congrArg Value.bool hp38) rfl) ?_
                        exact key _ _ (keep (keep (keep (keep (keep (keep (keep (keep (keep (keep rfl rfl) rfl) rfl) rfl) rfl) rfl) rfl) rfl) rfl) (congrArg Value.bool (or_f hp38)))
                  · rcases bool_cases (decide (y10.1 < y23.1.fSpan.fLo)) with hp37 | hp37
                    · refine ox_skip (sees_f rfl rfl rfl rfl hp37) ?_
                      refine ox_skip (sees_f rfl rfl rfl rfl hp37) ?_
                      refine ox_skip (sees_f rfl rfl rfl rfl hp37) ?_
                      refine ox_skip (sees_f rfl rfl rfl rfl hp37) ?_
                      refine ox_skip (sees_f rfl rfl rfl rfl hp37) ?_
                      refine ox_y rfl (y_pick_tb (congrArg Value.bool hp37) rfl) ?_
                      exact key _ _ (keep (keep (keep (keep (keep (keep (keep (keep (keep (keep (keep rfl rfl) rfl) rfl) rfl) rfl) rfl) rfl) rfl) rfl) rfl) (congrArg Value.bool (or_t hp37)))
                    · refine ox_y (sees_t rfl rfl rfl rfl hp37) (y_move_int rfl) ?_
                      refine ox_y (sees_t rfl rfl rfl rfl hp37) (y_fieldAddr fo_36_0 rfl) ?_
                      refine ox_y (sees_t rfl rfl rfl rfl hp37) (y_fieldAddr fo_32_1 rfl) ?_
                      refine ox_y (sees_t rfl rfl rfl rfl hp37) (y_load1 5 (v := .int .i64 y23.1.fSpan.fHi) sc_3 rfl rfl rfl) ?_
                      refine ox_y (sees_t rfl rfl rfl rfl hp37) (y_gtr rfl rfl) ?_
                      refine ox_y rfl (y_pick_fb (congrArg Value.bool hp37) rfl) ?_
                      exact key _ _ (keep (keep (keep (keep (keep (keep (keep (keep (keep (keep (keep rfl rfl) rfl) rfl) rfl) rfl) rfl) rfl) rfl) rfl) rfl) (congrArg Value.bool (or_f hp37)))
              · refine cx_false (congrArg Value.bool hp28) ?_
                refine cx_skip ?_
                refine ex_then ?_
                refine cx_seq ?_
                refine cx_seq ?_
                refine cx_region ?_
                refine ox_y rfl (y_move_slice rfl) ?_
                refine ox_y rfl (y_len (us := []) us_41 rfl) ?_
                refine ox_y rfl (y_eql rfl rfl) ?_
                refine ox_nil ?_
                refine ex_then ?_
                rcases ite_some h with ⟨hp78, h⟩ | ⟨hp78, h⟩
                · refine cx_true (congrArg Value.bool hp78) ?_
                  refine cx_seq ?_
                  refine cx_region ?_
                  obtain ⟨y79, hy80, h⟩ := bind_some h
                  refine ox_y rfl (y_call [] go_13 rfl (fun W2 hW2 => calxlaw02_sanity_ok  y79 hy80 W2 ) rfl) ?_
                  refine ox_y rfl (y_assign_bool rfl) ?_
                  refine ox_nil ?_
                  refine ex_then ?_
                  refine cx_ret ?_
                  refine ex_then_ret ?_
                  obtain rfl := Option.some.inj h
                  exact ex_res1 (.inl rfl) rfl (resV_tmp (v := .bool y79) rfl) (fun W2 hW2 => ⟨rfl, hW2.none⟩)
                · refine cx_false (congrArg Value.bool hp78) ?_
                  refine cx_skip ?_
                  refine ex_then ?_
                  refine cx_seq ?_
                  refine cx_region ?_
                  refine ox_y rfl (y_loadN 0 [.int .i64 p0.fRise, .int .i64 p0.fFall, .int .i64 p0.fUp, .int .i64 p0.fDown, .slice A0_4 p0.fLooks.length c0_4] ag_24 rfl rfl rfl) ?_
                  refine ox_y rfl (y_move_int rfl) ?_
                  refine ox_y rfl (y_loadN 2 [.int .i64 p2.fFoot, .int .i64 p2.fHour] ag_26 rfl rfl rfl) ?_
                  refine ox_y rfl (y_fieldAddr fo_36_0 rfl) ?_
                  refine ox_y rfl (y_fieldAddr fo_32_0 rfl) ?_
                  refine ox_y rfl (y_load1 5 (v := .int .i64 y23.1.fSpan.fLo) sc_3 rfl rfl rfl) ?_
                  refine ox_y rfl (y_fieldAddr fo_36_0 rfl) ?_
                  refine ox_y rfl (y_fieldAddr fo_32_0 rfl) ?_
                  refine ox_y rfl (y_load1 5 (v := .int .i64 y23.1.fSpan.fLo) sc_3 rfl rfl rfl) ?_
                  refine ox_y rfl (y_buildS [.int .i64 y23.1.fSpan.fLo, .int .i64 y23.1.fSpan.fLo] [(0, 1), (1, 1)] ust_32 ze_32 (by kernel_rfl)) ?_
                  refine ox_y rfl (y_buildS [.int .i64 p4, .int .i64 p2.fFoot, .int .i64 p2.fHour, .int .i64 y23.1.fSpan.fLo, .int .i64 y23.1.fSpan.fLo] [(0, 1), (1, 2), (3, 2)] ust_34 ze_34 (by kernel_rfl)) ?_
                  refine ox_y rfl (y_loadN 1 [.int .i64 p1.fFoot, .int .i64 p1.fHour] ag_26 rfl rfl rfl) ?_
                  obtain ⟨y81, hy82, h⟩ := bind_some h
                  refine ox_y rfl (y_call [.agg #[.int .i64 p0.fRise, .int .i64 p0.fFall, .int .i64 p0.fUp, .int .i64 p0.fDown, .slice A0_4 p0.fLooks.length c0_4], .agg #[.int .i64 p4, .int .i64 p2.fFoot, .int .i64 p2.fHour, .int .i64 y23.1.fSpan.fLo, .int .i64 y23.1.fSpan.fLo], .agg #[.int .i64 p1.fFoot, .int .i64 p1.fHour]] go_38 rfl (fun W2 hW2 => fire_Would_ok p0 (TLook.mk p4 p2 (TSpan.mk y23.1.fSpan.fLo y23.1.fSpan.fLo)) p1 y81 hy82 W2 A0_4 p0.fLooks.length c0_4 rfl ((RdL.arg hr0_4) W2 hW2)) rfl) ?_
                  refine ox_y rfl (y_move_tuple rfl) ?_
                  refine ox_y rfl (y_extract (vs := [.agg #[.int .i64 y81.1.fSpan.fLo, .int .i64 y81.1.fSpan.fHi, .int .i64 y81.1.fLow, .int .i64 y81.1.fHigh], .int .i64 y81.2]) (v := .agg #[.int .i64 y81.1.fSpan.fLo, .int .i64 y81.1.fSpan.fHi, .int .i64 y81.1.fLow, .int .i64 y81.1.fHigh]) rfl rfl) ?_
                  refine ox_y rfl (y_extract (vs := [.agg #[.int .i64 y81.1.fSpan.fLo, .int .i64 y81.1.fSpan.fHi, .int .i64 y81.1.fLow, .int .i64 y81.1.fHigh], .int .i64 y81.2]) (v := .int .i64 y81.2) rfl rfl) ?_
                  refine ox_alloc ze_36 rfl (fun b83 => ?_)
                  try dsimp only [List.nil_append, List.cons_append, List.set_cons_zero, List.set_cons_succ]
                  refine ox_n rfl (y_storeN 6 [.int .i64 y81.1.fSpan.fLo, .int .i64 y81.1.fSpan.fHi, .int .i64 y81.1.fLow, .int .i64 y81.1.fHigh] sz_36 rfl (Nat.le_of_ble_eq_true rfl) rfl rfl rfl) ?_
                  refine ox_y rfl (y_assign_int rfl) ?_
                  refine ox_nil ?_
                  refine ex_then ?_
                  refine cx_seq ?_
                  refine cx_region ?_
                  obtain ⟨y84, hy85, h⟩ := bind_some h
                  refine ox_y rfl (y_call [] go_13 rfl (fun W2 hW2 => calxlaw02_sanity_ok  y84 hy85 W2 ) rfl) ?_
                  refine ox_y rfl (y_move_bool rfl) ?_
                  refine ox_join 4 (fun tm0 => (upd (upd (upd (upd (upd (upd (upd (upd tm0 3 (.int .i64 p3)) 10 (.bool false)) 11 (.int .i64 y10.1)) 14 (.slice A15 y13.1.length c16)) 16 (.pointer (some ⟨b25, 0, none⟩))) 22 (.pointer (some ⟨b83, 0, none⟩))) 23 (.int .i64 y81.2)) 174 (.bool (y84 && (((y13.1.length : Nat) : Int) == 1))))) (fun tm0 => ?_) (fun key => ?_)
                  · refine ox_y rfl (y_move_bool rfl) ?_
                    obtain ⟨b88, hb89, h⟩ := bind_some h
                    refine ox_join 5 (fun tm0 => (upd (upd (upd (upd (upd (upd (upd tm0 3 (.int .i64 p3)) 10 (.bool false)) 11 (.int .i64 y10.1)) 16 (.pointer (some ⟨b25, 0, none⟩))) 22 (.pointer (some ⟨b83, 0, none⟩))) 23 (.int .i64 y81.2)) 180 (.bool b88))) (fun tm0 => ?_) (fun key => ?_)
                    · refine ox_y rfl (y_move_bool rfl) ?_
                      refine ox_join 6 (fun tm0 => (upd (upd (upd (upd (upd tm0 3 (.int .i64 p3)) 10 (.bool false)) 22 (.pointer (some ⟨b83, 0, none⟩))) 23 (.int .i64 y81.2)) 187 (.bool (b88 && (decide (y23.1.fSpan.fLo < y10.1)))))) (fun tm0 => ?_) (fun key => ?_)
                      · refine ox_y rfl (y_move_bool rfl) ?_
                        refine ox_join 3 (fun tm0 => (upd (upd (upd (upd tm0 3 (.int .i64 p3)) 10 (.bool false)) 22 (.pointer (some ⟨b83, 0, none⟩))) 191 (.bool ((b88 && (decide (y23.1.fSpan.fLo < y10.1))) && (y81.2 == 0))))) (fun tm0 => ?_) (fun key => ?_)
                        · refine ox_y rfl (y_move_bool rfl) ?_
                          refine ox_join 6 (fun tm0 => (upd (upd tm0 10 (.bool false)) 198 (.bool (((b88 && (decide (y23.1.fSpan.fLo < y10.1))) && (y81.2 == 0)) && (decide (y81.1.fSpan.fHi < p3)))))) (fun tm0 => ?_) (fun key => ?_)
                          · refine ox_y rfl (y_assign_bool rfl) ?_
                            refine ox_nil ?_
                            refine ex_then ?_
                            refine cx_ret ?_
                            obtain rfl := Option.some.inj h
                            exact ex_res1 (.inl rfl) rfl (resV_tmp (v := .bool (((b88 && (decide (y23.1.fSpan.fLo < y10.1))) && (y81.2 == 0)) && (decide (y81.1.fSpan.fHi < p3)))) rfl) (fun W2 hW2 => ⟨rfl, hW2.none⟩)
                          · rcases bool_cases ((b88 && (decide (y23.1.fSpan.fLo < y10.1))) && (y81.2 == 0)) with hp92 | hp92
                            · refine ox_y (sees_t rfl rfl rfl rfl hp92) (y_fieldAddr fo_36_0 rfl) ?_
                              refine ox_y (sees_t rfl rfl rfl rfl hp92) (y_fieldAddr fo_32_1 rfl) ?_
                              refine ox_y (sees_t rfl rfl rfl rfl hp92) (y_load1 6 (v := .int .i64 y81.1.fSpan.fHi) sc_3 rfl rfl rfl) ?_
                              refine ox_y (sees_t rfl rfl rfl rfl hp92) (y_move_int rfl) ?_
                              refine ox_y (sees_t rfl rfl rfl rfl hp92) (y_lss rfl rfl) ?_
                              refine ox_y rfl (y_pick_tb (congrArg Value.bool hp92) rfl) ?_
                              exact key _ _ (keep (keep rfl rfl) (congrArg Value.bool (and_t hp92)))
                            · refine ox_skip (sees_f rfl rfl rfl rfl hp92) ?_
                              refine ox_skip (sees_f rfl rfl rfl rfl hp92) ?_
                              refine ox_skip (sees_f rfl rfl rfl rfl hp92) ?_
                              refine ox_skip (sees_f rfl rfl rfl rfl hp92) ?_
                              refine ox_skip (sees_f rfl rfl rfl rfl hp92) ?_
                              refine ox_y rfl (y_pick_fb (congrArg Value.bool hp92) rfl) ?_
                              exact key _ _ (keep (keep rfl rfl) (congrArg Value.bool (and_f hp92)))
                        · rcases bool_cases (b88 && (decide (y23.1.fSpan.fLo < y10.1))) with hp91 | hp91
                          · refine ox_y (sees_t rfl rfl rfl rfl hp91) (y_move_int rfl) ?_
                            refine ox_y (sees_t rfl rfl rfl rfl hp91) (y_eql rfl rfl) ?_
                            refine ox_y rfl (y_pick_tb (congrArg Value.bool hp91) rfl) ?_
                            exact key _ _ (keep (keep (keep (keep rfl rfl) rfl) rfl) (congrArg Value.bool (and_t hp91)))
                          · refine ox_skip (sees_f rfl rfl rfl rfl hp91) ?_
                            refine ox_skip (sees_f rfl rfl rfl rfl hp91) ?_
                            refine ox_y rfl (y_pick_fb (congrArg Value.bool hp91) rfl) ?_
                            exact key _ _ (keep (keep (keep (keep rfl rfl) rfl) rfl) (congrArg Value.bool (and_f hp91)))
                      · rcases bool_cases b88 with hp90 | hp90
                        · refine ox_y (sees_t rfl rfl rfl rfl hp90) (y_move_int rfl) ?_
                          refine ox_y (sees_t rfl rfl rfl rfl hp90) (y_fieldAddr fo_36_0 rfl) ?_
                          refine ox_y (sees_t rfl rfl rfl rfl hp90) (y_fieldAddr fo_32_0 rfl) ?_
                          refine ox_y (sees_t rfl rfl rfl rfl hp90) (y_load1 5 (v := .int .i64 y23.1.fSpan.fLo) sc_3 rfl rfl rfl) ?_
                          refine ox_y (sees_t rfl rfl rfl rfl hp90) (y_gtr rfl rfl) ?_
                          refine ox_y rfl (y_pick_tb (congrArg Value.bool hp90) rfl) ?_
                          exact key _ _ (keep (keep (keep (keep (keep rfl rfl) rfl) rfl) rfl) (congrArg Value.bool (and_t hp90)))
                        · refine ox_skip (sees_f rfl rfl rfl rfl hp90) ?_
                          refine ox_skip (sees_f rfl rfl rfl rfl hp90) ?_
                          refine ox_skip (sees_f rfl rfl rfl rfl hp90) ?_
                          refine ox_skip (sees_f rfl rfl rfl rfl hp90) ?_
                          refine ox_skip (sees_f rfl rfl rfl rfl hp90) ?_
                          refine ox_y rfl (y_pick_fb (congrArg Value.bool hp90) rfl) ?_
                          exact key _ _ (keep (keep (keep (keep (keep rfl rfl) rfl) rfl) rfl) (congrArg Value.bool (and_f hp90)))
                    · clear h; rcases ite_some hb89 with ⟨hp87, h⟩ | ⟨hp87, h⟩
                      · refine ox_y (sees_t rfl rfl rfl rfl hp87) (y_move_slice rfl) ?_
                        obtain ⟨hg93, h⟩ := guardO_some h
                        refine ox_y (sees_t rfl rfl rfl rfl hp87) (y_indexR sl_41 (by decide) hg93.1 hg93.2 (RdL.row 4 rfl) (encL_len cI_len rfl) rfl rfl) ?_
                        refine ox_y (sees_t rfl rfl rfl rfl hp87) (y_loadR1 (A := A15) (j := (Int.toNat 0 * 1)) (v := .int .i64 (rdL y13.1 0)) sc_3 (RdL.row 4 rfl) rfl (encL_get0 cI_len hg93.1 (lt_nat hg93.2 rfl) rfl)) ?_
                        refine ox_y (sees_t rfl rfl rfl rfl hp87) (y_eql rfl rfl) ?_
                        refine ox_y rfl (y_pick_tb (congrArg Value.bool hp87) rfl) ?_
                        obtain rfl := Option.some.inj h
                        exact key _ _ (keep (keep (keep (keep (keep (keep (keep rfl rfl) rfl) rfl) rfl) rfl) rfl) rfl)
                      · refine ox_skip (sees_f rfl rfl rfl rfl hp87) ?_
                        refine ox_skip (sees_f rfl rfl rfl rfl hp87) ?_
                        refine ox_skip (sees_f rfl rfl rfl rfl hp87) ?_
                        refine ox_skip (sees_f rfl rfl rfl rfl hp87) ?_
                        refine ox_y rfl (y_pick_fb (congrArg Value.bool hp87) rfl) ?_
                        obtain rfl := Option.some.inj h
                        exact key _ _ (keep (keep (keep (keep (keep (keep (keep rfl rfl) rfl) rfl) rfl) rfl) rfl) rfl)
                  · rcases bool_cases y84 with hp86 | hp86
                    · refine ox_y (sees_t rfl rfl rfl rfl hp86) (y_move_slice rfl) ?_
                      refine ox_y (sees_t rfl rfl rfl rfl hp86) (y_len (us := []) us_41 rfl) ?_
                      refine ox_y (sees_t rfl rfl rfl rfl hp86) (y_eql rfl rfl) ?_
                      refine ox_y rfl (y_pick_tb (congrArg Value.bool hp86) rfl) ?_
                      exact key _ _ (keep (keep (keep (keep (keep (keep (keep (keep rfl rfl) rfl) rfl) rfl) rfl) rfl) rfl) (congrArg Value.bool (and_t hp86)))
                    · refine ox_skip (sees_f rfl rfl rfl rfl hp86) ?_
                      refine ox_skip (sees_f rfl rfl rfl rfl hp86) ?_
                      refine ox_skip (sees_f rfl rfl rfl rfl hp86) ?_
                      refine ox_y rfl (y_pick_fb (congrArg Value.bool hp86) rfl) ?_
                      exact key _ _ (keep (keep (keep (keep (keep (keep (keep (keep rfl rfl) rfl) rfl) rfl) rfl) rfl) rfl) (congrArg Value.bool (and_f hp86)))
          · rcases bool_cases (y23.2 != 0) with hp26 | hp26
            · refine ox_skip (sees_f rfl rfl rfl rfl hp26) ?_
              refine ox_skip (sees_f rfl rfl rfl rfl hp26) ?_
              refine ox_skip (sees_f rfl rfl rfl rfl hp26) ?_
              refine ox_skip (sees_f rfl rfl rfl rfl hp26) ?_
              refine ox_skip rfl ?_
              refine ox_skip rfl ?_
              refine ox_skip (sees_f rfl rfl rfl rfl hp26) ?_
              refine ox_y rfl (y_pick_tb (congrArg Value.bool hp26) rfl) ?_
              exact key _ _ (keep (keep (keep (keep (keep (keep (keep (keep (keep (keep (keep rfl rfl) rfl) rfl) rfl) rfl) rfl) rfl) rfl) rfl) rfl) (congrArg Value.bool (or_t hp26)))
            · refine ox_y (sees_t rfl rfl rfl rfl hp26) (y_move_slice rfl) ?_
              refine ox_y (sees_t rfl rfl rfl rfl hp26) (y_len (us := []) us_41 rfl) ?_
              refine ox_y (sees_t rfl rfl rfl rfl hp26) (y_gtr rfl rfl) ?_
              refine ox_y (sees_t rfl rfl rfl rfl hp26) (y_move_bool rfl) ?_
              refine ox_join 3 (fun tm0 => (upd (upd (upd (upd (upd (upd (upd (upd (upd (upd (upd (upd tm0 3 (.int .i64 p3)) 4 (.int .i64 p4)) 5 (.pointer (some ⟨b1, 0, none⟩))) 6 (.pointer (some ⟨b2, 0, none⟩))) 7 (.pointer (some ⟨b3, 0, none⟩))) 10 (.bool false)) 11 (.int .i64 y10.1)) 12 (.bool y10.2.1)) 14 (.slice A15 y13.1.length c16)) 16 (.pointer (some ⟨b25, 0, none⟩))) 66 (.bool (y23.2 != 0))) 73 (.bool ((decide (0 < ((y13.1.length : Nat) : Int))) && (!y10.2.1))))) (fun tm0 => ?_) (fun key => ?_)
              · refine ox_y rfl (y_pick_fb (congrArg Value.bool hp26) rfl) ?_
                exact key _ _ (keep (keep (keep (keep (keep (keep (keep (keep (keep (keep (keep rfl rfl) rfl) rfl) rfl) rfl) rfl) rfl) rfl) rfl) rfl) (congrArg Value.bool (or_f hp26)))
              · rcases bool_cases (decide (0 < ((y13.1.length : Nat) : Int))) with hp94 | hp94
                · refine ox_y (sees_t rfl rfl rfl rfl hp94) (y_move_bool rfl) ?_
                  refine ox_y (sees_t rfl rfl rfl rfl hp94) (y_not rfl) ?_
                  refine ox_y (sees_t rfl rfl rfl rfl hp26) (y_pick_tb (congrArg Value.bool hp94) rfl) ?_
                  exact key _ _ (keep (keep (keep (keep (keep (keep (keep (keep (keep (keep (keep (keep rfl rfl) rfl) rfl) rfl) rfl) rfl) rfl) rfl) rfl) rfl) rfl) (congrArg Value.bool (and_t hp94)))
                · refine ox_skip (sees_f rfl rfl rfl rfl hp94) ?_
                  refine ox_skip (sees_f rfl rfl rfl rfl hp94) ?_
                  refine ox_y (sees_t rfl rfl rfl rfl hp26) (y_pick_fb (congrArg Value.bool hp94) rfl) ?_
                  exact key _ _ (keep (keep (keep (keep (keep (keep (keep (keep (keep (keep (keep (keep rfl rfl) rfl) rfl) rfl) rfl) rfl) rfl) rfl) rfl) rfl) rfl) (congrArg Value.bool (and_f hp94)))
  · rcases bool_cases (!y4) with hp6 | hp6
    · refine ox_skip (sees_f rfl rfl rfl rfl hp6) ?_
      refine ox_skip (sees_f rfl rfl rfl rfl hp6) ?_
      refine ox_skip (sees_f rfl rfl rfl rfl hp6) ?_
      refine ox_skip (sees_f rfl rfl rfl rfl hp6) ?_
      refine ox_y rfl (y_pick_tb (congrArg Value.bool hp6) rfl) ?_
      exact key _ _ (keep (keep (keep (keep (keep (keep (keep rfl rfl) rfl) rfl) rfl) rfl) rfl) (congrArg Value.bool (or_t hp6)))
    · refine ox_y (sees_t rfl rfl rfl rfl hp6) (y_fieldAddr fo_24_4 rfl) ?_
      refine ox_y (sees_t rfl rfl rfl rfl hp6) (y_load1 0 (v := .slice A0_4 p0.fLooks.length c0_4) sc_22 rfl rfl rfl) ?_
      refine ox_y (sees_t rfl rfl rfl rfl hp6) (y_len (us := []) us_22 rfl) ?_
      refine ox_y (sees_t rfl rfl rfl rfl hp6) (y_geq rfl rfl) ?_
      refine ox_y rfl (y_pick_fb (congrArg Value.bool hp6) rfl) ?_
      exact key _ _ (keep (keep (keep (keep (keep (keep (keep rfl rfl) rfl) rfl) rfl) rfl) rfl) (congrArg Value.bool (or_f hp6)))

end Go.Proofs.Ytndajeiecdmhnaa
