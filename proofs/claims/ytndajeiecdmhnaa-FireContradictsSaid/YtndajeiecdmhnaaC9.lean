/- The calls hand back what the plain functions say. -/
import Derived.Test.YtndajeiecdmhnaaF
import Derived.Test.YtndajeiecdmhnaaC0
set_option linter.unusedVariables false
set_option maxHeartbeats 4000000
namespace Go.Proofs.Ytndajeiecdmhnaa
open Go.RowKit (Below)
attribute [local irreducible] OX QX CX EX OpY Calls CallsIn

/-! calx/fire.CheckClash -/
set_option maxRecDepth 100000 in
theorem fire_CheckClash_ok (p0_f : TFire) (p1_a : Int) (p2_b : Int) (res : Int) (h : fire_CheckClash p0_f p1_a p2_b = some res) (W : World) (A0_4 : Option Addr) (n0_4 c0_4 : Nat) (hn0_4 : n0_4 = p0_f.fLooks.length) (hr0_4 : Rd W A0_4 n0_4 c0_4 (encL TLook_cells p0_f.fLooks)) :
    Calls Try.prog 28 [.agg #[.int .i64 p0_f.fRise, .int .i64 p0_f.fFall, .int .i64 p0_f.fUp, .int .i64 p0_f.fDown, .slice A0_4 n0_4 c0_4], .int .i64 p1_a, .int .i64 p2_b].toArray W fun e W2 => e = .returned (.int .i64 res) ∧ Ext W W2 [] := by
  subst hn0_4
  unfold fire_CheckClash at h
  refine calls_enter (m := 42) Try.func28 rfl rfl (Nat.le_of_ble_eq_true rfl) ?_
  refine cx_seq ?_
  refine cx_region ?_
  refine ox_box [.int .i64 p0_f.fRise, .int .i64 p0_f.fFall, .int .i64 p0_f.fUp, .int .i64 p0_f.fDown, .slice A0_4 p0_f.fLooks.length c0_4] rfl rfl rfl (fun b1 => ?_)
  refine ox_y rfl (y_assign_int rfl) ?_
  refine ox_nil ?_
  refine ex_then ?_
  refine cx_seq ?_
  refine cx_seq ?_
  refine cx_region ?_
  refine ox_y rfl (y_loadN 0 [.int .i64 p0_f.fRise, .int .i64 p0_f.fFall, .int .i64 p0_f.fUp, .int .i64 p0_f.fDown, .slice A0_4 p0_f.fLooks.length c0_4] ag_24 rfl rfl rfl) ?_
  obtain ⟨y2, hy3, h⟩ := bind_some h
  refine ox_y rfl (y_call [.agg #[.int .i64 p0_f.fRise, .int .i64 p0_f.fFall, .int .i64 p0_f.fUp, .int .i64 p0_f.fDown, .slice A0_4 p0_f.fLooks.length c0_4]] go_12 rfl (fun W2 hW2 => fire_Check_ok p0_f y2 hy3 W2 A0_4 p0_f.fLooks.length c0_4 rfl ((RdL.arg hr0_4) W2 hW2)) rfl) ?_
  refine ox_y rfl (y_assign_int rfl) ?_
  refine ox_nil ?_
  refine ex_then ?_
  refine cx_seq ?_
  refine cx_region ?_
  refine ox_y rfl (y_move_int rfl) ?_
  refine ox_y rfl (y_neq rfl rfl) ?_
  refine ox_nil ?_
  refine ex_then ?_
  rcases ite_some h with ⟨hp4, h⟩ | ⟨hp4, h⟩
  · refine cx_true (congrArg Value.bool hp4) ?_
    refine cx_seq ?_
    refine cx_region ?_
    refine ox_y rfl (y_move_int rfl) ?_
    refine ox_y rfl (y_assign_int rfl) ?_
    refine ox_nil ?_
    refine ex_then ?_
    refine cx_ret ?_
    refine ex_then_ret ?_
    obtain rfl := Option.some.inj h
    exact ex_res1 (.inl rfl) rfl (resV_tmp (v := .int .i64 y2) rfl) (fun W2 hW2 => ⟨rfl, hW2.none⟩)
  · refine cx_false (congrArg Value.bool hp4) ?_
    refine cx_skip ?_
    refine ex_then ?_
    refine cx_seq ?_
    refine cx_draws 10 mixed (by kernel_rfl) (by kernel_rfl) ?_
    refine qx_y rfl (y_fieldAddr fo_24_4 rfl) ?_
    refine qx_y rfl (y_load1 0 (v := .slice A0_4 p0_f.fLooks.length c0_4) sc_22 rfl rfl rfl) ?_
    refine qx_y rfl (y_move_int rfl) ?_
    obtain ⟨y5, hy6, h⟩ := bind_some h
    refine qx_y rfl (y_call [.slice A0_4 p0_f.fLooks.length c0_4, .int .i64 p1_a] go_52 rfl (fun W2 hW2 => fire_find_ok p0_f.fLooks p1_a y5 hy6 W2 A0_4 p0_f.fLooks.length c0_4 rfl ((RdL.arg hr0_4) W2 hW2)) rfl) ?_
    refine qx_y rfl (y_fieldAddr fo_24_4 rfl) ?_
    refine qx_y rfl (y_load1 0 (v := .slice A0_4 p0_f.fLooks.length c0_4) sc_22 rfl rfl rfl) ?_
    refine qx_y rfl (y_move_int rfl) ?_
    obtain ⟨y7, hy8, h⟩ := bind_some h
    refine qx_y rfl (y_call [.slice A0_4 p0_f.fLooks.length c0_4, .int .i64 p2_b] go_52 rfl (fun W2 hW2 => fire_find_ok p0_f.fLooks p2_b y7 hy8 W2 A0_4 p0_f.fLooks.length c0_4 rfl ((RdL.arg hr0_4) W2 hW2)) rfl) ?_
    refine qx_y rfl (y_assign_int rfl) ?_
    refine qx_y rfl (y_assign_int rfl) ?_
    refine qx_nil ?_
    refine ox_nil ?_
    refine ex_then ?_
    refine cx_seq ?_
    refine cx_seq ?_
    refine cx_region ?_
    refine ox_y rfl (y_move_int rfl) ?_
    refine ox_y rfl (y_lss rfl rfl) ?_
    refine ox_y rfl (y_move_bool rfl) ?_
    refine ox_join 3 (fun tm0 => (upd (upd (upd (upd (upd tm0 3 (.pointer (some ⟨b1, 0, none⟩))) 6 (.int .i64 0)) 8 (.int .i64 y5)) 9 (.int .i64 y7)) 28 (.bool ((decide (y5 < 0)) || (decide (y7 < 0)))))) (fun tm0 => ?_) (fun key => ?_)
    · refine ox_nil ?_
      refine ex_then ?_
      rcases ite_some h with ⟨hp10, h⟩ | ⟨hp10, h⟩
      · refine cx_true (congrArg Value.bool hp10) ?_
        refine cx_seq ?_
        refine cx_region ?_
        refine ox_y rfl (y_assign_int rfl) ?_
        refine ox_nil ?_
        refine ex_then ?_
        refine cx_ret ?_
        refine ex_then_ret ?_
        obtain rfl := Option.some.inj h
        exact ex_res1 (.inl rfl) rfl (resV_tmp (v := .int .i64 5) rfl) (fun W2 hW2 => ⟨rfl, hW2.none⟩)
      · refine cx_false (congrArg Value.bool hp10) ?_
        refine cx_skip ?_
        refine ex_then ?_
        refine cx_seq ?_
        refine cx_seq ?_
        refine cx_draws 13 mixed (by kernel_rfl) (by kernel_rfl) ?_
        refine qx_y rfl (y_loadN 0 [.int .i64 p0_f.fRise, .int .i64 p0_f.fFall, .int .i64 p0_f.fUp, .int .i64 p0_f.fDown, .slice A0_4 p0_f.fLooks.length c0_4] ag_24 rfl rfl rfl) ?_
        refine qx_y rfl (y_fieldAddr fo_24_4 rfl) ?_
        refine qx_y rfl (y_load1 0 (v := .slice A0_4 p0_f.fLooks.length c0_4) sc_22 rfl rfl rfl) ?_
        refine qx_y rfl (y_move_int rfl) ?_
        obtain ⟨hg11, h⟩ := guardO_some h
        refine qx_y rfl (y_indexR sl_22 (by decide) hg11.1 hg11.2 (RdL.arg hr0_4) (encL_len TLook_cells_len rfl) rfl rfl) ?_
        refine qx_y rfl (y_loadRN (A := A0_4) (j := (Int.toNat y5 * 5)) [.int .i64 ((rdL p0_f.fLooks y5).fID), .int .i64 ((rdL p0_f.fLooks y5).fAt.fFoot), .int .i64 ((rdL p0_f.fLooks y5).fAt.fHour), .int .i64 ((rdL p0_f.fLooks y5).fHeat.fLo), .int .i64 ((rdL p0_f.fLooks y5).fHeat.fHi)] ag_34 (Nat.succ_pos _) (RdL.arg hr0_4) rfl (encL_gets TLook_cells_len hg11.1 (lt_nat hg11.2 rfl))) ?_
        refine qx_y rfl (y_fieldAddr fo_24_4 rfl) ?_
        refine qx_y rfl (y_load1 0 (v := .slice A0_4 p0_f.fLooks.length c0_4) sc_22 rfl rfl rfl) ?_
        refine qx_y rfl (y_move_int rfl) ?_
        obtain ⟨hg12, h⟩ := guardO_some h
        refine qx_y rfl (y_indexR sl_22 (by decide) hg12.1 hg12.2 (RdL.arg hr0_4) (encL_len TLook_cells_len rfl) rfl rfl) ?_
        refine qx_y rfl (y_loadRN (A := A0_4) (j := (Int.toNat y7 * 5)) [.int .i64 ((rdL p0_f.fLooks y7).fID), .int .i64 ((rdL p0_f.fLooks y7).fAt.fFoot), .int .i64 ((rdL p0_f.fLooks y7).fAt.fHour), .int .i64 ((rdL p0_f.fLooks y7).fHeat.fLo), .int .i64 ((rdL p0_f.fLooks y7).fHeat.fHi)] ag_34 (Nat.succ_pos _) (RdL.arg hr0_4) rfl (encL_gets TLook_cells_len hg12.1 (lt_nat hg12.2 rfl))) ?_
        obtain ⟨y13, hy14, h⟩ := bind_some h
        refine qx_y rfl (y_call [.agg #[.int .i64 p0_f.fRise, .int .i64 p0_f.fFall, .int .i64 p0_f.fUp, .int .i64 p0_f.fDown, .slice A0_4 p0_f.fLooks.length c0_4], .agg #[.int .i64 ((rdL p0_f.fLooks y5).fID), .int .i64 ((rdL p0_f.fLooks y5).fAt.fFoot), .int .i64 ((rdL p0_f.fLooks y5).fAt.fHour), .int .i64 ((rdL p0_f.fLooks y5).fHeat.fLo), .int .i64 ((rdL p0_f.fLooks y5).fHeat.fHi)], .agg #[.int .i64 ((rdL p0_f.fLooks y7).fID), .int .i64 ((rdL p0_f.fLooks y7).fAt.fFoot), .int .i64 ((rdL p0_f.fLooks y7).fAt.fHour), .int .i64 ((rdL p0_f.fLooks y7).fHeat.fLo), .int .i64 ((rdL p0_f.fLooks y7).fHeat.fHi)]] go_72 rfl (fun W2 hW2 => fire_against_ok p0_f (TLook.mk ((rdL p0_f.fLooks y5).fID) (TSpot.mk ((rdL p0_f.fLooks y5).fAt.fFoot) ((rdL p0_f.fLooks y5).fAt.fHour)) (TSpan.mk ((rdL p0_f.fLooks y5).fHeat.fLo) ((rdL p0_f.fLooks y5).fHeat.fHi))) (TLook.mk ((rdL p0_f.fLooks y7).fID) (TSpot.mk ((rdL p0_f.fLooks y7).fAt.fFoot) ((rdL p0_f.fLooks y7).fAt.fHour)) (TSpan.mk ((rdL p0_f.fLooks y7).fHeat.fLo) ((rdL p0_f.fLooks y7).fHeat.fHi))) y13 hy14 W2 A0_4 p0_f.fLooks.length c0_4 rfl ((RdL.arg hr0_4) W2 hW2)) rfl) ?_
        refine qx_y rfl (y_not rfl) ?_
        refine qx_nil ?_
        refine ox_nil ?_
        refine ex_then ?_
        rcases ite_some h with ⟨hp15, h⟩ | ⟨hp15, h⟩
        · refine cx_true (congrArg Value.bool hp15) ?_
          refine cx_seq ?_
          refine cx_region ?_
          refine ox_y rfl (y_assign_int rfl) ?_
          refine ox_nil ?_
          refine ex_then ?_
          refine cx_ret ?_
          refine ex_then_ret ?_
          obtain rfl := Option.some.inj h
          exact ex_res1 (.inl rfl) rfl (resV_tmp (v := .int .i64 8) rfl) (fun W2 hW2 => ⟨rfl, hW2.none⟩)
        · refine cx_false (congrArg Value.bool hp15) ?_
          refine cx_skip ?_
          refine ex_then ?_
          refine cx_seq ?_
          refine cx_region ?_
          refine ox_y rfl (y_assign_int rfl) ?_
          refine ox_nil ?_
          refine ex_then ?_
          refine cx_ret ?_
          obtain rfl := Option.some.inj h
          exact ex_res1 (.inl rfl) rfl (resV_tmp (v := .int .i64 0) rfl) (fun W2 hW2 => ⟨rfl, hW2.none⟩)
    · rcases bool_cases (decide (y5 < 0)) with hp9 | hp9
      · refine ox_skip (sees_f rfl rfl rfl rfl hp9) ?_
        refine ox_skip (sees_f rfl rfl rfl rfl hp9) ?_
        refine ox_y rfl (y_pick_tb (congrArg Value.bool hp9) rfl) ?_
        exact key _ _ (keep (keep (keep (keep (keep rfl rfl) rfl) rfl) rfl) (congrArg Value.bool (or_t hp9)))
      · refine ox_y (sees_t rfl rfl rfl rfl hp9) (y_move_int rfl) ?_
        refine ox_y (sees_t rfl rfl rfl rfl hp9) (y_lss rfl rfl) ?_
        refine ox_y rfl (y_pick_fb (congrArg Value.bool hp9) rfl) ?_
        exact key _ _ (keep (keep (keep (keep (keep rfl rfl) rfl) rfl) rfl) (congrArg Value.bool (or_f hp9)))

end Go.Proofs.Ytndajeiecdmhnaa
