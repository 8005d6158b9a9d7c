/- The calls hand back what the plain functions say. -/
import Derived.Test.YtepfgdfahinpkaaF
import Derived.Test.YtepfgdfahinpkaaC0
import Derived.Test.YtepfgdfahinpkaaC7
set_option linter.unusedVariables false
set_option maxHeartbeats 4000000
namespace Go.Proofs.Ytepfgdfahinpkaa
open Go.RowKit (Below)
attribute [local irreducible] OX QX CX EX OpY Calls CallsIn

/-! calx/sample.Pass -/
set_option maxRecDepth 100000 in
theorem sample_Pass_ok (p0_barrows : Int) (p1_bad : Int) (p2_p : TTrial) (res : (TRatio × Int)) (h : sample_Pass p0_barrows p1_bad p2_p = some res) (W : World)  :
    Calls Try.prog 64 [.int .i64 p0_barrows, .int .i64 p1_bad, .agg #[.int .i64 p2_p.fSample, .int .i64 p2_p.fAccept]].toArray W fun e W2 => e = .returned (.tuple #[.agg #[.int .i64 res.1.fNum, .int .i64 res.1.fDen], .int .i64 res.2]) ∧ Ext W W2 [] := by
  unfold sample_Pass at h
  refine calls_enter (m := 42) Try.func64 rfl rfl (Nat.le_of_ble_eq_true rfl) ?_
  refine cx_seq ?_
  refine cx_region ?_
  refine ox_box [.int .i64 p2_p.fSample, .int .i64 p2_p.fAccept] rfl rfl rfl (fun b1 => ?_)
  refine ox_alloc ze_23 rfl (fun b2 => ?_)
  refine ox_y rfl (y_assign_int rfl) ?_
  refine ox_nil ?_
  refine ex_then ?_
  refine cx_seq ?_
  refine cx_seq ?_
  refine cx_region ?_
  refine ox_y rfl (y_move_int rfl) ?_
  refine ox_y rfl (y_move_int rfl) ?_
  obtain ⟨y3, hy4, h⟩ := bind_some h
  refine ox_y rfl (y_call [.int .i64 p0_barrows, .int .i64 p1_bad, .int .i64 50] go_114 rfl (fun W2 hW2 => sample_lot_ok p0_barrows p1_bad 50 y3 hy4 W2 ) rfl) ?_
  refine ox_y rfl (y_assign_int rfl) ?_
  refine ox_nil ?_
  refine ex_then ?_
  refine cx_seq ?_
  refine cx_region ?_
  refine ox_y rfl (y_move_int rfl) ?_
  refine ox_y rfl (y_neq rfl rfl) ?_
  refine ox_nil ?_
  refine ex_then ?_
  rcases ite_some h with ⟨hp5, h⟩ | ⟨hp5, h⟩
  · refine cx_true (congrArg Value.bool hp5) ?_
    refine cx_seq ?_
    refine cx_region ?_
    refine ox_y rfl (y_buildS [.int .i64 0, .int .i64 0] [(0, 1), (1, 1)] ust_23 ze_23 (by kernel_rfl)) ?_
    refine ox_y rfl (y_move_int rfl) ?_
    refine ox_n rfl (y_storeN 1 [.int .i64 0, .int .i64 0] sz_23 rfl (Nat.le_of_ble_eq_true rfl) rfl rfl rfl) ?_
    refine ox_y rfl (y_assign_int rfl) ?_
    refine ox_nil ?_
    refine ex_then ?_
    refine cx_ret ?_
    refine ex_then_ret ?_
    obtain rfl := Option.some.inj h
    exact ex_res2 (.inl rfl) rfl (resV_cellN 1 [.int .i64 0, .int .i64 0] ag_23 rfl rfl rfl) (resV_tmp (v := .int .i64 y3) rfl) (fun W2 hW2 => ⟨rfl, hW2.none⟩)
  · refine cx_false (congrArg Value.bool hp5) ?_
    refine cx_skip ?_
    refine ex_then ?_
    refine cx_seq ?_
    refine cx_seq ?_
    refine cx_region ?_
    refine ox_y rfl (y_fieldAddr fo_26_0 rfl) ?_
    refine ox_y rfl (y_load1 0 (v := .int .i64 p2_p.fSample) sc_3 rfl rfl rfl) ?_
    refine ox_y rfl (y_move_int rfl) ?_
    obtain ⟨y6, hy7, h⟩ := bind_some h
    refine ox_y rfl (y_call [.int .i64 p2_p.fSample, .int .i64 0, .int .i64 p0_barrows] go_74 rfl (fun W2 hW2 => sample_within_ok p2_p.fSample 0 p0_barrows y6 hy7 W2 ) rfl) ?_
    refine ox_y rfl (y_not rfl) ?_
    refine ox_y rfl (y_move_bool rfl) ?_
    obtain ⟨b9, hb10, h⟩ := bind_some h
    refine ox_join 7 (fun tm0 => (upd (upd (upd (upd (upd (upd (upd (upd (upd tm0 0 (.int .i64 p0_barrows)) 1 (.int .i64 p1_bad)) 2 (.agg #[.int .i64 p2_p.fSample, .int .i64 p2_p.fAccept])) 5 (.pointer (some ⟨b1, 0, none⟩))) 6 (.pointer (some ⟨b2, 0, none⟩))) 7 (.int .i64 0)) 8 (.int .i64 y3)) 13 (.bool (y3 != 0))) 28 (.bool b9))) (fun tm0 => ?_) (fun key => ?_)
    · refine ox_nil ?_
      refine ex_then ?_
      rcases ite_some h with ⟨hp11, h⟩ | ⟨hp11, h⟩
      · refine cx_true (congrArg Value.bool hp11) ?_
        refine cx_seq ?_
        refine cx_region ?_
        refine ox_y rfl (y_buildS [.int .i64 0, .int .i64 0] [(0, 1), (1, 1)] ust_23 ze_23 (by kernel_rfl)) ?_
        refine ox_n rfl (y_storeN 1 [.int .i64 0, .int .i64 0] sz_23 rfl (Nat.le_of_ble_eq_true rfl) rfl rfl rfl) ?_
        refine ox_y rfl (y_assign_int rfl) ?_
        refine ox_nil ?_
        refine ex_then ?_
        refine cx_ret ?_
        refine ex_then_ret ?_
        obtain rfl := Option.some.inj h
        exact ex_res2 (.inl rfl) rfl (resV_cellN 1 [.int .i64 0, .int .i64 0] ag_23 rfl rfl rfl) (resV_tmp (v := .int .i64 1) rfl) (fun W2 hW2 => ⟨rfl, hW2.none⟩)
      · refine cx_false (congrArg Value.bool hp11) ?_
        refine cx_skip ?_
        refine ex_then ?_
        refine cx_seq ?_
        refine cx_draws 12 mixed (by kernel_rfl) (by kernel_rfl) ?_
        refine qx_y rfl (y_move_int rfl) ?_
        refine qx_y rfl (y_move_int rfl) ?_
        refine qx_y rfl (y_fieldAddr fo_26_0 rfl) ?_
        refine qx_y rfl (y_load1 0 (v := .int .i64 p2_p.fSample) sc_3 rfl rfl rfl) ?_
        refine qx_y rfl (y_fieldAddr fo_26_1 rfl) ?_
        refine qx_y rfl (y_load1 0 (v := .int .i64 p2_p.fAccept) sc_3 rfl rfl rfl) ?_
        obtain ⟨y12, hy13, h⟩ := bind_some h
        refine qx_y rfl (y_call [.int .i64 p0_barrows, .int .i64 p1_bad, .int .i64 p2_p.fSample, .int .i64 p2_p.fAccept] go_77 rfl (fun W2 hW2 => sample_atMost_ok p0_barrows p1_bad p2_p.fSample p2_p.fAccept y12 hy13 W2 ) rfl) ?_
        refine qx_y rfl (y_move_int rfl) ?_
        refine qx_y rfl (y_fieldAddr fo_26_0 rfl) ?_
        refine qx_y rfl (y_load1 0 (v := .int .i64 p2_p.fSample) sc_3 rfl rfl rfl) ?_
        obtain ⟨y14, hy15, h⟩ := bind_some h
        refine qx_y rfl (y_call [.int .i64 p0_barrows, .int .i64 p2_p.fSample] go_76 rfl (fun W2 hW2 => sample_choose_ok p0_barrows p2_p.fSample y14 hy15 W2 ) rfl) ?_
        obtain ⟨y16, hy17, h⟩ := bind_some h
        refine qx_y rfl (y_call [.int .i64 y12, .int .i64 y14] go_95 rfl (fun W2 hW2 => sample_ratio_ok y12 y14 y16 hy17 W2 ) rfl) ?_
        refine qx_nil ?_
        refine ox_n rfl (y_storeN 1 [.int .i64 y16.fNum, .int .i64 y16.fDen] sz_23 rfl (Nat.le_of_ble_eq_true rfl) rfl rfl rfl) ?_
        refine ox_y rfl (y_assign_int rfl) ?_
        refine ox_nil ?_
        refine ex_then ?_
        refine cx_ret ?_
        obtain rfl := Option.some.inj h
        exact ex_res2 (.inl rfl) rfl (resV_cellN 1 [.int .i64 y16.fNum, .int .i64 y16.fDen] ag_23 rfl rfl rfl) (resV_tmp (v := .int .i64 0) rfl) (fun W2 hW2 => ⟨rfl, hW2.none⟩)
    · clear h; rcases ite_some hb10 with ⟨hp8, h⟩ | ⟨hp8, h⟩
      · refine ox_skip (sees_f rfl rfl rfl rfl hp8) ?_
        refine ox_skip (sees_f rfl rfl rfl rfl hp8) ?_
        refine ox_skip (sees_f rfl rfl rfl rfl hp8) ?_
        refine ox_skip (sees_f rfl rfl rfl rfl hp8) ?_
        refine ox_skip (sees_f rfl rfl rfl rfl hp8) ?_
        refine ox_skip (sees_f rfl rfl rfl rfl hp8) ?_
        refine ox_y rfl (y_pick_tb (congrArg Value.bool hp8) rfl) ?_
        obtain rfl := Option.some.inj h
        exact key _ _ (keep (keep (keep (keep (keep (keep (keep (keep (keep rfl rfl) rfl) rfl) rfl) rfl) rfl) rfl) rfl) rfl)
      · refine ox_y (sees_t rfl rfl rfl rfl hp8) (y_fieldAddr fo_26_1 rfl) ?_
        refine ox_y (sees_t rfl rfl rfl rfl hp8) (y_load1 0 (v := .int .i64 p2_p.fAccept) sc_3 rfl rfl rfl) ?_
        refine ox_y (sees_t rfl rfl rfl rfl hp8) (y_fieldAddr fo_26_0 rfl) ?_
        refine ox_y (sees_t rfl rfl rfl rfl hp8) (y_load1 0 (v := .int .i64 p2_p.fSample) sc_3 rfl rfl rfl) ?_
        obtain ⟨y18, hy19, h⟩ := bind_some h
        refine ox_y (sees_t rfl rfl rfl rfl hp8) (y_call [.int .i64 p2_p.fAccept, .int .i64 0, .int .i64 p2_p.fSample] go_74 rfl (fun W2 hW2 => sample_within_ok p2_p.fAccept 0 p2_p.fSample y18 hy19 W2 ) rfl) ?_
        refine ox_y (sees_t rfl rfl rfl rfl hp8) (y_not rfl) ?_
        refine ox_y rfl (y_pick_fb (congrArg Value.bool hp8) rfl) ?_
        obtain rfl := Option.some.inj h
        exact key _ _ (keep (keep (keep (keep (keep (keep (keep (keep (keep rfl rfl) rfl) rfl) rfl) rfl) rfl) rfl) rfl) rfl)

end Go.Proofs.Ytepfgdfahinpkaa
