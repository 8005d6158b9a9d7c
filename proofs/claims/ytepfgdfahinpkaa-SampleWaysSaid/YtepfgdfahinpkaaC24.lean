/- The calls hand back what the plain functions say. -/
import Derived.Test.YtepfgdfahinpkaaF
import Derived.Test.YtepfgdfahinpkaaC1
import Derived.Test.YtepfgdfahinpkaaC3
import Derived.Test.YtepfgdfahinpkaaC4
import Derived.Test.YtepfgdfahinpkaaC5
import Derived.Test.YtepfgdfahinpkaaC6
import Derived.Test.YtepfgdfahinpkaaC15
import Derived.Test.YtepfgdfahinpkaaC16
set_option linter.unusedVariables false
set_option maxHeartbeats 4000000
namespace Go.Proofs.Ytepfgdfahinpkaa
open Go.RowKit (Below)
attribute [local irreducible] OX QX CX EX OpY Calls CallsIn

/-! calx/calxref03.Choose -/
set_option maxRecDepth 100000 in
theorem calxref03_Choose_ok (p0_n : Int) (p1_k : Int) (res : (Int × Int)) (h : calxref03_Choose p0_n p1_k = some res) (W : World)  :
    Calls Try.prog 29 [.int .i64 p0_n, .int .i64 p1_k].toArray W fun e W2 => e = .returned (.tuple #[.int .i64 res.1, .int .i64 res.2]) ∧ Ext W W2 [] := by
  unfold calxref03_Choose at h
  refine calls_enter (m := 16) Try.func29 rfl rfl (Nat.le_of_ble_eq_true rfl) ?_
  refine cx_seq ?_
  refine cx_region ?_
  refine ox_y rfl (y_assign_int rfl) ?_
  refine ox_y rfl (y_assign_int rfl) ?_
  refine ox_nil ?_
  refine ex_then ?_
  refine cx_seq ?_
  refine cx_seq ?_
  refine cx_region ?_
  refine ox_y rfl (y_move_int rfl) ?_
  obtain ⟨y1, hy2, h⟩ := bind_some h
  refine ox_y rfl (y_call [.int .i64 p0_n, .int .i64 0, .int .i64 50] go_79 rfl (fun W2 hW2 => calxref03_in_ok p0_n 0 50 y1 hy2 W2 ) rfl) ?_
  refine ox_y rfl (y_not rfl) ?_
  refine ox_y rfl (y_move_bool rfl) ?_
  refine ox_join 3 (fun tm0 => (upd (upd (upd (upd (upd tm0 0 (.int .i64 p0_n)) 1 (.int .i64 p1_k)) 4 (.int .i64 0)) 5 (.int .i64 0)) 12 (.bool ((!y1) || (decide (p1_k < 0)))))) (fun tm0 => ?_) (fun key => ?_)
  · refine ox_nil ?_
    refine ex_then ?_
    rcases ite_some h with ⟨hp4, h⟩ | ⟨hp4, h⟩
    · refine cx_true (congrArg Value.bool hp4) ?_
      refine cx_seq ?_
      refine cx_region ?_
      refine ox_y rfl (y_assign_int rfl) ?_
      refine ox_y rfl (y_assign_int rfl) ?_
      refine ox_nil ?_
      refine ex_then ?_
      refine cx_ret ?_
      refine ex_then_ret ?_
      obtain rfl := Option.some.inj h
      exact ex_res2 (.inl rfl) rfl (resV_tmp (v := .int .i64 0) rfl) (resV_tmp (v := .int .i64 1) rfl) (fun W2 hW2 => ⟨rfl, hW2.none⟩)
    · refine cx_false (congrArg Value.bool hp4) ?_
      refine cx_skip ?_
      refine ex_then ?_
      refine cx_seq ?_
      refine cx_region ?_
      refine ox_y rfl (y_move_int rfl) ?_
      refine ox_y rfl (y_move_int rfl) ?_
      obtain ⟨y5, hy6, h⟩ := bind_some h
      refine ox_y rfl (y_call [.int .i64 p0_n, .int .i64 p1_k] go_81 rfl (fun W2 hW2 => calxref03_choose_ok p0_n p1_k y5 hy6 W2 ) rfl) ?_
      refine ox_y rfl (y_assign_int rfl) ?_
      refine ox_y rfl (y_assign_int rfl) ?_
      refine ox_nil ?_
      refine ex_then ?_
      refine cx_ret ?_
      obtain rfl := Option.some.inj h
      exact ex_res2 (.inl rfl) rfl (resV_tmp (v := .int .i64 y5) rfl) (resV_tmp (v := .int .i64 0) rfl) (fun W2 hW2 => ⟨rfl, hW2.none⟩)
  · rcases bool_cases (!y1) with hp3 | hp3
    · refine ox_skip (sees_f rfl rfl rfl rfl hp3) ?_
      refine ox_skip (sees_f rfl rfl rfl rfl hp3) ?_
      refine ox_y rfl (y_pick_tb (congrArg Value.bool hp3) rfl) ?_
      exact key _ _ (keep (keep (keep (keep (keep rfl rfl) rfl) rfl) rfl) (congrArg Value.bool (or_t hp3)))
    · refine ox_y (sees_t rfl rfl rfl rfl hp3) (y_move_int rfl) ?_
      refine ox_y (sees_t rfl rfl rfl rfl hp3) (y_lss rfl rfl) ?_
      refine ox_y rfl (y_pick_fb (congrArg Value.bool hp3) rfl) ?_
      exact key _ _ (keep (keep (keep (keep (keep rfl rfl) rfl) rfl) rfl) (congrArg Value.bool (or_f hp3)))

/-! calx/calxref03.whole -/
set_option maxRecDepth 100000 in
theorem calxref03_whole_ok (p0_w : TKinds) (res : Bool) (h : calxref03_whole p0_w = some res) (W : World)  :
    Calls Try.prog 91 [.agg #[.int .i64 p0_w.x0, .int .i64 p0_w.x1, .int .i64 p0_w.x2]].toArray W fun e W2 => e = .returned (.bool res) ∧ Ext W W2 [] := by
  unfold calxref03_whole at h
  refine calls_enter (m := 10) Try.func91 rfl rfl (Nat.le_of_ble_eq_true rfl) ?_
  refine cx_seq ?_
  refine cx_region ?_
  refine ox_box [.int .i64 p0_w.x0, .int .i64 p0_w.x1, .int .i64 p0_w.x2] rfl rfl rfl (fun b1 => ?_)
  refine ox_y rfl (y_assign_bool rfl) ?_
  refine ox_nil ?_
  refine ex_then ?_
  refine cx_seq ?_
  refine cx_region ?_
  refine ox_y rfl (y_loadN 0 [.int .i64 p0_w.x0, .int .i64 p0_w.x1, .int .i64 p0_w.x2] ag_43 rfl rfl rfl) ?_
  obtain ⟨y2, hy3, h⟩ := bind_some h
  refine ox_y rfl (y_call [.agg #[.int .i64 p0_w.x0, .int .i64 p0_w.x1, .int .i64 p0_w.x2]] go_92 rfl (fun W2 hW2 => calxref03_sorted_ok p0_w y2 hy3 W2 ) rfl) ?_
  refine ox_y rfl (y_move_bool rfl) ?_
  obtain ⟨b5, hb6, h⟩ := bind_some h
  refine ox_join 4 (fun tm0 => (upd (upd (upd (upd tm0 0 (.agg #[.int .i64 p0_w.x0, .int .i64 p0_w.x1, .int .i64 p0_w.x2])) 1 (.pointer (some ⟨b1, 0, none⟩))) 2 (.bool false)) 9 (.bool b5))) (fun tm0 => ?_) (fun key => ?_)
  · refine ox_y rfl (y_assign_bool rfl) ?_
    refine ox_nil ?_
    refine ex_then ?_
    refine cx_ret ?_
    obtain rfl := Option.some.inj h
    exact ex_res1 (.inl rfl) rfl (resV_tmp (v := .bool b5) rfl) (fun W2 hW2 => ⟨rfl, hW2.none⟩)
  · clear h; rcases ite_some hb6 with ⟨hp4, h⟩ | ⟨hp4, h⟩
    · refine ox_y (sees_t rfl rfl rfl rfl hp4) (y_loadN 0 [.int .i64 p0_w.x0, .int .i64 p0_w.x1, .int .i64 p0_w.x2] ag_43 rfl rfl rfl) ?_
      obtain ⟨y7, hy8, h⟩ := bind_some h
      refine ox_y (sees_t rfl rfl rfl rfl hp4) (y_call [.agg #[.int .i64 p0_w.x0, .int .i64 p0_w.x1, .int .i64 p0_w.x2]] go_96 rfl (fun W2 hW2 => calxref03_all_ok p0_w y7 hy8 W2 ) rfl) ?_
      obtain ⟨y9, hy10, h⟩ := bind_some h
      refine ox_y (sees_t rfl rfl rfl rfl hp4) (y_call [.int .i64 y7, .int .i64 1, .int .i64 50] go_79 rfl (fun W2 hW2 => calxref03_in_ok y7 1 50 y9 hy10 W2 ) rfl) ?_
      refine ox_y rfl (y_pick_tb (congrArg Value.bool hp4) rfl) ?_
      obtain rfl := Option.some.inj h
      exact key _ _ (keep (keep (keep (keep rfl rfl) rfl) rfl) rfl)
    · refine ox_skip (sees_f rfl rfl rfl rfl hp4) ?_
      refine ox_skip (sees_f rfl rfl rfl rfl hp4) ?_
      refine ox_skip (sees_f rfl rfl rfl rfl hp4) ?_
      refine ox_y rfl (y_pick_fb (congrArg Value.bool hp4) rfl) ?_
      obtain rfl := Option.some.inj h
      exact key _ _ (keep (keep (keep (keep rfl rfl) rfl) rfl) rfl)

/-! calx/calxref03.Ways -/
set_option maxRecDepth 100000 in
theorem calxref03_Ways_ok (p0_w : TKinds) (p1_s : TKinds) (res : (Int × Int)) (h : calxref03_Ways p0_w p1_s = some res) (W : World)  :
    Calls Try.prog 31 [.agg #[.int .i64 p0_w.x0, .int .i64 p0_w.x1, .int .i64 p0_w.x2], .agg #[.int .i64 p1_s.x0, .int .i64 p1_s.x1, .int .i64 p1_s.x2]].toArray W fun e W2 => e = .returned (.tuple #[.int .i64 res.1, .int .i64 res.2]) ∧ Ext W W2 [] := by
  unfold calxref03_Ways at h
  refine calls_enter (m := 17) Try.func31 rfl rfl (Nat.le_of_ble_eq_true rfl) ?_
  refine cx_seq ?_
  refine cx_region ?_
  refine ox_box [.int .i64 p0_w.x0, .int .i64 p0_w.x1, .int .i64 p0_w.x2] rfl rfl rfl (fun b1 => ?_)
  refine ox_box [.int .i64 p1_s.x0, .int .i64 p1_s.x1, .int .i64 p1_s.x2] rfl rfl rfl (fun b2 => ?_)
  refine ox_y rfl (y_assign_int rfl) ?_
  refine ox_y rfl (y_assign_int rfl) ?_
  refine ox_nil ?_
  refine ex_then ?_
  refine cx_seq ?_
  refine cx_seq ?_
  refine cx_region ?_
  refine ox_y rfl (y_loadN 0 [.int .i64 p0_w.x0, .int .i64 p0_w.x1, .int .i64 p0_w.x2] ag_43 rfl rfl rfl) ?_
  obtain ⟨y3, hy4, h⟩ := bind_some h
  refine ox_y rfl (y_call [.agg #[.int .i64 p0_w.x0, .int .i64 p0_w.x1, .int .i64 p0_w.x2]] go_91 rfl (fun W2 hW2 => calxref03_whole_ok p0_w y3 hy4 W2 ) rfl) ?_
  refine ox_y rfl (y_not rfl) ?_
  refine ox_y rfl (y_move_bool rfl) ?_
  obtain ⟨b6, hb7, h⟩ := bind_some h
  refine ox_join 4 (fun tm0 => (upd (upd (upd (upd (upd (upd (upd tm0 0 (.agg #[.int .i64 p0_w.x0, .int .i64 p0_w.x1, .int .i64 p0_w.x2])) 1 (.agg #[.int .i64 p1_s.x0, .int .i64 p1_s.x1, .int .i64 p1_s.x2])) 2 (.pointer (some ⟨b1, 0, none⟩))) 3 (.pointer (some ⟨b2, 0, none⟩))) 4 (.int .i64 0)) 5 (.int .i64 0)) 13 (.bool b6))) (fun tm0 => ?_) (fun key => ?_)
  · refine ox_nil ?_
    refine ex_then ?_
    rcases ite_some h with ⟨hp8, h⟩ | ⟨hp8, h⟩
    · refine cx_true (congrArg Value.bool hp8) ?_
      refine cx_seq ?_
      refine cx_region ?_
      refine ox_y rfl (y_assign_int rfl) ?_
      refine ox_y rfl (y_assign_int rfl) ?_
      refine ox_nil ?_
      refine ex_then ?_
      refine cx_ret ?_
      refine ex_then_ret ?_
      obtain rfl := Option.some.inj h
      exact ex_res2 (.inl rfl) rfl (resV_tmp (v := .int .i64 0) rfl) (resV_tmp (v := .int .i64 1) rfl) (fun W2 hW2 => ⟨rfl, hW2.none⟩)
    · refine cx_false (congrArg Value.bool hp8) ?_
      refine cx_skip ?_
      refine ex_then ?_
      refine cx_seq ?_
      refine cx_region ?_
      refine ox_y rfl (y_loadN 0 [.int .i64 p0_w.x0, .int .i64 p0_w.x1, .int .i64 p0_w.x2] ag_43 rfl rfl rfl) ?_
      refine ox_y rfl (y_loadN 1 [.int .i64 p1_s.x0, .int .i64 p1_s.x1, .int .i64 p1_s.x2] ag_43 rfl rfl rfl) ?_
      obtain ⟨y9, hy10, h⟩ := bind_some h
      refine ox_y rfl (y_call [.agg #[.int .i64 p0_w.x0, .int .i64 p0_w.x1, .int .i64 p0_w.x2], .agg #[.int .i64 p1_s.x0, .int .i64 p1_s.x1, .int .i64 p1_s.x2]] go_93 rfl (fun W2 hW2 => calxref03_ways_ok p0_w p1_s y9 hy10 W2 ) rfl) ?_
      refine ox_y rfl (y_assign_int rfl) ?_
      refine ox_y rfl (y_assign_int rfl) ?_
      refine ox_nil ?_
      refine ex_then ?_
      refine cx_ret ?_
      obtain rfl := Option.some.inj h
      exact ex_res2 (.inl rfl) rfl (resV_tmp (v := .int .i64 y9) rfl) (resV_tmp (v := .int .i64 0) rfl) (fun W2 hW2 => ⟨rfl, hW2.none⟩)
  · clear h; rcases ite_some hb7 with ⟨hp5, h⟩ | ⟨hp5, h⟩
    · refine ox_skip (sees_f rfl rfl rfl rfl hp5) ?_
      refine ox_skip (sees_f rfl rfl rfl rfl hp5) ?_
      refine ox_skip (sees_f rfl rfl rfl rfl hp5) ?_
      refine ox_y rfl (y_pick_tb (congrArg Value.bool hp5) rfl) ?_
      obtain rfl := Option.some.inj h
      exact key _ _ (keep (keep (keep (keep (keep (keep (keep rfl rfl) rfl) rfl) rfl) rfl) rfl) rfl)
    · refine ox_y (sees_t rfl rfl rfl rfl hp5) (y_loadN 1 [.int .i64 p1_s.x0, .int .i64 p1_s.x1, .int .i64 p1_s.x2] ag_43 rfl rfl rfl) ?_
      obtain ⟨y11, hy12, h⟩ := bind_some h
      refine ox_y (sees_t rfl rfl rfl rfl hp5) (y_call [.agg #[.int .i64 p1_s.x0, .int .i64 p1_s.x1, .int .i64 p1_s.x2]] go_92 rfl (fun W2 hW2 => calxref03_sorted_ok p1_s y11 hy12 W2 ) rfl) ?_
      refine ox_y (sees_t rfl rfl rfl rfl hp5) (y_not rfl) ?_
      refine ox_y rfl (y_pick_fb (congrArg Value.bool hp5) rfl) ?_
      obtain rfl := Option.some.inj h
      exact key _ _ (keep (keep (keep (keep (keep (keep (keep rfl rfl) rfl) rfl) rfl) rfl) rfl) rfl)

/-! calx/calxref03.Chance -/
set_option maxRecDepth 100000 in
theorem calxref03_Chance_ok (p0_w : TKinds) (p1_s : TKinds) (res : (TRatio × Int)) (h : calxref03_Chance p0_w p1_s = some res) (W : World)  :
    Calls Try.prog 33 [.agg #[.int .i64 p0_w.x0, .int .i64 p0_w.x1, .int .i64 p0_w.x2], .agg #[.int .i64 p1_s.x0, .int .i64 p1_s.x1, .int .i64 p1_s.x2]].toArray W fun e W2 => e = .returned (.tuple #[.agg #[.int .i64 res.1.fNum, .int .i64 res.1.fDen], .int .i64 res.2]) ∧ Ext W W2 [] := by
  unfold calxref03_Chance at h
  refine calls_enter (m := 30) Try.func33 rfl rfl (Nat.le_of_ble_eq_true rfl) ?_
  refine cx_seq ?_
  refine cx_region ?_
  refine ox_box [.int .i64 p0_w.x0, .int .i64 p0_w.x1, .int .i64 p0_w.x2] rfl rfl rfl (fun b1 => ?_)
  refine ox_box [.int .i64 p1_s.x0, .int .i64 p1_s.x1, .int .i64 p1_s.x2] rfl rfl rfl (fun b2 => ?_)
  refine ox_alloc ze_23 rfl (fun b3 => ?_)
  refine ox_y rfl (y_assign_int rfl) ?_
  refine ox_nil ?_
  refine ex_then ?_
  refine cx_seq ?_
  refine cx_seq ?_
  refine cx_region ?_
  refine ox_y rfl (y_loadN 0 [.int .i64 p0_w.x0, .int .i64 p0_w.x1, .int .i64 p0_w.x2] ag_43 rfl rfl rfl) ?_
  obtain ⟨y4, hy5, h⟩ := bind_some h
  refine ox_y rfl (y_call [.agg #[.int .i64 p0_w.x0, .int .i64 p0_w.x1, .int .i64 p0_w.x2]] go_91 rfl (fun W2 hW2 => calxref03_whole_ok p0_w y4 hy5 W2 ) rfl) ?_
  refine ox_y rfl (y_not rfl) ?_
  refine ox_y rfl (y_move_bool rfl) ?_
  obtain ⟨b7, hb8, h⟩ := bind_some h
  refine ox_join 4 (fun tm0 => (upd (upd (upd (upd (upd (upd (upd tm0 0 (.agg #[.int .i64 p0_w.x0, .int .i64 p0_w.x1, .int .i64 p0_w.x2])) 1 (.agg #[.int .i64 p1_s.x0, .int .i64 p1_s.x1, .int .i64 p1_s.x2])) 2 (.pointer (some ⟨b1, 0, none⟩))) 3 (.pointer (some ⟨b2, 0, none⟩))) 4 (.pointer (some ⟨b3, 0, none⟩))) 5 (.int .i64 0)) 13 (.bool b7))) (fun tm0 => ?_) (fun key => ?_)
  · refine ox_nil ?_
    refine ex_then ?_
    rcases ite_some h with ⟨hp9, h⟩ | ⟨hp9, h⟩
    · refine cx_true (congrArg Value.bool hp9) ?_
      refine cx_seq ?_
      refine cx_region ?_
      refine ox_y rfl (y_buildS [.int .i64 0, .int .i64 0] [(0, 1), (1, 1)] ust_23 ze_23 (by kernel_rfl)) ?_
      refine ox_n rfl (y_storeN 2 [.int .i64 0, .int .i64 0] sz_23 rfl (Nat.le_of_ble_eq_true rfl) rfl rfl rfl) ?_
      refine ox_y rfl (y_assign_int rfl) ?_
      refine ox_nil ?_
      refine ex_then ?_
      refine cx_ret ?_
      refine ex_then_ret ?_
      obtain rfl := Option.some.inj h
      exact ex_res2 (.inl rfl) rfl (resV_cellN 2 [.int .i64 0, .int .i64 0] ag_23 rfl rfl rfl) (resV_tmp (v := .int .i64 1) rfl) (fun W2 hW2 => ⟨rfl, hW2.none⟩)
    · refine cx_false (congrArg Value.bool hp9) ?_
      refine cx_skip ?_
      refine ex_then ?_
      refine cx_seq ?_
      refine cx_seq ?_
      refine cx_draws 5 mixed (by kernel_rfl) (by kernel_rfl) ?_
      refine qx_y rfl (y_loadN 1 [.int .i64 p1_s.x0, .int .i64 p1_s.x1, .int .i64 p1_s.x2] ag_43 rfl rfl rfl) ?_
      obtain ⟨y10, hy11, h⟩ := bind_some h
      refine qx_y rfl (y_call [.agg #[.int .i64 p1_s.x0, .int .i64 p1_s.x1, .int .i64 p1_s.x2]] go_96 rfl (fun W2 hW2 => calxref03_all_ok p1_s y10 hy11 W2 ) rfl) ?_
      refine qx_y rfl (y_loadN 0 [.int .i64 p0_w.x0, .int .i64 p0_w.x1, .int .i64 p0_w.x2] ag_43 rfl rfl rfl) ?_
      obtain ⟨y12, hy13, h⟩ := bind_some h
      refine qx_y rfl (y_call [.agg #[.int .i64 p0_w.x0, .int .i64 p0_w.x1, .int .i64 p0_w.x2]] go_96 rfl (fun W2 hW2 => calxref03_all_ok p0_w y12 hy13 W2 ) rfl) ?_
      refine qx_y rfl (y_gtr rfl rfl) ?_
      refine qx_nil ?_
      refine ox_nil ?_
      refine ex_then ?_
      rcases ite_some h with ⟨hp14, h⟩ | ⟨hp14, h⟩
      · refine cx_true (congrArg Value.bool hp14) ?_
        refine cx_seq ?_
        refine cx_region ?_
        refine ox_y rfl (y_buildS [.int .i64 0, .int .i64 0] [(0, 1), (1, 1)] ust_23 ze_23 (by kernel_rfl)) ?_
        refine ox_n rfl (y_storeN 2 [.int .i64 0, .int .i64 0] sz_23 rfl (Nat.le_of_ble_eq_true rfl) rfl rfl rfl) ?_
        refine ox_y rfl (y_assign_int rfl) ?_
        refine ox_nil ?_
        refine ex_then ?_
        refine cx_ret ?_
        refine ex_then_ret ?_
        obtain rfl := Option.some.inj h
        exact ex_res2 (.inl rfl) rfl (resV_cellN 2 [.int .i64 0, .int .i64 0] ag_23 rfl rfl rfl) (resV_tmp (v := .int .i64 3) rfl) (fun W2 hW2 => ⟨rfl, hW2.none⟩)
      · refine cx_false (congrArg Value.bool hp14) ?_
        refine cx_skip ?_
        refine ex_then ?_
        refine cx_seq ?_
        refine cx_draws 9 mixed (by kernel_rfl) (by kernel_rfl) ?_
        refine qx_y rfl (y_loadN 0 [.int .i64 p0_w.x0, .int .i64 p0_w.x1, .int .i64 p0_w.x2] ag_43 rfl rfl rfl) ?_
        refine qx_y rfl (y_loadN 1 [.int .i64 p1_s.x0, .int .i64 p1_s.x1, .int .i64 p1_s.x2] ag_43 rfl rfl rfl) ?_
        obtain ⟨y15, hy16, h⟩ := bind_some h
        refine qx_y rfl (y_call [.agg #[.int .i64 p0_w.x0, .int .i64 p0_w.x1, .int .i64 p0_w.x2], .agg #[.int .i64 p1_s.x0, .int .i64 p1_s.x1, .int .i64 p1_s.x2]] go_93 rfl (fun W2 hW2 => calxref03_ways_ok p0_w p1_s y15 hy16 W2 ) rfl) ?_
        refine qx_y rfl (y_loadN 0 [.int .i64 p0_w.x0, .int .i64 p0_w.x1, .int .i64 p0_w.x2] ag_43 rfl rfl rfl) ?_
        obtain ⟨y17, hy18, h⟩ := bind_some h
        refine qx_y rfl (y_call [.agg #[.int .i64 p0_w.x0, .int .i64 p0_w.x1, .int .i64 p0_w.x2]] go_96 rfl (fun W2 hW2 => calxref03_all_ok p0_w y17 hy18 W2 ) rfl) ?_
        refine qx_y rfl (y_loadN 1 [.int .i64 p1_s.x0, .int .i64 p1_s.x1, .int .i64 p1_s.x2] ag_43 rfl rfl rfl) ?_
        obtain ⟨y19, hy20, h⟩ := bind_some h
        refine qx_y rfl (y_call [.agg #[.int .i64 p1_s.x0, .int .i64 p1_s.x1, .int .i64 p1_s.x2]] go_96 rfl (fun W2 hW2 => calxref03_all_ok p1_s y19 hy20 W2 ) rfl) ?_
        obtain ⟨y21, hy22, h⟩ := bind_some h
        refine qx_y rfl (y_call [.int .i64 y17, .int .i64 y19] go_81 rfl (fun W2 hW2 => calxref03_choose_ok y17 y19 y21 hy22 W2 ) rfl) ?_
        obtain ⟨y23, hy24, h⟩ := bind_some h
        refine qx_y rfl (y_call [.int .i64 y15, .int .i64 y21] go_97 rfl (fun W2 hW2 => calxref03_ratio_ok y15 y21 y23 hy24 W2 ) rfl) ?_
        refine qx_nil ?_
        refine ox_n rfl (y_storeN 2 [.int .i64 y23.fNum, .int .i64 y23.fDen] sz_23 rfl (Nat.le_of_ble_eq_true rfl) rfl rfl rfl) ?_
        refine ox_y rfl (y_assign_int rfl) ?_
        refine ox_nil ?_
        refine ex_then ?_
        refine cx_ret ?_
        obtain rfl := Option.some.inj h
        exact ex_res2 (.inl rfl) rfl (resV_cellN 2 [.int .i64 y23.fNum, .int .i64 y23.fDen] ag_23 rfl rfl rfl) (resV_tmp (v := .int .i64 0) rfl) (fun W2 hW2 => ⟨rfl, hW2.none⟩)
  · clear h; rcases ite_some hb8 with ⟨hp6, h⟩ | ⟨hp6, h⟩
    · refine ox_skip (sees_f rfl rfl rfl rfl hp6) ?_
      refine ox_skip (sees_f rfl rfl rfl rfl hp6) ?_
      refine ox_skip (sees_f rfl rfl rfl rfl hp6) ?_
      refine ox_y rfl (y_pick_tb (congrArg Value.bool hp6) rfl) ?_
      obtain rfl := Option.some.inj h
      exact key _ _ (keep (keep (keep (keep (keep (keep (keep rfl rfl) rfl) rfl) rfl) rfl) rfl) rfl)
    · refine ox_y (sees_t rfl rfl rfl rfl hp6) (y_loadN 1 [.int .i64 p1_s.x0, .int .i64 p1_s.x1, .int .i64 p1_s.x2] ag_43 rfl rfl rfl) ?_
      obtain ⟨y25, hy26, h⟩ := bind_some h
      refine ox_y (sees_t rfl rfl rfl rfl hp6) (y_call [.agg #[.int .i64 p1_s.x0, .int .i64 p1_s.x1, .int .i64 p1_s.x2]] go_92 rfl (fun W2 hW2 => calxref03_sorted_ok p1_s y25 hy26 W2 ) rfl) ?_
      refine ox_y (sees_t rfl rfl rfl rfl hp6) (y_not rfl) ?_
      refine ox_y rfl (y_pick_fb (congrArg Value.bool hp6) rfl) ?_
      obtain rfl := Option.some.inj h
      exact key _ _ (keep (keep (keep (keep (keep (keep (keep rfl rfl) rfl) rfl) rfl) rfl) rfl) rfl)

/-! calx/calxlaw03.SampleWays -/
set_option maxRecDepth 100000 in
theorem calxlaw03_SampleWays_ok (p0 : Int) (p1 : Int) (p2 : TKinds) (p3 : TKinds) (res : Bool) (h : calxlaw03_SampleWays p0 p1 p2 p3 = some res) (W : World)  :
    Calls Try.prog 5 [.int .i64 p0, .int .i64 p1, .agg #[.int .i64 p2.x0, .int .i64 p2.x1, .int .i64 p2.x2], .agg #[.int .i64 p3.x0, .int .i64 p3.x1, .int .i64 p3.x2]].toArray W fun e W2 => e = .returned (.bool res) ∧ Ext W W2 [] := by
  unfold calxlaw03_SampleWays at h
  refine calls_enter (m := 90) Try.func5 rfl rfl (Nat.le_of_ble_eq_true rfl) ?_
  refine cx_seq ?_
  refine cx_region ?_
  refine ox_box [.int .i64 p2.x0, .int .i64 p2.x1, .int .i64 p2.x2] rfl rfl rfl (fun b1 => ?_)
  refine ox_box [.int .i64 p3.x0, .int .i64 p3.x1, .int .i64 p3.x2] rfl rfl rfl (fun b2 => ?_)
  refine ox_y rfl (y_assign_bool rfl) ?_
  refine ox_nil ?_
  refine ex_then ?_
  refine cx_seq ?_
  refine cx_region ?_
  obtain ⟨y3, hy4, h⟩ := bind_some h
  refine ox_y rfl (y_call [] go_22 rfl (fun W2 hW2 => calxlaw03_head_ok  y3 hy4 W2 ) rfl) ?_
  refine ox_y rfl (y_assign_bool rfl) ?_
  refine ox_nil ?_
  refine ex_then ?_
  refine cx_seq ?_
  refine cx_region ?_
  refine ox_y rfl (y_move_int rfl) ?_
  refine ox_y rfl (y_move_int rfl) ?_
  obtain ⟨y5, hy6, h⟩ := bind_some h
  refine ox_y rfl (y_call [.int .i64 p0, .int .i64 p1] go_28 rfl (fun W2 hW2 => sample_Choose_ok p0 p1 y5 hy6 W2 ) rfl) ?_
  refine ox_y rfl (y_move_tuple rfl) ?_
  refine ox_y rfl (y_extract (vs := [.int .i64 y5.1, .int .i64 y5.2]) (v := .int .i64 y5.1) rfl rfl) ?_
  refine ox_y rfl (y_extract (vs := [.int .i64 y5.1, .int .i64 y5.2]) (v := .int .i64 y5.2) rfl rfl) ?_
  refine ox_y rfl (y_assign_int rfl) ?_
  refine ox_y rfl (y_assign_int rfl) ?_
  refine ox_nil ?_
  refine ex_then ?_
  refine cx_seq ?_
  refine cx_region ?_
  refine ox_y rfl (y_move_int rfl) ?_
  refine ox_y rfl (y_move_int rfl) ?_
  obtain ⟨y7, hy8, h⟩ := bind_some h
  refine ox_y rfl (y_call [.int .i64 p0, .int .i64 p1] go_29 rfl (fun W2 hW2 => calxref03_Choose_ok p0 p1 y7 hy8 W2 ) rfl) ?_
  refine ox_y rfl (y_move_tuple rfl) ?_
  refine ox_y rfl (y_extract (vs := [.int .i64 y7.1, .int .i64 y7.2]) (v := .int .i64 y7.1) rfl rfl) ?_
  refine ox_y rfl (y_extract (vs := [.int .i64 y7.1, .int .i64 y7.2]) (v := .int .i64 y7.2) rfl rfl) ?_
  refine ox_y rfl (y_assign_int rfl) ?_
  refine ox_y rfl (y_assign_int rfl) ?_
  refine ox_nil ?_
  refine ex_then ?_
  refine cx_seq ?_
  refine cx_region ?_
  refine ox_y rfl (y_loadN 0 [.int .i64 p2.x0, .int .i64 p2.x1, .int .i64 p2.x2] ag_43 rfl rfl rfl) ?_
  refine ox_y rfl (y_loadN 1 [.int .i64 p3.x0, .int .i64 p3.x1, .int .i64 p3.x2] ag_43 rfl rfl rfl) ?_
  obtain ⟨y9, hy10, h⟩ := bind_some h
  refine ox_y rfl (y_call [.agg #[.int .i64 p2.x0, .int .i64 p2.x1, .int .i64 p2.x2], .agg #[.int .i64 p3.x0, .int .i64 p3.x1, .int .i64 p3.x2]] go_30 rfl (fun W2 hW2 => sample_Ways_ok p2 p3 y9 hy10 W2 ) rfl) ?_
  refine ox_y rfl (y_move_tuple rfl) ?_
  refine ox_y rfl (y_extract (vs := [.int .i64 y9.1, .int .i64 y9.2]) (v := .int .i64 y9.1) rfl rfl) ?_
  refine ox_y rfl (y_extract (vs := [.int .i64 y9.1, .int .i64 y9.2]) (v := .int .i64 y9.2) rfl rfl) ?_
  refine ox_y rfl (y_assign_int rfl) ?_
  refine ox_y rfl (y_assign_int rfl) ?_
  refine ox_nil ?_
  refine ex_then ?_
  refine cx_seq ?_
  refine cx_region ?_
  refine ox_y rfl (y_loadN 0 [.int .i64 p2.x0, .int .i64 p2.x1, .int .i64 p2.x2] ag_43 rfl rfl rfl) ?_
  refine ox_y rfl (y_loadN 1 [.int .i64 p3.x0, .int .i64 p3.x1, .int .i64 p3.x2] ag_43 rfl rfl rfl) ?_
  obtain ⟨y11, hy12, h⟩ := bind_some h
  refine ox_y rfl (y_call [.agg #[.int .i64 p2.x0, .int .i64 p2.x1, .int .i64 p2.x2], .agg #[.int .i64 p3.x0, .int .i64 p3.x1, .int .i64 p3.x2]] go_31 rfl (fun W2 hW2 => calxref03_Ways_ok p2 p3 y11 hy12 W2 ) rfl) ?_
  refine ox_y rfl (y_move_tuple rfl) ?_
  refine ox_y rfl (y_extract (vs := [.int .i64 y11.1, .int .i64 y11.2]) (v := .int .i64 y11.1) rfl rfl) ?_
  refine ox_y rfl (y_extract (vs := [.int .i64 y11.1, .int .i64 y11.2]) (v := .int .i64 y11.2) rfl rfl) ?_
  refine ox_y rfl (y_assign_int rfl) ?_
  refine ox_y rfl (y_assign_int rfl) ?_
  refine ox_nil ?_
  refine ex_then ?_
  refine cx_seq ?_
  refine cx_region ?_
  refine ox_y rfl (y_loadN 0 [.int .i64 p2.x0, .int .i64 p2.x1, .int .i64 p2.x2] ag_43 rfl rfl rfl) ?_
  refine ox_y rfl (y_loadN 1 [.int .i64 p3.x0, .int .i64 p3.x1, .int .i64 p3.x2] ag_43 rfl rfl rfl) ?_
  obtain ⟨y13, hy14, h⟩ := bind_some h
  refine ox_y rfl (y_call [.agg #[.int .i64 p2.x0, .int .i64 p2.x1, .int .i64 p2.x2], .agg #[.int .i64 p3.x0, .int .i64 p3.x1, .int .i64 p3.x2]] go_32 rfl (fun W2 hW2 => sample_Chance_ok p2 p3 y13 hy14 W2 ) rfl) ?_
  refine ox_y rfl (y_move_tuple rfl) ?_
  refine ox_y rfl (y_extract (vs := [.agg #[.int .i64 y13.1.fNum, .int .i64 y13.1.fDen], .int .i64 y13.2]) (v := .agg #[.int .i64 y13.1.fNum, .int .i64 y13.1.fDen]) rfl rfl) ?_
  refine ox_y rfl (y_extract (vs := [.agg #[.int .i64 y13.1.fNum, .int .i64 y13.1.fDen], .int .i64 y13.2]) (v := .int .i64 y13.2) rfl rfl) ?_
  refine ox_alloc ze_23 rfl (fun b15 => ?_)
  refine ox_n rfl (y_storeN 2 [.int .i64 y13.1.fNum, .int .i64 y13.1.fDen] sz_23 rfl (Nat.le_of_ble_eq_true rfl) rfl rfl rfl) ?_
  refine ox_y rfl (y_assign_int rfl) ?_
  refine ox_nil ?_
  refine ex_then ?_
  refine cx_seq ?_
  refine cx_region ?_
  refine ox_y rfl (y_loadN 0 [.int .i64 p2.x0, .int .i64 p2.x1, .int .i64 p2.x2] ag_43 rfl rfl rfl) ?_
  refine ox_y rfl (y_loadN 1 [.int .i64 p3.x0, .int .i64 p3.x1, .int .i64 p3.x2] ag_43 rfl rfl rfl) ?_
  obtain ⟨y16, hy17, h⟩ := bind_some h
  refine ox_y rfl (y_call [.agg #[.int .i64 p2.x0, .int .i64 p2.x1, .int .i64 p2.x2], .agg #[.int .i64 p3.x0, .int .i64 p3.x1, .int .i64 p3.x2]] go_33 rfl (fun W2 hW2 => calxref03_Chance_ok p2 p3 y16 hy17 W2 ) rfl) ?_
  refine ox_y rfl (y_move_tuple rfl) ?_
  refine ox_y rfl (y_extract (vs := [.agg #[.int .i64 y16.1.fNum, .int .i64 y16.1.fDen], .int .i64 y16.2]) (v := .agg #[.int .i64 y16.1.fNum, .int .i64 y16.1.fDen]) rfl rfl) ?_
  refine ox_y rfl (y_extract (vs := [.agg #[.int .i64 y16.1.fNum, .int .i64 y16.1.fDen], .int .i64 y16.2]) (v := .int .i64 y16.2) rfl rfl) ?_
  refine ox_alloc ze_23 rfl (fun b18 => ?_)
  refine ox_n rfl (y_storeN 3 [.int .i64 y16.1.fNum, .int .i64 y16.1.fDen] sz_23 rfl (Nat.le_of_ble_eq_true rfl) rfl rfl rfl) ?_
  refine ox_y rfl (y_assign_int rfl) ?_
  refine ox_nil ?_
  refine ex_then ?_
  refine cx_seq ?_
  refine cx_region ?_
  refine ox_y rfl (y_move_bool rfl) ?_
  refine ox_y rfl (y_move_bool rfl) ?_
  refine ox_join 4 (fun tm0 => (upd (upd (upd (upd (upd (upd (upd (upd (upd (upd (upd (upd (upd (upd (upd (upd (upd (upd (upd (upd (upd tm0 0 (.int .i64 p0)) 1 (.int .i64 p1)) 2 (.agg #[.int .i64 p2.x0, .int .i64 p2.x1, .int .i64 p2.x2])) 3 (.agg #[.int .i64 p3.x0, .int .i64 p3.x1, .int .i64 p3.x2])) 6 (.pointer (some ⟨b1, 0, none⟩))) 7 (.pointer (some ⟨b2, 0, none⟩))) 8 (.bool false)) 9 (.bool y3)) 10 (.int .i64 y5.1)) 11 (.int .i64 y5.2)) 12 (.int .i64 y7.1)) 13 (.int .i64 y7.2)) 14 (.int .i64 y9.1)) 15 (.int .i64 y9.2)) 16 (.int .i64 y11.1)) 17 (.int .i64 y11.2)) 18 (.pointer (some ⟨b15, 0, none⟩))) 19 (.int .i64 y13.2)) 20 (.pointer (some ⟨b18, 0, none⟩))) 21 (.int .i64 y16.2)) 64 (.bool (y3 && (y5.1 == y7.1))))) (fun tm0 => ?_) (fun key => ?_)
  · refine ox_y rfl (y_move_bool rfl) ?_
    refine ox_join 4 (fun tm0 => (upd (upd (upd (upd (upd (upd (upd (upd (upd (upd (upd (upd (upd (upd (upd (upd (upd (upd (upd (upd (upd tm0 0 (.int .i64 p0)) 1 (.int .i64 p1)) 2 (.agg #[.int .i64 p2.x0, .int .i64 p2.x1, .int .i64 p2.x2])) 3 (.agg #[.int .i64 p3.x0, .int .i64 p3.x1, .int .i64 p3.x2])) 6 (.pointer (some ⟨b1, 0, none⟩))) 7 (.pointer (some ⟨b2, 0, none⟩))) 8 (.bool false)) 9 (.bool y3)) 10 (.int .i64 y5.1)) 11 (.int .i64 y5.2)) 12 (.int .i64 y7.1)) 13 (.int .i64 y7.2)) 14 (.int .i64 y9.1)) 15 (.int .i64 y9.2)) 16 (.int .i64 y11.1)) 17 (.int .i64 y11.2)) 18 (.pointer (some ⟨b15, 0, none⟩))) 19 (.int .i64 y13.2)) 20 (.pointer (some ⟨b18, 0, none⟩))) 21 (.int .i64 y16.2)) 69 (.bool ((y3 && (y5.1 == y7.1)) && (y5.2 == y7.2))))) (fun tm0 => ?_) (fun key => ?_)
    · refine ox_y rfl (y_move_bool rfl) ?_
      refine ox_join 4 (fun tm0 => (upd (upd (upd (upd (upd (upd (upd (upd (upd (upd (upd (upd (upd (upd (upd (upd (upd (upd (upd (upd (upd tm0 0 (.int .i64 p0)) 1 (.int .i64 p1)) 2 (.agg #[.int .i64 p2.x0, .int .i64 p2.x1, .int .i64 p2.x2])) 3 (.agg #[.int .i64 p3.x0, .int .i64 p3.x1, .int .i64 p3.x2])) 6 (.pointer (some ⟨b1, 0, none⟩))) 7 (.pointer (some ⟨b2, 0, none⟩))) 8 (.bool false)) 9 (.bool y3)) 10 (.int .i64 y5.1)) 11 (.int .i64 y5.2)) 12 (.int .i64 y7.1)) 13 (.int .i64 y7.2)) 14 (.int .i64 y9.1)) 15 (.int .i64 y9.2)) 16 (.int .i64 y11.1)) 17 (.int .i64 y11.2)) 18 (.pointer (some ⟨b15, 0, none⟩))) 19 (.int .i64 y13.2)) 20 (.pointer (some ⟨b18, 0, none⟩))) 21 (.int .i64 y16.2)) 74 (.bool (((y3 && (y5.1 == y7.1)) && (y5.2 == y7.2)) && (y9.1 == y11.1))))) (fun tm0 => ?_) (fun key => ?_)
      · refine ox_y rfl (y_move_bool rfl) ?_
        refine ox_join 4 (fun tm0 => (upd (upd (upd (upd (upd (upd (upd (upd (upd (upd (upd (upd (upd (upd (upd (upd (upd (upd (upd (upd (upd tm0 0 (.int .i64 p0)) 1 (.int .i64 p1)) 2 (.agg #[.int .i64 p2.x0, .int .i64 p2.x1, .int .i64 p2.x2])) 3 (.agg #[.int .i64 p3.x0, .int .i64 p3.x1, .int .i64 p3.x2])) 6 (.pointer (some ⟨b1, 0, none⟩))) 7 (.pointer (some ⟨b2, 0, none⟩))) 8 (.bool false)) 9 (.bool y3)) 10 (.int .i64 y5.1)) 11 (.int .i64 y5.2)) 12 (.int .i64 y7.1)) 13 (.int .i64 y7.2)) 14 (.int .i64 y9.1)) 15 (.int .i64 y9.2)) 16 (.int .i64 y11.1)) 17 (.int .i64 y11.2)) 18 (.pointer (some ⟨b15, 0, none⟩))) 19 (.int .i64 y13.2)) 20 (.pointer (some ⟨b18, 0, none⟩))) 21 (.int .i64 y16.2)) 79 (.bool ((((y3 && (y5.1 == y7.1)) && (y5.2 == y7.2)) && (y9.1 == y11.1)) && (y9.2 == y11.2))))) (fun tm0 => ?_) (fun key => ?_)
        · refine ox_y rfl (y_move_bool rfl) ?_
          refine ox_join 4 (fun tm0 => (upd (upd (upd (upd (upd (upd (upd (upd (upd (upd (upd (upd (upd (upd (upd (upd (upd (upd (upd (upd (upd tm0 0 (.int .i64 p0)) 1 (.int .i64 p1)) 2 (.agg #[.int .i64 p2.x0, .int .i64 p2.x1, .int .i64 p2.x2])) 3 (.agg #[.int .i64 p3.x0, .int .i64 p3.x1, .int .i64 p3.x2])) 6 (.pointer (some ⟨b1, 0, none⟩))) 7 (.pointer (some ⟨b2, 0, none⟩))) 8 (.bool false)) 9 (.bool y3)) 10 (.int .i64 y5.1)) 11 (.int .i64 y5.2)) 12 (.int .i64 y7.1)) 13 (.int .i64 y7.2)) 14 (.int .i64 y9.1)) 15 (.int .i64 y9.2)) 16 (.int .i64 y11.1)) 17 (.int .i64 y11.2)) 18 (.pointer (some ⟨b15, 0, none⟩))) 19 (.int .i64 y13.2)) 20 (.pointer (some ⟨b18, 0, none⟩))) 21 (.int .i64 y16.2)) 84 (.bool (((((y3 && (y5.1 == y7.1)) && (y5.2 == y7.2)) && (y9.1 == y11.1)) && (y9.2 == y11.2)) && ((y13.1.fNum == y16.1.fNum) && (y13.1.fDen == y16.1.fDen)))))) (fun tm0 => ?_) (fun key => ?_)
          · refine ox_y rfl (y_move_bool rfl) ?_
            refine ox_join 4 (fun tm0 => (upd (upd (upd (upd (upd (upd (upd (upd (upd (upd (upd (upd (upd (upd (upd (upd (upd (upd (upd (upd (upd tm0 0 (.int .i64 p0)) 1 (.int .i64 p1)) 2 (.agg #[.int .i64 p2.x0, .int .i64 p2.x1, .int .i64 p2.x2])) 3 (.agg #[.int .i64 p3.x0, .int .i64 p3.x1, .int .i64 p3.x2])) 6 (.pointer (some ⟨b1, 0, none⟩))) 7 (.pointer (some ⟨b2, 0, none⟩))) 8 (.bool false)) 9 (.bool y3)) 10 (.int .i64 y5.1)) 11 (.int .i64 y5.2)) 12 (.int .i64 y7.1)) 13 (.int .i64 y7.2)) 14 (.int .i64 y9.1)) 15 (.int .i64 y9.2)) 16 (.int .i64 y11.1)) 17 (.int .i64 y11.2)) 18 (.pointer (some ⟨b15, 0, none⟩))) 19 (.int .i64 y13.2)) 20 (.pointer (some ⟨b18, 0, none⟩))) 21 (.int .i64 y16.2)) 89 (.bool ((((((y3 && (y5.1 == y7.1)) && (y5.2 == y7.2)) && (y9.1 == y11.1)) && (y9.2 == y11.2)) && ((y13.1.fNum == y16.1.fNum) && (y13.1.fDen == y16.1.fDen))) && (y13.2 == y16.2))))) (fun tm0 => ?_) (fun key => ?_)
            · refine ox_y rfl (y_assign_bool rfl) ?_
              refine ox_nil ?_
              refine ex_then ?_
              refine cx_ret ?_
              obtain rfl := Option.some.inj h
              exact ex_res1 (.inl rfl) rfl (resV_tmp (v := .bool ((((((y3 && (y5.1 == y7.1)) && (y5.2 == y7.2)) && (y9.1 == y11.1)) && (y9.2 == y11.2)) && ((y13.1.fNum == y16.1.fNum) && (y13.1.fDen == y16.1.fDen))) && (y13.2 == y16.2))) rfl) (fun W2 hW2 => ⟨rfl, hW2.none⟩)
            · rcases bool_cases (((((y3 && (y5.1 == y7.1)) && (y5.2 == y7.2)) && (y9.1 == y11.1)) && (y9.2 == y11.2)) && ((y13.1.fNum == y16.1.fNum) && (y13.1.fDen == y16.1.fDen))) with hp24 | hp24
              · refine ox_y (sees_t rfl rfl rfl rfl hp24) (y_move_int rfl) ?_
                refine ox_y (sees_t rfl rfl rfl rfl hp24) (y_move_int rfl) ?_
                refine ox_y (sees_t rfl rfl rfl rfl hp24) (y_eql rfl rfl) ?_
                refine ox_y rfl (y_pick_tb (congrArg Value.bool hp24) rfl) ?_
                exact key _ _ (keep (keep (keep (keep (keep (keep (keep (keep (keep (keep (keep (keep (keep (keep (keep (keep (keep (keep (keep (keep (keep rfl rfl) rfl) rfl) rfl) rfl) rfl) rfl) rfl) rfl) rfl) rfl) rfl) rfl) rfl) rfl) rfl) rfl) rfl) rfl) rfl) (congrArg Value.bool (and_t hp24)))
              · refine ox_skip (sees_f rfl rfl rfl rfl hp24) ?_
                refine ox_skip (sees_f rfl rfl rfl rfl hp24) ?_
                refine ox_skip (sees_f rfl rfl rfl rfl hp24) ?_
                refine ox_y rfl (y_pick_fb (congrArg Value.bool hp24) rfl) ?_
                exact key _ _ (keep (keep (keep (keep (keep (keep (keep (keep (keep (keep (keep (keep (keep (keep (keep (keep (keep (keep (keep (keep (keep rfl rfl) rfl) rfl) rfl) rfl) rfl) rfl) rfl) rfl) rfl) rfl) rfl) rfl) rfl) rfl) rfl) rfl) rfl) rfl) rfl) (congrArg Value.bool (and_f hp24)))
          · rcases bool_cases ((((y3 && (y5.1 == y7.1)) && (y5.2 == y7.2)) && (y9.1 == y11.1)) && (y9.2 == y11.2)) with hp23 | hp23
            · refine ox_y (sees_t rfl rfl rfl rfl hp23) (y_loadN 2 [.int .i64 y13.1.fNum, .int .i64 y13.1.fDen] ag_23 rfl rfl rfl) ?_
              refine ox_y (sees_t rfl rfl rfl rfl hp23) (y_loadN 3 [.int .i64 y16.1.fNum, .int .i64 y16.1.fDen] ag_23 rfl rfl rfl) ?_
              refine ox_y (sees_t rfl rfl rfl rfl hp23) (y_eqla (b := ((y13.1.fNum == y16.1.fNum) && (y13.1.fDen == y16.1.fDen))) eg_23 rfl rfl (fun _ => (eqS2 fl_23 (part1 sc_3 rfl) (part1 sc_3 rfl) (part1 sc_3 rfl) (part1 sc_3 rfl) (run_equalIn_int _ _ _ _ _ _ _ ui_3) (run_equalIn_int _ _ _ _ _ _ _ ui_3)))) ?_
              refine ox_y rfl (y_pick_tb (congrArg Value.bool hp23) rfl) ?_
              exact key _ _ (keep (keep (keep (keep (keep (keep (keep (keep (keep (keep (keep (keep (keep (keep (keep (keep (keep (keep (keep (keep (keep rfl rfl) rfl) rfl) rfl) rfl) rfl) rfl) rfl) rfl) rfl) rfl) rfl) rfl) rfl) rfl) rfl) rfl) rfl) rfl) rfl) (congrArg Value.bool (and_t hp23)))
            · refine ox_skip (sees_f rfl rfl rfl rfl hp23) ?_
              refine ox_skip (sees_f rfl rfl rfl rfl hp23) ?_
              refine ox_skip (sees_f rfl rfl rfl rfl hp23) ?_
              refine ox_y rfl (y_pick_fb (congrArg Value.bool hp23) rfl) ?_
              exact key _ _ (keep (keep (keep (keep (keep (keep (keep (keep (keep (keep (keep (keep (keep (keep (keep (keep (keep (keep (keep (keep (keep rfl rfl) rfl) rfl) rfl) rfl) rfl) rfl) rfl) rfl) rfl) rfl) rfl) rfl) rfl) rfl) rfl) rfl) rfl) rfl) rfl) (congrArg Value.bool (and_f hp23)))
        · rcases bool_cases (((y3 && (y5.1 == y7.1)) && (y5.2 == y7.2)) && (y9.1 == y11.1)) with hp22 | hp22
          · refine ox_y (sees_t rfl rfl rfl rfl hp22) (y_move_int rfl) ?_
            refine ox_y (sees_t rfl rfl rfl rfl hp22) (y_move_int rfl) ?_
            refine ox_y (sees_t rfl rfl rfl rfl hp22) (y_eql rfl rfl) ?_
            refine ox_y rfl (y_pick_tb (congrArg Value.bool hp22) rfl) ?_
            exact key _ _ (keep (keep (keep (keep (keep (keep (keep (keep (keep (keep (keep (keep (keep (keep (keep (keep (keep (keep (keep (keep (keep rfl rfl) rfl) rfl) rfl) rfl) rfl) rfl) rfl) rfl) rfl) rfl) rfl) rfl) rfl) rfl) rfl) rfl) rfl) rfl) rfl) (congrArg Value.bool (and_t hp22)))
          · refine ox_skip (sees_f rfl rfl rfl rfl hp22) ?_
            refine ox_skip (sees_f rfl rfl rfl rfl hp22) ?_
            refine ox_skip (sees_f rfl rfl rfl rfl hp22) ?_
            refine ox_y rfl (y_pick_fb (congrArg Value.bool hp22) rfl) ?_
            exact key _ _ (keep (keep (keep (keep (keep (keep (keep (keep (keep (keep (keep (keep (keep (keep (keep (keep (keep (keep (keep (keep (keep rfl rfl) rfl) rfl) rfl) rfl) rfl) rfl) rfl) rfl) rfl) rfl) rfl) rfl) rfl) rfl) rfl) rfl) rfl) rfl) rfl) (congrArg Value.bool (and_f hp22)))
      · rcases bool_cases ((y3 && (y5.1 == y7.1)) && (y5.2 == y7.2)) with hp21 | hp21
        · refine ox_y (sees_t rfl rfl rfl rfl hp21) (y_move_int rfl) ?_
          refine ox_y (sees_t rfl rfl rfl rfl hp21) (y_move_int rfl) ?_
          refine ox_y (sees_t rfl rfl rfl rfl hp21) (y_eql rfl rfl) ?_
          refine ox_y rfl (y_pick_tb (congrArg Value.bool hp21) rfl) ?_
          exact key _ _ (keep (keep (keep (keep (keep (keep (keep (keep (keep (keep (keep (keep (keep (keep (keep (keep (keep (keep (keep (keep (keep rfl rfl) rfl) rfl) rfl) rfl) rfl) rfl) rfl) rfl) rfl) rfl) rfl) rfl) rfl) rfl) rfl) rfl) rfl) rfl) rfl) (congrArg Value.bool (and_t hp21)))
        · refine ox_skip (sees_f rfl rfl rfl rfl hp21) ?_
          refine ox_skip (sees_f rfl rfl rfl rfl hp21) ?_
          refine ox_skip (sees_f rfl rfl rfl rfl hp21) ?_
          refine ox_y rfl (y_pick_fb (congrArg Value.bool hp21) rfl) ?_
          exact key _ _ (keep (keep (keep (keep (keep (keep (keep (keep (keep (keep (keep (keep (keep (keep (keep (keep (keep (keep (keep (keep (keep rfl rfl) rfl) rfl) rfl) rfl) rfl) rfl) rfl) rfl) rfl) rfl) rfl) rfl) rfl) rfl) rfl) rfl) rfl) rfl) rfl) (congrArg Value.bool (and_f hp21)))
    · rcases bool_cases (y3 && (y5.1 == y7.1)) with hp20 | hp20
      · refine ox_y (sees_t rfl rfl rfl rfl hp20) (y_move_int rfl) ?_
        refine ox_y (sees_t rfl rfl rfl rfl hp20) (y_move_int rfl) ?_
        refine ox_y (sees_t rfl rfl rfl rfl hp20) (y_eql rfl rfl) ?_
        refine ox_y rfl (y_pick_tb (congrArg Value.bool hp20) rfl) ?_
        exact key _ _ (keep (keep (keep (keep (keep (keep (keep (keep (keep (keep (keep (keep (keep (keep (keep (keep (keep (keep (keep (keep (keep rfl rfl) rfl) rfl) rfl) rfl) rfl) rfl) rfl) rfl) rfl) rfl) rfl) rfl) rfl) rfl) rfl) rfl) rfl) rfl) rfl) (congrArg Value.bool (and_t hp20)))
      · refine ox_skip (sees_f rfl rfl rfl rfl hp20) ?_
        refine ox_skip (sees_f rfl rfl rfl rfl hp20) ?_
        refine ox_skip (sees_f rfl rfl rfl rfl hp20) ?_
        refine ox_y rfl (y_pick_fb (congrArg Value.bool hp20) rfl) ?_
        exact key _ _ (keep (keep (keep (keep (keep (keep (keep (keep (keep (keep (keep (keep (keep (keep (keep (keep (keep (keep (keep (keep (keep rfl rfl) rfl) rfl) rfl) rfl) rfl) rfl) rfl) rfl) rfl) rfl) rfl) rfl) rfl) rfl) rfl) rfl) rfl) rfl) rfl) (congrArg Value.bool (and_f hp20)))
  · rcases bool_cases y3 with hp19 | hp19
    · refine ox_y (sees_t rfl rfl rfl rfl hp19) (y_move_int rfl) ?_
      refine ox_y (sees_t rfl rfl rfl rfl hp19) (y_move_int rfl) ?_
      refine ox_y (sees_t rfl rfl rfl rfl hp19) (y_eql rfl rfl) ?_
      refine ox_y rfl (y_pick_tb (congrArg Value.bool hp19) rfl) ?_
      exact key _ _ (keep (keep (keep (keep (keep (keep (keep (keep (keep (keep (keep (keep (keep (keep (keep (keep (keep (keep (keep (keep (keep rfl rfl) rfl) rfl) rfl) rfl) rfl) rfl) rfl) rfl) rfl) rfl) rfl) rfl) rfl) rfl) rfl) rfl) rfl) rfl) rfl) (congrArg Value.bool (and_t hp19)))
    · refine ox_skip (sees_f rfl rfl rfl rfl hp19) ?_
      refine ox_skip (sees_f rfl rfl rfl rfl hp19) ?_
      refine ox_skip (sees_f rfl rfl rfl rfl hp19) ?_
      refine ox_y rfl (y_pick_fb (congrArg Value.bool hp19) rfl) ?_
      exact key _ _ (keep (keep (keep (keep (keep (keep (keep (keep (keep (keep (keep (keep (keep (keep (keep (keep (keep (keep (keep (keep (keep rfl rfl) rfl) rfl) rfl) rfl) rfl) rfl) rfl) rfl) rfl) rfl) rfl) rfl) rfl) rfl) rfl) rfl) rfl) rfl) rfl) (congrArg Value.bool (and_f hp19)))

end Go.Proofs.Ytepfgdfahinpkaa
