/- The calls hand back what the plain functions say. -/
import Derived.Test.YtepfgdfahinpkaaF
import Derived.Test.YtepfgdfahinpkaaC3
import Derived.Test.YtepfgdfahinpkaaC4
import Derived.Test.YtepfgdfahinpkaaC5
import Derived.Test.YtepfgdfahinpkaaC10
import Derived.Test.YtepfgdfahinpkaaC12
import Derived.Test.YtepfgdfahinpkaaC19
import Derived.Test.YtepfgdfahinpkaaC21
set_option linter.unusedVariables false
set_option maxHeartbeats 4000000
namespace Go.Proofs.Ytepfgdfahinpkaa
open Go.RowKit (Below)
attribute [local irreducible] OX QX CX EX OpY Calls CallsIn

/-! calx/calxref03.Pass -/
set_option maxRecDepth 100000 in
theorem calxref03_Pass_ok (p0_barrows : Int) (p1_bad : Int) (p2_p : TTrial) (res : (TRatio × Int)) (h : calxref03_Pass p0_barrows p1_bad p2_p = some res) (W : World)  :
    Calls Try.prog 65 [.int .i64 p0_barrows, .int .i64 p1_bad, .agg #[.int .i64 p2_p.fSample, .int .i64 p2_p.fAccept]].toArray W fun e W2 => e = .returned (.tuple #[.agg #[.int .i64 res.1.fNum, .int .i64 res.1.fDen], .int .i64 res.2]) ∧ Ext W W2 [] := by
  unfold calxref03_Pass at h
  refine calls_enter (m := 40) Try.func65 rfl rfl (Nat.le_of_ble_eq_true rfl) ?_
  refine cx_seq ?_
  refine cx_region ?_
  refine ox_box [.int .i64 p2_p.fSample, .int .i64 p2_p.fAccept] rfl rfl rfl (fun b1 => ?_)
  refine ox_alloc ze_23 rfl (fun b2 => ?_)
  refine ox_y rfl (y_assign_int rfl) ?_
  refine ox_nil ?_
  refine ex_then ?_
  refine cx_seq ?_
  refine cx_seq ?_
  refine cx_region ?_
  refine ox_y rfl (y_move_int rfl) ?_
  refine ox_y rfl (y_move_int rfl) ?_
  obtain ⟨y3, hy4, h⟩ := bind_some h
  refine ox_y rfl (y_call [.int .i64 p0_barrows, .int .i64 p1_bad] go_115 rfl (fun W2 hW2 => calxref03_lot_ok p0_barrows p1_bad y3 hy4 W2 ) rfl) ?_
  refine ox_y rfl (y_not rfl) ?_
  refine ox_y rfl (y_move_bool rfl) ?_
  obtain ⟨b6, hb7, h⟩ := bind_some h
  refine ox_join 6 (fun tm0 => (upd (upd (upd (upd (upd (upd (upd tm0 0 (.int .i64 p0_barrows)) 1 (.int .i64 p1_bad)) 2 (.agg #[.int .i64 p2_p.fSample, .int .i64 p2_p.fAccept])) 5 (.pointer (some ⟨b1, 0, none⟩))) 6 (.pointer (some ⟨b2, 0, none⟩))) 7 (.int .i64 0)) 18 (.bool b6))) (fun tm0 => ?_) (fun key => ?_)
  · refine ox_y rfl (y_move_bool rfl) ?_
    obtain ⟨b9, hb10, h⟩ := bind_some h
    refine ox_join 7 (fun tm0 => (upd (upd (upd (upd (upd (upd (upd tm0 0 (.int .i64 p0_barrows)) 1 (.int .i64 p1_bad)) 2 (.agg #[.int .i64 p2_p.fSample, .int .i64 p2_p.fAccept])) 5 (.pointer (some ⟨b1, 0, none⟩))) 6 (.pointer (some ⟨b2, 0, none⟩))) 7 (.int .i64 0)) 26 (.bool b9))) (fun tm0 => ?_) (fun key => ?_)
    · refine ox_nil ?_
      refine ex_then ?_
      rcases ite_some h with ⟨hp11, h⟩ | ⟨hp11, h⟩
      · refine cx_true (congrArg Value.bool hp11) ?_
        refine cx_seq ?_
        refine cx_region ?_
        refine ox_y rfl (y_buildS [.int .i64 0, .int .i64 0] [(0, 1), (1, 1)] ust_23 ze_23 (by kernel_rfl)) ?_
        refine ox_n rfl (y_storeN 1 [.int .i64 0, .int .i64 0] sz_23 rfl (Nat.le_of_ble_eq_true rfl) rfl rfl rfl) ?_
        refine ox_y rfl (y_assign_int rfl) ?_
        refine ox_nil ?_
        refine ex_then ?_
        refine cx_ret ?_
        refine ex_then_ret ?_
        obtain rfl := Option.some.inj h
        exact ex_res2 (.inl rfl) rfl (resV_cellN 1 [.int .i64 0, .int .i64 0] ag_23 rfl rfl rfl) (resV_tmp (v := .int .i64 1) rfl) (fun W2 hW2 => ⟨rfl, hW2.none⟩)
      · refine cx_false (congrArg Value.bool hp11) ?_
        refine cx_skip ?_
        refine ex_then ?_
        refine cx_seq ?_
        refine cx_draws 12 mixed (by kernel_rfl) (by kernel_rfl) ?_
        refine qx_y rfl (y_move_int rfl) ?_
        refine qx_y rfl (y_move_int rfl) ?_
        refine qx_y rfl (y_fieldAddr fo_26_0 rfl) ?_
        refine qx_y rfl (y_load1 0 (v := .int .i64 p2_p.fSample) sc_3 rfl rfl rfl) ?_
        refine qx_y rfl (y_fieldAddr fo_26_1 rfl) ?_
        refine qx_y rfl (y_load1 0 (v := .int .i64 p2_p.fAccept) sc_3 rfl rfl rfl) ?_
        obtain ⟨y12, hy13, h⟩ := bind_some h
        refine qx_y rfl (y_call [.int .i64 p0_barrows, .int .i64 p1_bad, .int .i64 p2_p.fSample, .int .i64 p2_p.fAccept] go_82 rfl (fun W2 hW2 => calxref03_atMost_ok p0_barrows p1_bad p2_p.fSample p2_p.fAccept y12 hy13 W2 ) rfl) ?_
        refine qx_y rfl (y_move_int rfl) ?_
        refine qx_y rfl (y_fieldAddr fo_26_0 rfl) ?_
        refine qx_y rfl (y_load1 0 (v := .int .i64 p2_p.fSample) sc_3 rfl rfl rfl) ?_
        obtain ⟨y14, hy15, h⟩ := bind_some h
        refine qx_y rfl (y_call [.int .i64 p0_barrows, .int .i64 p2_p.fSample] go_81 rfl (fun W2 hW2 => calxref03_choose_ok p0_barrows p2_p.fSample y14 hy15 W2 ) rfl) ?_
        obtain ⟨y16, hy17, h⟩ := bind_some h
        refine qx_y rfl (y_call [.int .i64 y12, .int .i64 y14] go_97 rfl (fun W2 hW2 => calxref03_ratio_ok y12 y14 y16 hy17 W2 ) rfl) ?_
        refine qx_nil ?_
        refine ox_n rfl (y_storeN 1 [.int .i64 y16.fNum, .int .i64 y16.fDen] sz_23 rfl (Nat.le_of_ble_eq_true rfl) rfl rfl rfl) ?_
        refine ox_y rfl (y_assign_int rfl) ?_
        refine ox_nil ?_
        refine ex_then ?_
        refine cx_ret ?_
        obtain rfl := Option.some.inj h
        exact ex_res2 (.inl rfl) rfl (resV_cellN 1 [.int .i64 y16.fNum, .int .i64 y16.fDen] ag_23 rfl rfl rfl) (resV_tmp (v := .int .i64 0) rfl) (fun W2 hW2 => ⟨rfl, hW2.none⟩)
    · clear h; rcases ite_some hb10 with ⟨hp8, h⟩ | ⟨hp8, h⟩
      · refine ox_skip (sees_f rfl rfl rfl rfl hp8) ?_
        refine ox_skip (sees_f rfl rfl rfl rfl hp8) ?_
        refine ox_skip (sees_f rfl rfl rfl rfl hp8) ?_
        refine ox_skip (sees_f rfl rfl rfl rfl hp8) ?_
        refine ox_skip (sees_f rfl rfl rfl rfl hp8) ?_
        refine ox_skip (sees_f rfl rfl rfl rfl hp8) ?_
        refine ox_y rfl (y_pick_tb (congrArg Value.bool hp8) rfl) ?_
        obtain rfl := Option.some.inj h
        exact key _ _ (keep (keep (keep (keep (keep (keep (keep rfl rfl) rfl) rfl) rfl) rfl) rfl) rfl)
      · refine ox_y (sees_t rfl rfl rfl rfl hp8) (y_fieldAddr fo_26_1 rfl) ?_
        refine ox_y (sees_t rfl rfl rfl rfl hp8) (y_load1 0 (v := .int .i64 p2_p.fAccept) sc_3 rfl rfl rfl) ?_
        refine ox_y (sees_t rfl rfl rfl rfl hp8) (y_fieldAddr fo_26_0 rfl) ?_
        refine ox_y (sees_t rfl rfl rfl rfl hp8) (y_load1 0 (v := .int .i64 p2_p.fSample) sc_3 rfl rfl rfl) ?_
        obtain ⟨y18, hy19, h⟩ := bind_some h
        refine ox_y (sees_t rfl rfl rfl rfl hp8) (y_call [.int .i64 p2_p.fAccept, .int .i64 0, .int .i64 p2_p.fSample] go_79 rfl (fun W2 hW2 => calxref03_in_ok p2_p.fAccept 0 p2_p.fSample y18 hy19 W2 ) rfl) ?_
        refine ox_y (sees_t rfl rfl rfl rfl hp8) (y_not rfl) ?_
        refine ox_y rfl (y_pick_fb (congrArg Value.bool hp8) rfl) ?_
        obtain rfl := Option.some.inj h
        exact key _ _ (keep (keep (keep (keep (keep (keep (keep rfl rfl) rfl) rfl) rfl) rfl) rfl) rfl)
  · clear h; rcases ite_some hb7 with ⟨hp5, h⟩ | ⟨hp5, h⟩
    · refine ox_skip (sees_f rfl rfl rfl rfl hp5) ?_
      refine ox_skip (sees_f rfl rfl rfl rfl hp5) ?_
      refine ox_skip (sees_f rfl rfl rfl rfl hp5) ?_
      refine ox_skip (sees_f rfl rfl rfl rfl hp5) ?_
      refine ox_skip (sees_f rfl rfl rfl rfl hp5) ?_
      refine ox_y rfl (y_pick_tb (congrArg Value.bool hp5) rfl) ?_
      obtain rfl := Option.some.inj h
      exact key _ _ (keep (keep (keep (keep (keep (keep (keep rfl rfl) rfl) rfl) rfl) rfl) rfl) rfl)
    · refine ox_y (sees_t rfl rfl rfl rfl hp5) (y_fieldAddr fo_26_0 rfl) ?_
      refine ox_y (sees_t rfl rfl rfl rfl hp5) (y_load1 0 (v := .int .i64 p2_p.fSample) sc_3 rfl rfl rfl) ?_
      refine ox_y (sees_t rfl rfl rfl rfl hp5) (y_move_int rfl) ?_
      obtain ⟨y20, hy21, h⟩ := bind_some h
      refine ox_y (sees_t rfl rfl rfl rfl hp5) (y_call [.int .i64 p2_p.fSample, .int .i64 0, .int .i64 p0_barrows] go_79 rfl (fun W2 hW2 => calxref03_in_ok p2_p.fSample 0 p0_barrows y20 hy21 W2 ) rfl) ?_
      refine ox_y (sees_t rfl rfl rfl rfl hp5) (y_not rfl) ?_
      refine ox_y rfl (y_pick_fb (congrArg Value.bool hp5) rfl) ?_
      obtain rfl := Option.some.inj h
      exact key _ _ (keep (keep (keep (keep (keep (keep (keep rfl rfl) rfl) rfl) rfl) rfl) rfl) rfl)

/-! calx/calxref03.PassTwice -/
set_option maxRecDepth 100000 in
theorem calxref03_PassTwice_ok (p0 : Int) (p1 : Int) (p2 : TDouble) (res : (TRatio × Int)) (h : calxref03_PassTwice p0 p1 p2 = some res) (W : World)  :
    Calls Try.prog 67 [.int .i64 p0, .int .i64 p1, .agg #[.int .i64 p2.fFirst, .int .i64 p2.fAccept, .int .i64 p2.fRefuse, .int .i64 p2.fSecond, .int .i64 p2.fTogether]].toArray W fun e W2 => e = .returned (.tuple #[.agg #[.int .i64 res.1.fNum, .int .i64 res.1.fDen], .int .i64 res.2]) ∧ Ext W W2 [] := by
  unfold calxref03_PassTwice at h
  refine calls_enter (m := 143) Try.func67 rfl rfl (Nat.le_of_ble_eq_true rfl) ?_
  refine cx_seq ?_
  refine cx_region ?_
  refine ox_box [.int .i64 p2.fFirst, .int .i64 p2.fAccept, .int .i64 p2.fRefuse, .int .i64 p2.fSecond, .int .i64 p2.fTogether] rfl rfl rfl (fun b1 => ?_)
  refine ox_alloc ze_23 rfl (fun b2 => ?_)
  refine ox_y rfl (y_assign_int rfl) ?_
  refine ox_nil ?_
  refine ex_then ?_
  refine cx_seq ?_
  refine cx_seq ?_
  refine cx_region ?_
  refine ox_y rfl (y_move_int rfl) ?_
  obtain ⟨y3, hy4, h⟩ := bind_some h
  refine ox_y rfl (y_call [.int .i64 p0, .int .i64 1, .int .i64 36] go_79 rfl (fun W2 hW2 => calxref03_in_ok p0 1 36 y3 hy4 W2 ) rfl) ?_
  refine ox_y rfl (y_not rfl) ?_
  refine ox_y rfl (y_move_bool rfl) ?_
  obtain ⟨b6, hb7, h⟩ := bind_some h
  refine ox_join 5 (fun tm0 => (upd (upd (upd (upd (upd (upd (upd tm0 0 (.int .i64 p0)) 1 (.int .i64 p1)) 2 (.agg #[.int .i64 p2.fFirst, .int .i64 p2.fAccept, .int .i64 p2.fRefuse, .int .i64 p2.fSecond, .int .i64 p2.fTogether])) 5 (.pointer (some ⟨b1, 0, none⟩))) 6 (.pointer (some ⟨b2, 0, none⟩))) 7 (.int .i64 0)) 20 (.bool b6))) (fun tm0 => ?_) (fun key => ?_)
  · refine ox_nil ?_
    refine ex_then ?_
    rcases ite_some h with ⟨hp8, h⟩ | ⟨hp8, h⟩
    · refine cx_true (congrArg Value.bool hp8) ?_
      refine cx_seq ?_
      refine cx_region ?_
      refine ox_y rfl (y_buildS [.int .i64 0, .int .i64 0] [(0, 1), (1, 1)] ust_23 ze_23 (by kernel_rfl)) ?_
      refine ox_n rfl (y_storeN 1 [.int .i64 0, .int .i64 0] sz_23 rfl (Nat.le_of_ble_eq_true rfl) rfl rfl rfl) ?_
      refine ox_y rfl (y_assign_int rfl) ?_
      refine ox_nil ?_
      refine ex_then ?_
      refine cx_ret ?_
      refine ex_then_ret ?_
      obtain rfl := Option.some.inj h
      exact ex_res2 (.inl rfl) rfl (resV_cellN 1 [.int .i64 0, .int .i64 0] ag_23 rfl rfl rfl) (resV_tmp (v := .int .i64 1) rfl) (fun W2 hW2 => ⟨rfl, hW2.none⟩)
    · refine cx_false (congrArg Value.bool hp8) ?_
      refine cx_skip ?_
      refine ex_then ?_
      refine cx_seq ?_
      refine cx_seq ?_
      refine cx_region ?_
      refine ox_y rfl (y_fieldAddr fo_97_0 rfl) ?_
      refine ox_y rfl (y_load1 0 (v := .int .i64 p2.fFirst) sc_3 rfl rfl rfl) ?_
      refine ox_y rfl (y_move_int rfl) ?_
      obtain ⟨y9, hy10, h⟩ := bind_some h
      refine ox_y rfl (y_call [.int .i64 p2.fFirst, .int .i64 0, .int .i64 p0] go_79 rfl (fun W2 hW2 => calxref03_in_ok p2.fFirst 0 p0 y9 hy10 W2 ) rfl) ?_
      refine ox_y rfl (y_not rfl) ?_
      refine ox_y rfl (y_move_bool rfl) ?_
      obtain ⟨b12, hb13, h⟩ := bind_some h
      refine ox_join 9 (fun tm0 => (upd (upd (upd (upd (upd (upd (upd (upd tm0 0 (.int .i64 p0)) 1 (.int .i64 p1)) 2 (.agg #[.int .i64 p2.fFirst, .int .i64 p2.fAccept, .int .i64 p2.fRefuse, .int .i64 p2.fSecond, .int .i64 p2.fTogether])) 5 (.pointer (some ⟨b1, 0, none⟩))) 6 (.pointer (some ⟨b2, 0, none⟩))) 7 (.int .i64 0)) 20 (.bool b6)) 36 (.bool b12))) (fun tm0 => ?_) (fun key => ?_)
      · refine ox_y rfl (y_move_bool rfl) ?_
        refine ox_join 4 (fun tm0 => (upd (upd (upd (upd (upd (upd (upd (upd tm0 0 (.int .i64 p0)) 1 (.int .i64 p1)) 2 (.agg #[.int .i64 p2.fFirst, .int .i64 p2.fAccept, .int .i64 p2.fRefuse, .int .i64 p2.fSecond, .int .i64 p2.fTogether])) 5 (.pointer (some ⟨b1, 0, none⟩))) 6 (.pointer (some ⟨b2, 0, none⟩))) 7 (.int .i64 0)) 20 (.bool b6)) 41 (.bool (b12 || (decide (p2.fAccept < 0)))))) (fun tm0 => ?_) (fun key => ?_)
        · refine ox_y rfl (y_move_bool rfl) ?_
          refine ox_join 6 (fun tm0 => (upd (upd (upd (upd (upd (upd (upd (upd tm0 0 (.int .i64 p0)) 1 (.int .i64 p1)) 2 (.agg #[.int .i64 p2.fFirst, .int .i64 p2.fAccept, .int .i64 p2.fRefuse, .int .i64 p2.fSecond, .int .i64 p2.fTogether])) 5 (.pointer (some ⟨b1, 0, none⟩))) 6 (.pointer (some ⟨b2, 0, none⟩))) 7 (.int .i64 0)) 20 (.bool b6)) 48 (.bool ((b12 || (decide (p2.fAccept < 0))) || (decide (p2.fRefuse ≤ p2.fAccept)))))) (fun tm0 => ?_) (fun key => ?_)
          · refine ox_y rfl (y_move_bool rfl) ?_
            refine ox_join 7 (fun tm0 => (upd (upd (upd (upd (upd (upd (upd (upd tm0 0 (.int .i64 p0)) 1 (.int .i64 p1)) 2 (.agg #[.int .i64 p2.fFirst, .int .i64 p2.fAccept, .int .i64 p2.fRefuse, .int .i64 p2.fSecond, .int .i64 p2.fTogether])) 5 (.pointer (some ⟨b1, 0, none⟩))) 6 (.pointer (some ⟨b2, 0, none⟩))) 7 (.int .i64 0)) 20 (.bool b6)) 56 (.bool (((b12 || (decide (p2.fAccept < 0))) || (decide (p2.fRefuse ≤ p2.fAccept))) || (decide (w64 (p2.fFirst + 1) < p2.fRefuse)))))) (fun tm0 => ?_) (fun key => ?_)
            · refine ox_y rfl (y_move_bool rfl) ?_
              obtain ⟨b18, hb19, h⟩ := bind_some h
              refine ox_join 12 (fun tm0 => (upd (upd (upd (upd (upd (upd (upd (upd tm0 0 (.int .i64 p0)) 1 (.int .i64 p1)) 2 (.agg #[.int .i64 p2.fFirst, .int .i64 p2.fAccept, .int .i64 p2.fRefuse, .int .i64 p2.fSecond, .int .i64 p2.fTogether])) 5 (.pointer (some ⟨b1, 0, none⟩))) 6 (.pointer (some ⟨b2, 0, none⟩))) 7 (.int .i64 0)) 20 (.bool b6)) 69 (.bool b18))) (fun tm0 => ?_) (fun key => ?_)
              · refine ox_nil ?_
                refine ex_then ?_
                rcases ite_some h with ⟨hp20, h⟩ | ⟨hp20, h⟩
                · refine cx_true (congrArg Value.bool hp20) ?_
                  refine cx_seq ?_
                  refine cx_region ?_
                  refine ox_y rfl (y_buildS [.int .i64 0, .int .i64 0] [(0, 1), (1, 1)] ust_23 ze_23 (by kernel_rfl)) ?_
                  refine ox_n rfl (y_storeN 1 [.int .i64 0, .int .i64 0] sz_23 rfl (Nat.le_of_ble_eq_true rfl) rfl rfl rfl) ?_
                  refine ox_y rfl (y_assign_int rfl) ?_
                  refine ox_nil ?_
                  refine ex_then ?_
                  refine cx_ret ?_
                  refine ex_then_ret ?_
                  obtain rfl := Option.some.inj h
                  exact ex_res2 (.inl rfl) rfl (resV_cellN 1 [.int .i64 0, .int .i64 0] ag_23 rfl rfl rfl) (resV_tmp (v := .int .i64 1) rfl) (fun W2 hW2 => ⟨rfl, hW2.none⟩)
                · refine cx_false (congrArg Value.bool hp20) ?_
                  refine cx_skip ?_
                  refine ex_then ?_
                  refine cx_seq ?_
                  refine cx_region ?_
                  refine ox_y rfl (y_move_int rfl) ?_
                  refine ox_y rfl (y_fieldAddr fo_97_0 rfl) ?_
                  refine ox_y rfl (y_load1 0 (v := .int .i64 p2.fFirst) sc_3 rfl rfl rfl) ?_
                  refine ox_y rfl (y_sub rfl rfl) ?_
                  refine ox_y rfl (y_fieldAddr fo_97_3 rfl) ?_
                  refine ox_y rfl (y_load1 0 (v := .int .i64 p2.fSecond) sc_3 rfl rfl rfl) ?_
                  obtain ⟨y21, hy22, h⟩ := bind_some h
                  refine ox_y rfl (y_call [.int .i64 (w64 (p0 - p2.fFirst)), .int .i64 p2.fSecond] go_81 rfl (fun W2 hW2 => calxref03_choose_ok (w64 (p0 - p2.fFirst)) p2.fSecond y21 hy22 W2 ) rfl) ?_
                  refine ox_y rfl (y_assign_int rfl) ?_
                  refine ox_nil ?_
                  refine ex_then ?_
                  refine cx_seq ?_
                  refine cx_region ?_
                  refine ox_y rfl (y_assign_int rfl) ?_
                  refine ox_nil ?_
                  refine ex_then ?_
                  refine cx_seq ?_
                  refine cx_seq ?_
                  refine cx_region ?_
                  refine ox_y rfl (y_assign_int rfl) ?_
                  refine ox_nil ?_
                  refine ex_then ?_
                  refine cx_block ?_
                  obtain ⟨u25, hl37, h⟩ := bind_some h
                  refine cx_loop (fun (s : (Int × Int)) L tm => ∃ (tm0 : Nat → Value), L = [cellsR b1 97 [.int .i64 p2.fFirst, .int .i64 p2.fAccept, .int .i64 p2.fRefuse, .int .i64 p2.fSecond, .int .i64 p2.fTogether], cellsR b2 23 [.int .i64 0, .int .i64 0]] ∧ tm = (upd (upd (upd (upd (upd (upd (upd (upd (upd (upd (upd tm0 0 (.int .i64 p0)) 1 (.int .i64 p1)) 2 (.agg #[.int .i64 p2.fFirst, .int .i64 p2.fAccept, .int .i64 p2.fRefuse, .int .i64 p2.fSecond, .int .i64 p2.fTogether])) 5 (.pointer (some ⟨b1, 0, none⟩))) 6 (.pointer (some ⟨b2, 0, none⟩))) 7 (.int .i64 0)) 20 (.bool b6)) 69 (.bool b18)) 8 (.int .i64 y21)) 9 (.int .i64 s.1)) 10 (.int .i64 s.2))) (fun s e L tm => e = .exit 0 ∧ ∃ (tm0 : Nat → Value), L = [cellsR b1 97 [.int .i64 p2.fFirst, .int .i64 p2.fAccept, .int .i64 p2.fRefuse, .int .i64 p2.fSecond, .int .i64 p2.fTogether], cellsR b2 23 [.int .i64 0, .int .i64 0]] ∧ tm = (upd (upd (upd (upd (upd (upd (upd (upd (upd (upd (upd tm0 0 (.int .i64 p0)) 1 (.int .i64 p1)) 2 (.agg #[.int .i64 p2.fFirst, .int .i64 p2.fAccept, .int .i64 p2.fRefuse, .int .i64 p2.fSecond, .int .i64 p2.fTogether])) 5 (.pointer (some ⟨b1, 0, none⟩))) 6 (.pointer (some ⟨b2, 0, none⟩))) 7 (.int .i64 0)) 20 (.bool b6)) 69 (.bool b18)) 8 (.int .i64 y21)) 9 (.int .i64 s.1)) 10 (.int .i64 s.2))) hl37 ⟨_, rfl, (keep (keep (keep (keep (keep (keep (keep (keep (keep (keep (keep rfl rfl) rfl) rfl) rfl) rfl) rfl) rfl) rfl) rfl) rfl) rfl)⟩ ?_ ?_
                  · rintro s24 L tm st ⟨tm0_s24, rfl, rfl⟩ h
                    unfold calxref03_PassTwice_l1 at h
                    refine cx_seq ?_
                    refine cx_seq ?_
                    refine cx_region ?_
                    refine ox_y rfl (y_move_int rfl) ?_
                    refine ox_y rfl (y_fieldAddr fo_97_0 rfl) ?_
                    refine ox_y rfl (y_load1 0 (v := .int .i64 p2.fFirst) sc_3 rfl rfl rfl) ?_
                    refine ox_y rfl (y_leq rfl rfl) ?_
                    refine ox_nil ?_
                    refine ex_then ?_
                    rcases ite_some h with ⟨hp26, h⟩ | ⟨hp26, h⟩
                    · refine cx_true (congrArg Value.bool hp26) ?_
                      refine cx_skip ?_
                      refine ex_then ?_
                      refine cx_seq ?_
                      refine cx_block ?_
                      refine cx_seq ?_
                      refine cx_draws 13 mixed (by kernel_rfl) (by kernel_rfl) ?_
                      refine qx_y rfl (y_move_int rfl) ?_
                      refine qx_y rfl (y_move_int rfl) ?_
                      obtain ⟨y27, hy28, h⟩ := bind_some h
                      refine qx_y rfl (y_call [.int .i64 p1, .int .i64 s24.2] go_81 rfl (fun W2 hW2 => calxref03_choose_ok p1 s24.2 y27 hy28 W2 ) rfl) ?_
                      refine qx_y rfl (y_move_int rfl) ?_
                      refine qx_y rfl (y_move_int rfl) ?_
                      refine qx_y rfl (y_sub rfl rfl) ?_
                      refine qx_y rfl (y_fieldAddr fo_97_0 rfl) ?_
                      refine qx_y rfl (y_load1 0 (v := .int .i64 p2.fFirst) sc_3 rfl rfl rfl) ?_
                      refine qx_y rfl (y_move_int rfl) ?_
                      refine qx_y rfl (y_sub rfl rfl) ?_
                      obtain ⟨y29, hy30, h⟩ := bind_some h
                      refine qx_y rfl (y_call [.int .i64 (w64 (p0 - p1)), .int .i64 (w64 (p2.fFirst - s24.2))] go_81 rfl (fun W2 hW2 => calxref03_choose_ok (w64 (p0 - p1)) (w64 (p2.fFirst - s24.2)) y29 hy30 W2 ) rfl) ?_
                      refine qx_y rfl (y_mul rfl rfl) ?_
                      refine qx_y rfl (y_assign_int rfl) ?_
                      refine qx_nil ?_
                      refine ox_nil ?_
                      refine ex_then ?_
                      refine cx_seq ?_
                      refine cx_seq ?_
                      refine cx_region ?_
                      refine ox_y rfl (y_move_int rfl) ?_
                      refine ox_y rfl (y_eql rfl rfl) ?_
                      refine ox_y rfl (y_move_bool rfl) ?_
                      refine ox_join 5 (fun tm0 => (upd (upd (upd (upd (upd (upd (upd (upd (upd (upd (upd (upd (upd (upd tm0 0 (.int .i64 p0)) 1 (.int .i64 p1)) 2 (.agg #[.int .i64 p2.fFirst, .int .i64 p2.fAccept, .int .i64 p2.fRefuse, .int .i64 p2.fSecond, .int .i64 p2.fTogether])) 5 (.pointer (some ⟨b1, 0, none⟩))) 6 (.pointer (some ⟨b2, 0, none⟩))) 7 (.int .i64 0)) 20 (.bool b6)) 69 (.bool b18)) 8 (.int .i64 y21)) 9 (.int .i64 s24.1)) 10 (.int .i64 s24.2)) 81 (.bool (decide (s24.2 ≤ p2.fFirst)))) 11 (.int .i64 (w64 (y27 * y29)))) 103 (.bool (((w64 (y27 * y29)) == 0) || (decide (p2.fRefuse ≤ s24.2)))))) (fun tm0 => ?_) (fun key => ?_)
                      · refine ox_nil ?_
                        refine ex_then ?_
                        rcases ite_some h with ⟨hp32, h⟩ | ⟨hp32, h⟩
                        · refine cx_true (congrArg Value.bool hp32) ?_
                          refine cx_exit ?_
                          refine ex_then_exit ?_
                          refine ex_block_here ?_
                          refine ex_then ?_
                          refine cx_region ?_
                          refine ox_y rfl (y_move_int rfl) ?_
                          refine ox_y rfl (y_add rfl rfl) ?_
                          refine ox_y rfl (y_assign_int rfl) ?_
                          refine ox_nil ?_
                          obtain rfl := Option.some.inj h
                          exact ex_next ⟨_, rfl, (keep (keep (keep (keep (keep (keep (keep (keep (keep (keep (keep rfl rfl) rfl) rfl) rfl) rfl) rfl) rfl) rfl) rfl) rfl) rfl)⟩
                        · refine cx_false (congrArg Value.bool hp32) ?_
                          refine cx_skip ?_
                          refine ex_then ?_
                          refine cx_seq ?_
                          refine cx_region ?_
                          refine ox_y rfl (y_move_int rfl) ?_
                          refine ox_y rfl (y_fieldAddr fo_97_1 rfl) ?_
                          refine ox_y rfl (y_load1 0 (v := .int .i64 p2.fAccept) sc_3 rfl rfl rfl) ?_
                          refine ox_y rfl (y_leq rfl rfl) ?_
                          refine ox_nil ?_
                          refine ex_then ?_
                          rcases ite_some h with ⟨hp33, h⟩ | ⟨hp33, h⟩
                          · refine cx_true (congrArg Value.bool hp33) ?_
                            refine cx_region ?_
                            refine ox_y rfl (y_move_int rfl) ?_
                            refine ox_y rfl (y_move_int rfl) ?_
                            refine ox_y rfl (y_move_int rfl) ?_
                            refine ox_y rfl (y_mul rfl rfl) ?_
                            refine ox_y rfl (y_add rfl rfl) ?_
                            refine ox_y rfl (y_assign_int rfl) ?_
                            refine ox_nil ?_
                            refine ex_block ?_
                            refine ex_then ?_
                            refine cx_region ?_
                            refine ox_y rfl (y_move_int rfl) ?_
                            refine ox_y rfl (y_add rfl rfl) ?_
                            refine ox_y rfl (y_assign_int rfl) ?_
                            refine ox_nil ?_
                            obtain rfl := Option.some.inj h
                            exact ex_next ⟨_, rfl, (keep (keep (keep (keep (keep (keep (keep (keep (keep (keep (keep rfl rfl) rfl) rfl) rfl) rfl) rfl) rfl) rfl) rfl) rfl) rfl)⟩
                          · refine cx_false (congrArg Value.bool hp33) ?_
                            refine cx_seq ?_
                            refine cx_region ?_
                            refine ox_y rfl (y_fieldAddr fo_97_4 rfl) ?_
                            refine ox_y rfl (y_load1 0 (v := .int .i64 p2.fTogether) sc_3 rfl rfl rfl) ?_
                            refine ox_y rfl (y_move_int rfl) ?_
                            refine ox_y rfl (y_geq rfl rfl) ?_
                            refine ox_nil ?_
                            refine ex_then ?_
                            rcases ite_some h with ⟨hp34, h⟩ | ⟨hp34, h⟩
                            · refine cx_true (congrArg Value.bool hp34) ?_
                              refine cx_region ?_
                              refine ox_y rfl (y_move_int rfl) ?_
                              refine ox_y rfl (y_move_int rfl) ?_
                              refine ox_y rfl (y_move_int rfl) ?_
                              refine ox_y rfl (y_fieldAddr fo_97_0 rfl) ?_
                              refine ox_y rfl (y_load1 0 (v := .int .i64 p2.fFirst) sc_3 rfl rfl rfl) ?_
                              refine ox_y rfl (y_sub rfl rfl) ?_
                              refine ox_y rfl (y_move_int rfl) ?_
                              refine ox_y rfl (y_move_int rfl) ?_
                              refine ox_y rfl (y_sub rfl rfl) ?_
                              refine ox_y rfl (y_fieldAddr fo_97_3 rfl) ?_
                              refine ox_y rfl (y_load1 0 (v := .int .i64 p2.fSecond) sc_3 rfl rfl rfl) ?_
                              refine ox_y rfl (y_fieldAddr fo_97_4 rfl) ?_
                              refine ox_y rfl (y_load1 0 (v := .int .i64 p2.fTogether) sc_3 rfl rfl rfl) ?_
                              refine ox_y rfl (y_move_int rfl) ?_
                              refine ox_y rfl (y_sub rfl rfl) ?_
                              obtain ⟨y35, hy36, h⟩ := bind_some h
                              refine ox_y rfl (y_call [.int .i64 (w64 (p0 - p2.fFirst)), .int .i64 (w64 (p1 - s24.2)), .int .i64 p2.fSecond, .int .i64 (w64 (p2.fTogether - s24.2))] go_82 rfl (fun W2 hW2 => calxref03_atMost_ok (w64 (p0 - p2.fFirst)) (w64 (p1 - s24.2)) p2.fSecond (w64 (p2.fTogether - s24.2)) y35 hy36 W2 ) rfl) ?_
                              refine ox_y rfl (y_mul rfl rfl) ?_
                              refine ox_y rfl (y_add rfl rfl) ?_
                              refine ox_y rfl (y_assign_int rfl) ?_
                              refine ox_nil ?_
                              refine ex_block ?_
                              refine ex_then ?_
                              refine cx_region ?_
                              refine ox_y rfl (y_move_int rfl) ?_
                              refine ox_y rfl (y_add rfl rfl) ?_
                              refine ox_y rfl (y_assign_int rfl) ?_
                              refine ox_nil ?_
                              obtain rfl := Option.some.inj h
                              exact ex_next ⟨_, rfl, (keep (keep (keep (keep (keep (keep (keep (keep (keep (keep (keep rfl rfl) rfl) rfl) rfl) rfl) rfl) rfl) rfl) rfl) rfl) rfl)⟩
                            · refine cx_false (congrArg Value.bool hp34) ?_
                              refine cx_skip ?_
                              refine ex_block ?_
                              refine ex_then ?_
                              refine cx_region ?_
                              refine ox_y rfl (y_move_int rfl) ?_
                              refine ox_y rfl (y_add rfl rfl) ?_
                              refine ox_y rfl (y_assign_int rfl) ?_
                              refine ox_nil ?_
                              obtain rfl := Option.some.inj h
                              exact ex_next ⟨_, rfl, (keep (keep (keep (keep (keep (keep (keep (keep (keep (keep (keep rfl rfl) rfl) rfl) rfl) rfl) rfl) rfl) rfl) rfl) rfl) rfl)⟩
                      · rcases bool_cases ((w64 (y27 * y29)) == 0) with hp31 | hp31
                        · refine ox_skip (sees_f rfl rfl rfl rfl hp31) ?_
                          refine ox_skip (sees_f rfl rfl rfl rfl hp31) ?_
                          refine ox_skip (sees_f rfl rfl rfl rfl hp31) ?_
                          refine ox_skip (sees_f rfl rfl rfl rfl hp31) ?_
                          refine ox_y rfl (y_pick_tb (congrArg Value.bool hp31) rfl) ?_
                          exact key _ _ (keep (keep (keep (keep (keep (keep (keep (keep (keep (keep (keep (keep (keep (keep rfl rfl) rfl) rfl) rfl) rfl) rfl) rfl) rfl) rfl) rfl) rfl) rfl) rfl) (congrArg Value.bool (or_t hp31)))
                        · refine ox_y (sees_t rfl rfl rfl rfl hp31) (y_move_int rfl) ?_
                          refine ox_y (sees_t rfl rfl rfl rfl hp31) (y_fieldAddr fo_97_2 rfl) ?_
                          refine ox_y (sees_t rfl rfl rfl rfl hp31) (y_load1 0 (v := .int .i64 p2.fRefuse) sc_3 rfl rfl rfl) ?_
                          refine ox_y (sees_t rfl rfl rfl rfl hp31) (y_geq rfl rfl) ?_
                          refine ox_y rfl (y_pick_fb (congrArg Value.bool hp31) rfl) ?_
                          exact key _ _ (keep (keep (keep (keep (keep (keep (keep (keep (keep (keep (keep (keep (keep (keep rfl rfl) rfl) rfl) rfl) rfl) rfl) rfl) rfl) rfl) rfl) rfl) rfl) rfl) (congrArg Value.bool (or_f hp31)))
                    · refine cx_false (congrArg Value.bool hp26) ?_
                      refine cx_exit ?_
                      refine ex_then_exit ?_
                      obtain rfl := Option.some.inj h
                      exact ex_stop ⟨rfl, _, rfl, (keep (keep (keep (keep (keep (keep (keep (keep (keep (keep (keep rfl rfl) rfl) rfl) rfl) rfl) rfl) rfl) rfl) rfl) rfl) rfl)⟩
                  · intro e L tm hJ
                    obtain ⟨rfl, tm0_u25, rfl, rfl⟩ := hJ
                    refine ⟨(by intro hc; cases hc), ?_⟩
                    refine ex_block_here ?_
                    refine ex_then ?_
                    refine cx_seq ?_
                    refine cx_region ?_
                    refine ox_y rfl (y_move_int rfl) ?_
                    refine ox_y rfl (y_move_int rfl) ?_
                    refine ox_y rfl (y_fieldAddr fo_97_0 rfl) ?_
                    refine ox_y rfl (y_load1 0 (v := .int .i64 p2.fFirst) sc_3 rfl rfl rfl) ?_
                    obtain ⟨y38, hy39, h⟩ := bind_some h
                    refine ox_y rfl (y_call [.int .i64 p0, .int .i64 p2.fFirst] go_81 rfl (fun W2 hW2 => calxref03_choose_ok p0 p2.fFirst y38 hy39 W2 ) rfl) ?_
                    refine ox_y rfl (y_move_int rfl) ?_
                    refine ox_y rfl (y_mul rfl rfl) ?_
                    obtain ⟨y40, hy41, h⟩ := bind_some h
                    refine ox_y rfl (y_call [.int .i64 u25.1, .int .i64 (w64 (y38 * y21))] go_97 rfl (fun W2 hW2 => calxref03_ratio_ok u25.1 (w64 (y38 * y21)) y40 hy41 W2 ) rfl) ?_
                    refine ox_n rfl (y_storeN 1 [.int .i64 y40.fNum, .int .i64 y40.fDen] sz_23 rfl (Nat.le_of_ble_eq_true rfl) rfl rfl rfl) ?_
                    refine ox_y rfl (y_assign_int rfl) ?_
                    refine ox_nil ?_
                    refine ex_then ?_
                    refine cx_ret ?_
                    obtain rfl := Option.some.inj h
                    exact ex_res2 (.inl rfl) rfl (resV_cellN 1 [.int .i64 y40.fNum, .int .i64 y40.fDen] ag_23 rfl rfl rfl) (resV_tmp (v := .int .i64 0) rfl) (fun W2 hW2 => ⟨rfl, hW2.none⟩)
              · clear h; rcases ite_some hb19 with ⟨hp17, h⟩ | ⟨hp17, h⟩
                · refine ox_skip (sees_f rfl rfl rfl rfl hp17) ?_
                  refine ox_skip (sees_f rfl rfl rfl rfl hp17) ?_
                  refine ox_skip (sees_f rfl rfl rfl rfl hp17) ?_
                  refine ox_skip (sees_f rfl rfl rfl rfl hp17) ?_
                  refine ox_skip (sees_f rfl rfl rfl rfl hp17) ?_
                  refine ox_skip (sees_f rfl rfl rfl rfl hp17) ?_
                  refine ox_skip (sees_f rfl rfl rfl rfl hp17) ?_
                  refine ox_skip (sees_f rfl rfl rfl rfl hp17) ?_
                  refine ox_skip (sees_f rfl rfl rfl rfl hp17) ?_
                  refine ox_skip (sees_f rfl rfl rfl rfl hp17) ?_
                  refine ox_skip (sees_f rfl rfl rfl rfl hp17) ?_
                  refine ox_y rfl (y_pick_tb (congrArg Value.bool hp17) rfl) ?_
                  obtain rfl := Option.some.inj h
                  exact key _ _ (keep (keep (keep (keep (keep (keep (keep (keep rfl rfl) rfl) rfl) rfl) rfl) rfl) rfl) rfl)
                · refine ox_y (sees_t rfl rfl rfl rfl hp17) (y_fieldAddr fo_97_4 rfl) ?_
                  refine ox_y (sees_t rfl rfl rfl rfl hp17) (y_load1 0 (v := .int .i64 p2.fTogether) sc_3 rfl rfl rfl) ?_
                  refine ox_y (sees_t rfl rfl rfl rfl hp17) (y_fieldAddr fo_97_1 rfl) ?_
                  refine ox_y (sees_t rfl rfl rfl rfl hp17) (y_load1 0 (v := .int .i64 p2.fAccept) sc_3 rfl rfl rfl) ?_
                  refine ox_y (sees_t rfl rfl rfl rfl hp17) (y_fieldAddr fo_97_0 rfl) ?_
                  refine ox_y (sees_t rfl rfl rfl rfl hp17) (y_load1 0 (v := .int .i64 p2.fFirst) sc_3 rfl rfl rfl) ?_
                  refine ox_y (sees_t rfl rfl rfl rfl hp17) (y_fieldAddr fo_97_3 rfl) ?_
                  refine ox_y (sees_t rfl rfl rfl rfl hp17) (y_load1 0 (v := .int .i64 p2.fSecond) sc_3 rfl rfl rfl) ?_
                  refine ox_y (sees_t rfl rfl rfl rfl hp17) (y_add rfl rfl) ?_
                  obtain ⟨y42, hy43, h⟩ := bind_some h
                  refine ox_y (sees_t rfl rfl rfl rfl hp17) (y_call [.int .i64 p2.fTogether, .int .i64 p2.fAccept, .int .i64 (w64 (p2.fFirst + p2.fSecond))] go_79 rfl (fun W2 hW2 => calxref03_in_ok p2.fTogether p2.fAccept (w64 (p2.fFirst + p2.fSecond)) y42 hy43 W2 ) rfl) ?_
                  refine ox_y (sees_t rfl rfl rfl rfl hp17) (y_not rfl) ?_
                  refine ox_y rfl (y_pick_fb (congrArg Value.bool hp17) rfl) ?_
                  obtain rfl := Option.some.inj h
                  exact key _ _ (keep (keep (keep (keep (keep (keep (keep (keep rfl rfl) rfl) rfl) rfl) rfl) rfl) rfl) rfl)
            · rcases bool_cases ((b12 || (decide (p2.fAccept < 0))) || (decide (p2.fRefuse ≤ p2.fAccept))) with hp16 | hp16
              · refine ox_skip (sees_f rfl rfl rfl rfl hp16) ?_
                refine ox_skip (sees_f rfl rfl rfl rfl hp16) ?_
                refine ox_skip (sees_f rfl rfl rfl rfl hp16) ?_
                refine ox_skip (sees_f rfl rfl rfl rfl hp16) ?_
                refine ox_skip (sees_f rfl rfl rfl rfl hp16) ?_
                refine ox_skip (sees_f rfl rfl rfl rfl hp16) ?_
                refine ox_y rfl (y_pick_tb (congrArg Value.bool hp16) rfl) ?_
                exact key _ _ (keep (keep (keep (keep (keep (keep (keep (keep rfl rfl) rfl) rfl) rfl) rfl) rfl) rfl) (congrArg Value.bool (or_t hp16)))
              · refine ox_y (sees_t rfl rfl rfl rfl hp16) (y_fieldAddr fo_97_2 rfl) ?_
                refine ox_y (sees_t rfl rfl rfl rfl hp16) (y_load1 0 (v := .int .i64 p2.fRefuse) sc_3 rfl rfl rfl) ?_
                refine ox_y (sees_t rfl rfl rfl rfl hp16) (y_fieldAddr fo_97_0 rfl) ?_
                refine ox_y (sees_t rfl rfl rfl rfl hp16) (y_load1 0 (v := .int .i64 p2.fFirst) sc_3 rfl rfl rfl) ?_
                refine ox_y (sees_t rfl rfl rfl rfl hp16) (y_add rfl rfl) ?_
                refine ox_y (sees_t rfl rfl rfl rfl hp16) (y_gtr rfl rfl) ?_
                refine ox_y rfl (y_pick_fb (congrArg Value.bool hp16) rfl) ?_
                exact key _ _ (keep (keep (keep (keep (keep (keep (keep (keep rfl rfl) rfl) rfl) rfl) rfl) rfl) rfl) (congrArg Value.bool (or_f hp16)))
          · rcases bool_cases (b12 || (decide (p2.fAccept < 0))) with hp15 | hp15
            · refine ox_skip (sees_f rfl rfl rfl rfl hp15) ?_
              refine ox_skip (sees_f rfl rfl rfl rfl hp15) ?_
              refine ox_skip (sees_f rfl rfl rfl rfl hp15) ?_
              refine ox_skip (sees_f rfl rfl rfl rfl hp15) ?_
              refine ox_skip (sees_f rfl rfl rfl rfl hp15) ?_
              refine ox_y rfl (y_pick_tb (congrArg Value.bool hp15) rfl) ?_
              exact key _ _ (keep (keep (keep (keep (keep (keep (keep (keep rfl rfl) rfl) rfl) rfl) rfl) rfl) rfl) (congrArg Value.bool (or_t hp15)))
            · refine ox_y (sees_t rfl rfl rfl rfl hp15) (y_fieldAddr fo_97_1 rfl) ?_
              refine ox_y (sees_t rfl rfl rfl rfl hp15) (y_load1 0 (v := .int .i64 p2.fAccept) sc_3 rfl rfl rfl) ?_
              refine ox_y (sees_t rfl rfl rfl rfl hp15) (y_fieldAddr fo_97_2 rfl) ?_
              refine ox_y (sees_t rfl rfl rfl rfl hp15) (y_load1 0 (v := .int .i64 p2.fRefuse) sc_3 rfl rfl rfl) ?_
              refine ox_y (sees_t rfl rfl rfl rfl hp15) (y_geq rfl rfl) ?_
              refine ox_y rfl (y_pick_fb (congrArg Value.bool hp15) rfl) ?_
              exact key _ _ (keep (keep (keep (keep (keep (keep (keep (keep rfl rfl) rfl) rfl) rfl) rfl) rfl) rfl) (congrArg Value.bool (or_f hp15)))
        · rcases bool_cases b12 with hp14 | hp14
          · refine ox_skip (sees_f rfl rfl rfl rfl hp14) ?_
            refine ox_skip (sees_f rfl rfl rfl rfl hp14) ?_
            refine ox_skip (sees_f rfl rfl rfl rfl hp14) ?_
            refine ox_y rfl (y_pick_tb (congrArg Value.bool hp14) rfl) ?_
            exact key _ _ (keep (keep (keep (keep (keep (keep (keep (keep rfl rfl) rfl) rfl) rfl) rfl) rfl) rfl) (congrArg Value.bool (or_t hp14)))
          · refine ox_y (sees_t rfl rfl rfl rfl hp14) (y_fieldAddr fo_97_1 rfl) ?_
            refine ox_y (sees_t rfl rfl rfl rfl hp14) (y_load1 0 (v := .int .i64 p2.fAccept) sc_3 rfl rfl rfl) ?_
            refine ox_y (sees_t rfl rfl rfl rfl hp14) (y_lss rfl rfl) ?_
            refine ox_y rfl (y_pick_fb (congrArg Value.bool hp14) rfl) ?_
            exact key _ _ (keep (keep (keep (keep (keep (keep (keep (keep rfl rfl) rfl) rfl) rfl) rfl) rfl) rfl) (congrArg Value.bool (or_f hp14)))
      · clear h; rcases ite_some hb13 with ⟨hp11, h⟩ | ⟨hp11, h⟩
        · refine ox_skip (sees_f rfl rfl rfl rfl hp11) ?_
          refine ox_skip (sees_f rfl rfl rfl rfl hp11) ?_
          refine ox_skip (sees_f rfl rfl rfl rfl hp11) ?_
          refine ox_skip (sees_f rfl rfl rfl rfl hp11) ?_
          refine ox_skip (sees_f rfl rfl rfl rfl hp11) ?_
          refine ox_skip (sees_f rfl rfl rfl rfl hp11) ?_
          refine ox_skip (sees_f rfl rfl rfl rfl hp11) ?_
          refine ox_skip (sees_f rfl rfl rfl rfl hp11) ?_
          refine ox_y rfl (y_pick_tb (congrArg Value.bool hp11) rfl) ?_
          obtain rfl := Option.some.inj h
          exact key _ _ (keep (keep (keep (keep (keep (keep (keep (keep rfl rfl) rfl) rfl) rfl) rfl) rfl) rfl) rfl)
        · refine ox_y (sees_t rfl rfl rfl rfl hp11) (y_fieldAddr fo_97_3 rfl) ?_
          refine ox_y (sees_t rfl rfl rfl rfl hp11) (y_load1 0 (v := .int .i64 p2.fSecond) sc_3 rfl rfl rfl) ?_
          refine ox_y (sees_t rfl rfl rfl rfl hp11) (y_move_int rfl) ?_
          refine ox_y (sees_t rfl rfl rfl rfl hp11) (y_fieldAddr fo_97_0 rfl) ?_
          refine ox_y (sees_t rfl rfl rfl rfl hp11) (y_load1 0 (v := .int .i64 p2.fFirst) sc_3 rfl rfl rfl) ?_
          refine ox_y (sees_t rfl rfl rfl rfl hp11) (y_sub rfl rfl) ?_
          obtain ⟨y44, hy45, h⟩ := bind_some h
          refine ox_y (sees_t rfl rfl rfl rfl hp11) (y_call [.int .i64 p2.fSecond, .int .i64 0, .int .i64 (w64 (p0 - p2.fFirst))] go_79 rfl (fun W2 hW2 => calxref03_in_ok p2.fSecond 0 (w64 (p0 - p2.fFirst)) y44 hy45 W2 ) rfl) ?_
          refine ox_y (sees_t rfl rfl rfl rfl hp11) (y_not rfl) ?_
          refine ox_y rfl (y_pick_fb (congrArg Value.bool hp11) rfl) ?_
          obtain rfl := Option.some.inj h
          exact key _ _ (keep (keep (keep (keep (keep (keep (keep (keep rfl rfl) rfl) rfl) rfl) rfl) rfl) rfl) rfl)
  · clear h; rcases ite_some hb7 with ⟨hp5, h⟩ | ⟨hp5, h⟩
    · refine ox_skip (sees_f rfl rfl rfl rfl hp5) ?_
      refine ox_skip (sees_f rfl rfl rfl rfl hp5) ?_
      refine ox_skip (sees_f rfl rfl rfl rfl hp5) ?_
      refine ox_skip (sees_f rfl rfl rfl rfl hp5) ?_
      refine ox_y rfl (y_pick_tb (congrArg Value.bool hp5) rfl) ?_
      obtain rfl := Option.some.inj h
      exact key _ _ (keep (keep (keep (keep (keep (keep (keep rfl rfl) rfl) rfl) rfl) rfl) rfl) rfl)
    · refine ox_y (sees_t rfl rfl rfl rfl hp5) (y_move_int rfl) ?_
      refine ox_y (sees_t rfl rfl rfl rfl hp5) (y_move_int rfl) ?_
      obtain ⟨y46, hy47, h⟩ := bind_some h
      refine ox_y (sees_t rfl rfl rfl rfl hp5) (y_call [.int .i64 p1, .int .i64 0, .int .i64 p0] go_79 rfl (fun W2 hW2 => calxref03_in_ok p1 0 p0 y46 hy47 W2 ) rfl) ?_
      refine ox_y (sees_t rfl rfl rfl rfl hp5) (y_not rfl) ?_
      refine ox_y rfl (y_pick_fb (congrArg Value.bool hp5) rfl) ?_
      obtain rfl := Option.some.inj h
      exact key _ _ (keep (keep (keep (keep (keep (keep (keep rfl rfl) rfl) rfl) rfl) rfl) rfl) rfl)

/-! calx/calxlaw03.SamplePlans -/
set_option maxRecDepth 100000 in
theorem calxlaw03_SamplePlans_ok (p0 : Int) (p1 : Int) (p2 : TTrial) (p3 : TDouble) (res : Bool) (h : calxlaw03_SamplePlans p0 p1 p2 p3 = some res) (W : World)  :
    Calls Try.prog 19 [.int .i64 p0, .int .i64 p1, .agg #[.int .i64 p2.fSample, .int .i64 p2.fAccept], .agg #[.int .i64 p3.fFirst, .int .i64 p3.fAccept, .int .i64 p3.fRefuse, .int .i64 p3.fSecond, .int .i64 p3.fTogether]].toArray W fun e W2 => e = .returned (.bool res) ∧ Ext W W2 [] := by
  unfold calxlaw03_SamplePlans at h
  refine calls_enter (m := 68) Try.func19 rfl rfl (Nat.le_of_ble_eq_true rfl) ?_
  refine cx_seq ?_
  refine cx_region ?_
  refine ox_box [.int .i64 p2.fSample, .int .i64 p2.fAccept] rfl rfl rfl (fun b1 => ?_)
  refine ox_box [.int .i64 p3.fFirst, .int .i64 p3.fAccept, .int .i64 p3.fRefuse, .int .i64 p3.fSecond, .int .i64 p3.fTogether] rfl rfl rfl (fun b2 => ?_)
  refine ox_y rfl (y_assign_bool rfl) ?_
  refine ox_nil ?_
  refine ex_then ?_
  refine cx_seq ?_
  refine cx_region ?_
  obtain ⟨y3, hy4, h⟩ := bind_some h
  refine ox_y rfl (y_call [] go_22 rfl (fun W2 hW2 => calxlaw03_head_ok  y3 hy4 W2 ) rfl) ?_
  refine ox_y rfl (y_assign_bool rfl) ?_
  refine ox_nil ?_
  refine ex_then ?_
  refine cx_seq ?_
  refine cx_region ?_
  refine ox_y rfl (y_move_int rfl) ?_
  refine ox_y rfl (y_move_int rfl) ?_
  refine ox_y rfl (y_loadN 0 [.int .i64 p2.fSample, .int .i64 p2.fAccept] ag_26 rfl rfl rfl) ?_
  obtain ⟨y5, hy6, h⟩ := bind_some h
  refine ox_y rfl (y_call [.int .i64 p0, .int .i64 p1, .agg #[.int .i64 p2.fSample, .int .i64 p2.fAccept]] go_64 rfl (fun W2 hW2 => sample_Pass_ok p0 p1 p2 y5 hy6 W2 ) rfl) ?_
  refine ox_y rfl (y_move_tuple rfl) ?_
  refine ox_y rfl (y_extract (vs := [.agg #[.int .i64 y5.1.fNum, .int .i64 y5.1.fDen], .int .i64 y5.2]) (v := .agg #[.int .i64 y5.1.fNum, .int .i64 y5.1.fDen]) rfl rfl) ?_
  refine ox_y rfl (y_extract (vs := [.agg #[.int .i64 y5.1.fNum, .int .i64 y5.1.fDen], .int .i64 y5.2]) (v := .int .i64 y5.2) rfl rfl) ?_
  refine ox_alloc ze_23 rfl (fun b7 => ?_)
  refine ox_n rfl (y_storeN 2 [.int .i64 y5.1.fNum, .int .i64 y5.1.fDen] sz_23 rfl (Nat.le_of_ble_eq_true rfl) rfl rfl rfl) ?_
  refine ox_y rfl (y_assign_int rfl) ?_
  refine ox_nil ?_
  refine ex_then ?_
  refine cx_seq ?_
  refine cx_region ?_
  refine ox_y rfl (y_move_int rfl) ?_
  refine ox_y rfl (y_move_int rfl) ?_
  refine ox_y rfl (y_loadN 0 [.int .i64 p2.fSample, .int .i64 p2.fAccept] ag_26 rfl rfl rfl) ?_
  obtain ⟨y8, hy9, h⟩ := bind_some h
  refine ox_y rfl (y_call [.int .i64 p0, .int .i64 p1, .agg #[.int .i64 p2.fSample, .int .i64 p2.fAccept]] go_65 rfl (fun W2 hW2 => calxref03_Pass_ok p0 p1 p2 y8 hy9 W2 ) rfl) ?_
  refine ox_y rfl (y_move_tuple rfl) ?_
  refine ox_y rfl (y_extract (vs := [.agg #[.int .i64 y8.1.fNum, .int .i64 y8.1.fDen], .int .i64 y8.2]) (v := .agg #[.int .i64 y8.1.fNum, .int .i64 y8.1.fDen]) rfl rfl) ?_
  refine ox_y rfl (y_extract (vs := [.agg #[.int .i64 y8.1.fNum, .int .i64 y8.1.fDen], .int .i64 y8.2]) (v := .int .i64 y8.2) rfl rfl) ?_
  refine ox_alloc ze_23 rfl (fun b10 => ?_)
  refine ox_n rfl (y_storeN 3 [.int .i64 y8.1.fNum, .int .i64 y8.1.fDen] sz_23 rfl (Nat.le_of_ble_eq_true rfl) rfl rfl rfl) ?_
  refine ox_y rfl (y_assign_int rfl) ?_
  refine ox_nil ?_
  refine ex_then ?_
  refine cx_seq ?_
  refine cx_region ?_
  refine ox_y rfl (y_move_int rfl) ?_
  refine ox_y rfl (y_move_int rfl) ?_
  refine ox_y rfl (y_loadN 1 [.int .i64 p3.fFirst, .int .i64 p3.fAccept, .int .i64 p3.fRefuse, .int .i64 p3.fSecond, .int .i64 p3.fTogether] ag_97 rfl rfl rfl) ?_
  obtain ⟨y11, hy12, h⟩ := bind_some h
  refine ox_y rfl (y_call [.int .i64 p0, .int .i64 p1, .agg #[.int .i64 p3.fFirst, .int .i64 p3.fAccept, .int .i64 p3.fRefuse, .int .i64 p3.fSecond, .int .i64 p3.fTogether]] go_66 rfl (fun W2 hW2 => sample_PassTwice_ok p0 p1 p3 y11 hy12 W2 ) rfl) ?_
  refine ox_y rfl (y_move_tuple rfl) ?_
  refine ox_y rfl (y_extract (vs := [.agg #[.int .i64 y11.1.fNum, .int .i64 y11.1.fDen], .int .i64 y11.2]) (v := .agg #[.int .i64 y11.1.fNum, .int .i64 y11.1.fDen]) rfl rfl) ?_
  refine ox_y rfl (y_extract (vs := [.agg #[.int .i64 y11.1.fNum, .int .i64 y11.1.fDen], .int .i64 y11.2]) (v := .int .i64 y11.2) rfl rfl) ?_
  refine ox_alloc ze_23 rfl (fun b13 => ?_)
  refine ox_n rfl (y_storeN 4 [.int .i64 y11.1.fNum, .int .i64 y11.1.fDen] sz_23 rfl (Nat.le_of_ble_eq_true rfl) rfl rfl rfl) ?_
  refine ox_y rfl (y_assign_int rfl) ?_
  refine ox_nil ?_
  refine ex_then ?_
  refine cx_seq ?_
  refine cx_region ?_
  refine ox_y rfl (y_move_int rfl) ?_
  refine ox_y rfl (y_move_int rfl) ?_
  refine ox_y rfl (y_loadN 1 [.int .i64 p3.fFirst, .int .i64 p3.fAccept, .int .i64 p3.fRefuse, .int .i64 p3.fSecond, .int .i64 p3.fTogether] ag_97 rfl rfl rfl) ?_
  obtain ⟨y14, hy15, h⟩ := bind_some h
  refine ox_y rfl (y_call [.int .i64 p0, .int .i64 p1, .agg #[.int .i64 p3.fFirst, .int .i64 p3.fAccept, .int .i64 p3.fRefuse, .int .i64 p3.fSecond, .int .i64 p3.fTogether]] go_67 rfl (fun W2 hW2 => calxref03_PassTwice_ok p0 p1 p3 y14 hy15 W2 ) rfl) ?_
  refine ox_y rfl (y_move_tuple rfl) ?_
  refine ox_y rfl (y_extract (vs := [.agg #[.int .i64 y14.1.fNum, .int .i64 y14.1.fDen], .int .i64 y14.2]) (v := .agg #[.int .i64 y14.1.fNum, .int .i64 y14.1.fDen]) rfl rfl) ?_
  refine ox_y rfl (y_extract (vs := [.agg #[.int .i64 y14.1.fNum, .int .i64 y14.1.fDen], .int .i64 y14.2]) (v := .int .i64 y14.2) rfl rfl) ?_
  refine ox_alloc ze_23 rfl (fun b16 => ?_)
  try dsimp only [List.nil_append, List.cons_append, List.set_cons_zero, List.set_cons_succ]
  refine ox_n rfl (y_storeN 5 [.int .i64 y14.1.fNum, .int .i64 y14.1.fDen] sz_23 rfl (Nat.le_of_ble_eq_true rfl) rfl rfl rfl) ?_
  refine ox_y rfl (y_assign_int rfl) ?_
  refine ox_nil ?_
  refine ex_then ?_
  refine cx_seq ?_
  refine cx_region ?_
  refine ox_y rfl (y_move_bool rfl) ?_
  refine ox_y rfl (y_move_bool rfl) ?_
  refine ox_join 4 (fun tm0 => (upd (upd (upd (upd (upd (upd (upd (upd (upd (upd (upd (upd (upd (upd (upd (upd (upd tm0 0 (.int .i64 p0)) 1 (.int .i64 p1)) 2 (.agg #[.int .i64 p2.fSample, .int .i64 p2.fAccept])) 3 (.agg #[.int .i64 p3.fFirst, .int .i64 p3.fAccept, .int .i64 p3.fRefuse, .int .i64 p3.fSecond, .int .i64 p3.fTogether])) 6 (.pointer (some ⟨b1, 0, none⟩))) 7 (.pointer (some ⟨b2, 0, none⟩))) 8 (.bool false)) 9 (.bool y3)) 10 (.pointer (some ⟨b7, 0, none⟩))) 11 (.int .i64 y5.2)) 12 (.pointer (some ⟨b10, 0, none⟩))) 13 (.int .i64 y8.2)) 14 (.pointer (some ⟨b13, 0, none⟩))) 15 (.int .i64 y11.2)) 16 (.pointer (some ⟨b16, 0, none⟩))) 17 (.int .i64 y14.2)) 52 (.bool (y3 && ((y5.1.fNum == y8.1.fNum) && (y5.1.fDen == y8.1.fDen)))))) (fun tm0 => ?_) (fun key => ?_)
  · refine ox_y rfl (y_move_bool rfl) ?_
    refine ox_join 4 (fun tm0 => (upd (upd (upd (upd (upd (upd (upd (upd (upd (upd (upd (upd (upd (upd (upd (upd (upd tm0 0 (.int .i64 p0)) 1 (.int .i64 p1)) 2 (.agg #[.int .i64 p2.fSample, .int .i64 p2.fAccept])) 3 (.agg #[.int .i64 p3.fFirst, .int .i64 p3.fAccept, .int .i64 p3.fRefuse, .int .i64 p3.fSecond, .int .i64 p3.fTogether])) 6 (.pointer (some ⟨b1, 0, none⟩))) 7 (.pointer (some ⟨b2, 0, none⟩))) 8 (.bool false)) 9 (.bool y3)) 10 (.pointer (some ⟨b7, 0, none⟩))) 11 (.int .i64 y5.2)) 12 (.pointer (some ⟨b10, 0, none⟩))) 13 (.int .i64 y8.2)) 14 (.pointer (some ⟨b13, 0, none⟩))) 15 (.int .i64 y11.2)) 16 (.pointer (some ⟨b16, 0, none⟩))) 17 (.int .i64 y14.2)) 57 (.bool ((y3 && ((y5.1.fNum == y8.1.fNum) && (y5.1.fDen == y8.1.fDen))) && (y5.2 == y8.2))))) (fun tm0 => ?_) (fun key => ?_)
    · refine ox_y rfl (y_move_bool rfl) ?_
      refine ox_join 4 (fun tm0 => (upd (upd (upd (upd (upd (upd (upd (upd (upd (upd (upd (upd (upd (upd (upd (upd (upd tm0 0 (.int .i64 p0)) 1 (.int .i64 p1)) 2 (.agg #[.int .i64 p2.fSample, .int .i64 p2.fAccept])) 3 (.agg #[.int .i64 p3.fFirst, .int .i64 p3.fAccept, .int .i64 p3.fRefuse, .int .i64 p3.fSecond, .int .i64 p3.fTogether])) 6 (.pointer (some ⟨b1, 0, none⟩))) 7 (.pointer (some ⟨b2, 0, none⟩))) 8 (.bool false)) 9 (.bool y3)) 10 (.pointer (some ⟨b7, 0, none⟩))) 11 (.int .i64 y5.2)) 12 (.pointer (some ⟨b10, 0, none⟩))) 13 (.int .i64 y8.2)) 14 (.pointer (some ⟨b13, 0, none⟩))) 15 (.int .i64 y11.2)) 16 (.pointer (some ⟨b16, 0, none⟩))) 17 (.int .i64 y14.2)) 62 (.bool (((y3 && ((y5.1.fNum == y8.1.fNum) && (y5.1.fDen == y8.1.fDen))) && (y5.2 == y8.2)) && ((y11.1.fNum == y14.1.fNum) && (y11.1.fDen == y14.1.fDen)))))) (fun tm0 => ?_) (fun key => ?_)
      · refine ox_y rfl (y_move_bool rfl) ?_
        refine ox_join 4 (fun tm0 => (upd (upd (upd (upd (upd (upd (upd (upd (upd (upd (upd (upd (upd (upd (upd (upd (upd tm0 0 (.int .i64 p0)) 1 (.int .i64 p1)) 2 (.agg #[.int .i64 p2.fSample, .int .i64 p2.fAccept])) 3 (.agg #[.int .i64 p3.fFirst, .int .i64 p3.fAccept, .int .i64 p3.fRefuse, .int .i64 p3.fSecond, .int .i64 p3.fTogether])) 6 (.pointer (some ⟨b1, 0, none⟩))) 7 (.pointer (some ⟨b2, 0, none⟩))) 8 (.bool false)) 9 (.bool y3)) 10 (.pointer (some ⟨b7, 0, none⟩))) 11 (.int .i64 y5.2)) 12 (.pointer (some ⟨b10, 0, none⟩))) 13 (.int .i64 y8.2)) 14 (.pointer (some ⟨b13, 0, none⟩))) 15 (.int .i64 y11.2)) 16 (.pointer (some ⟨b16, 0, none⟩))) 17 (.int .i64 y14.2)) 67 (.bool ((((y3 && ((y5.1.fNum == y8.1.fNum) && (y5.1.fDen == y8.1.fDen))) && (y5.2 == y8.2)) && ((y11.1.fNum == y14.1.fNum) && (y11.1.fDen == y14.1.fDen))) && (y11.2 == y14.2))))) (fun tm0 => ?_) (fun key => ?_)
        · refine ox_y rfl (y_assign_bool rfl) ?_
          refine ox_nil ?_
          refine ex_then ?_
          refine cx_ret ?_
          obtain rfl := Option.some.inj h
          exact ex_res1 (.inl rfl) rfl (resV_tmp (v := .bool ((((y3 && ((y5.1.fNum == y8.1.fNum) && (y5.1.fDen == y8.1.fDen))) && (y5.2 == y8.2)) && ((y11.1.fNum == y14.1.fNum) && (y11.1.fDen == y14.1.fDen))) && (y11.2 == y14.2))) rfl) (fun W2 hW2 => ⟨rfl, hW2.none⟩)
        · rcases bool_cases (((y3 && ((y5.1.fNum == y8.1.fNum) && (y5.1.fDen == y8.1.fDen))) && (y5.2 == y8.2)) && ((y11.1.fNum == y14.1.fNum) && (y11.1.fDen == y14.1.fDen))) with hp20 | hp20
          · refine ox_y (sees_t rfl rfl rfl rfl hp20) (y_move_int rfl) ?_
            refine ox_y (sees_t rfl rfl rfl rfl hp20) (y_move_int rfl) ?_
            refine ox_y (sees_t rfl rfl rfl rfl hp20) (y_eql rfl rfl) ?_
            refine ox_y rfl (y_pick_tb (congrArg Value.bool hp20) rfl) ?_
            exact key _ _ (keep (keep (keep (keep (keep (keep (keep (keep (keep (keep (keep (keep (keep (keep (keep (keep (keep rfl rfl) rfl) rfl) rfl) rfl) rfl) rfl) rfl) rfl) rfl) rfl) rfl) rfl) rfl) rfl) rfl) (congrArg Value.bool (and_t hp20)))
          · refine ox_skip (sees_f rfl rfl rfl rfl hp20) ?_
            refine ox_skip (sees_f rfl rfl rfl rfl hp20) ?_
            refine ox_skip (sees_f rfl rfl rfl rfl hp20) ?_
            refine ox_y rfl (y_pick_fb (congrArg Value.bool hp20) rfl) ?_
            exact key _ _ (keep (keep (keep (keep (keep (keep (keep (keep (keep (keep (keep (keep (keep (keep (keep (keep (keep rfl rfl) rfl) rfl) rfl) rfl) rfl) rfl) rfl) rfl) rfl) rfl) rfl) rfl) rfl) rfl) rfl) (congrArg Value.bool (and_f hp20)))
      · rcases bool_cases ((y3 && ((y5.1.fNum == y8.1.fNum) && (y5.1.fDen == y8.1.fDen))) && (y5.2 == y8.2)) with hp19 | hp19
        · refine ox_y (sees_t rfl rfl rfl rfl hp19) (y_loadN 4 [.int .i64 y11.1.fNum, .int .i64 y11.1.fDen] ag_23 rfl rfl rfl) ?_
          refine ox_y (sees_t rfl rfl rfl rfl hp19) (y_loadN 5 [.int .i64 y14.1.fNum, .int .i64 y14.1.fDen] ag_23 rfl rfl rfl) ?_
          refine ox_y (sees_t rfl rfl rfl rfl hp19) (y_eqla (b := ((y11.1.fNum == y14.1.fNum) && (y11.1.fDen == y14.1.fDen))) eg_23 rfl rfl (fun _ => (eqS2 fl_23 (part1 sc_3 rfl) (part1 sc_3 rfl) (part1 sc_3 rfl) (part1 sc_3 rfl) (run_equalIn_int _ _ _ _ _ _ _ ui_3) (run_equalIn_int _ _ _ _ _ _ _ ui_3)))) ?_
          refine ox_y rfl (y_pick_tb (congrArg Value.bool hp19) rfl) ?_
          exact key _ _ (keep (keep (keep (keep (keep (keep (keep (keep (keep (keep (keep (keep (keep (keep (keep (keep (keep rfl rfl) rfl) rfl) rfl) rfl) rfl) rfl) rfl) rfl) rfl) rfl) rfl) rfl) rfl) rfl) rfl) (congrArg Value.bool (and_t hp19)))
        · refine ox_skip (sees_f rfl rfl rfl rfl hp19) ?_
          refine ox_skip (sees_f rfl rfl rfl rfl hp19) ?_
          refine ox_skip (sees_f rfl rfl rfl rfl hp19) ?_
          refine ox_y rfl (y_pick_fb (congrArg Value.bool hp19) rfl) ?_
          exact key _ _ (keep (keep (keep (keep (keep (keep (keep (keep (keep (keep (keep (keep (keep (keep (keep (keep (keep rfl rfl) rfl) rfl) rfl) rfl) rfl) rfl) rfl) rfl) rfl) rfl) rfl) rfl) rfl) rfl) rfl) (congrArg Value.bool (and_f hp19)))
    · rcases bool_cases (y3 && ((y5.1.fNum == y8.1.fNum) && (y5.1.fDen == y8.1.fDen))) with hp18 | hp18
      · refine ox_y (sees_t rfl rfl rfl rfl hp18) (y_move_int rfl) ?_
        refine ox_y (sees_t rfl rfl rfl rfl hp18) (y_move_int rfl) ?_
        refine ox_y (sees_t rfl rfl rfl rfl hp18) (y_eql rfl rfl) ?_
        refine ox_y rfl (y_pick_tb (congrArg Value.bool hp18) rfl) ?_
        exact key _ _ (keep (keep (keep (keep (keep (keep (keep (keep (keep (keep (keep (keep (keep (keep (keep (keep (keep rfl rfl) rfl) rfl) rfl) rfl) rfl) rfl) rfl) rfl) rfl) rfl) rfl) rfl) rfl) rfl) rfl) (congrArg Value.bool (and_t hp18)))
      · refine ox_skip (sees_f rfl rfl rfl rfl hp18) ?_
        refine ox_skip (sees_f rfl rfl rfl rfl hp18) ?_
        refine ox_skip (sees_f rfl rfl rfl rfl hp18) ?_
        refine ox_y rfl (y_pick_fb (congrArg Value.bool hp18) rfl) ?_
        exact key _ _ (keep (keep (keep (keep (keep (keep (keep (keep (keep (keep (keep (keep (keep (keep (keep (keep (keep rfl rfl) rfl) rfl) rfl) rfl) rfl) rfl) rfl) rfl) rfl) rfl) rfl) rfl) rfl) rfl) rfl) (congrArg Value.bool (and_f hp18)))
  · rcases bool_cases y3 with hp17 | hp17
    · refine ox_y (sees_t rfl rfl rfl rfl hp17) (y_loadN 2 [.int .i64 y5.1.fNum, .int .i64 y5.1.fDen] ag_23 rfl rfl rfl) ?_
      refine ox_y (sees_t rfl rfl rfl rfl hp17) (y_loadN 3 [.int .i64 y8.1.fNum, .int .i64 y8.1.fDen] ag_23 rfl rfl rfl) ?_
      refine ox_y (sees_t rfl rfl rfl rfl hp17) (y_eqla (b := ((y5.1.fNum == y8.1.fNum) && (y5.1.fDen == y8.1.fDen))) eg_23 rfl rfl (fun _ => (eqS2 fl_23 (part1 sc_3 rfl) (part1 sc_3 rfl) (part1 sc_3 rfl) (part1 sc_3 rfl) (run_equalIn_int _ _ _ _ _ _ _ ui_3) (run_equalIn_int _ _ _ _ _ _ _ ui_3)))) ?_
      refine ox_y rfl (y_pick_tb (congrArg Value.bool hp17) rfl) ?_
      exact key _ _ (keep (keep (keep (keep (keep (keep (keep (keep (keep (keep (keep (keep (keep (keep (keep (keep (keep rfl rfl) rfl) rfl) rfl) rfl) rfl) rfl) rfl) rfl) rfl) rfl) rfl) rfl) rfl) rfl) rfl) (congrArg Value.bool (and_t hp17)))
    · refine ox_skip (sees_f rfl rfl rfl rfl hp17) ?_
      refine ox_skip (sees_f rfl rfl rfl rfl hp17) ?_
      refine ox_skip (sees_f rfl rfl rfl rfl hp17) ?_
      refine ox_y rfl (y_pick_fb (congrArg Value.bool hp17) rfl) ?_
      exact key _ _ (keep (keep (keep (keep (keep (keep (keep (keep (keep (keep (keep (keep (keep (keep (keep (keep (keep rfl rfl) rfl) rfl) rfl) rfl) rfl) rfl) rfl) rfl) rfl) rfl) rfl) rfl) rfl) rfl) rfl) (congrArg Value.bool (and_f hp17)))

end Go.Proofs.Ytepfgdfahinpkaa
