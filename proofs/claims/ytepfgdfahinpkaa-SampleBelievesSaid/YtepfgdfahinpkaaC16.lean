/- The calls hand back what the plain functions say. -/
import Derived.Test.YtepfgdfahinpkaaF
import Derived.Test.YtepfgdfahinpkaaC0
import Derived.Test.YtepfgdfahinpkaaC1
import Derived.Test.YtepfgdfahinpkaaC2
import Derived.Test.YtepfgdfahinpkaaC3
import Derived.Test.YtepfgdfahinpkaaC4
set_option linter.unusedVariables false
set_option maxHeartbeats 4000000
namespace Go.Proofs.Ytepfgdfahinpkaa
open Go.RowKit (Below)
attribute [local irreducible] OX QX CX EX OpY Calls CallsIn

/-! calx/sample.Believed -/
set_option maxRecDepth 100000 in
theorem sample_Believed_ok (p0_b : TBatch) (p1_sort : Int) (p2_s : TSpan) (res : (TRatio × Int)) (h : sample_Believed p0_b p1_sort p2_s = some res) (W : World)  :
    Calls Try.prog 49 [.agg #[.int .i64 p0_b.fBarrows, .int .i64 p0_b.fSeen.x0, .int .i64 p0_b.fSeen.x1, .int .i64 p0_b.fSeen.x2, .int .i64 p0_b.fKnown.x0.fLo, .int .i64 p0_b.fKnown.x0.fHi, .int .i64 p0_b.fKnown.x1.fLo, .int .i64 p0_b.fKnown.x1.fHi, .int .i64 p0_b.fKnown.x2.fLo, .int .i64 p0_b.fKnown.x2.fHi], .int .i64 p1_sort, .agg #[.int .i64 p2_s.fLo, .int .i64 p2_s.fHi]].toArray W fun e W2 => e = .returned (.tuple #[.agg #[.int .i64 res.1.fNum, .int .i64 res.1.fDen], .int .i64 res.2]) ∧ Ext W W2 [] := by
  unfold sample_Believed at h
  refine calls_enter (m := 32) Try.func49 rfl rfl (Nat.le_of_ble_eq_true rfl) ?_
  refine cx_seq ?_
  refine cx_region ?_
  refine ox_box [.int .i64 p0_b.fBarrows, .int .i64 p0_b.fSeen.x0, .int .i64 p0_b.fSeen.x1, .int .i64 p0_b.fSeen.x2, .int .i64 p0_b.fKnown.x0.fLo, .int .i64 p0_b.fKnown.x0.fHi, .int .i64 p0_b.fKnown.x1.fLo, .int .i64 p0_b.fKnown.x1.fHi, .int .i64 p0_b.fKnown.x2.fLo, .int .i64 p0_b.fKnown.x2.fHi] rfl rfl rfl (fun b1 => ?_)
  refine ox_box [.int .i64 p2_s.fLo, .int .i64 p2_s.fHi] rfl rfl rfl (fun b2 => ?_)
  refine ox_alloc ze_23 rfl (fun b3 => ?_)
  refine ox_y rfl (y_assign_int rfl) ?_
  refine ox_nil ?_
  refine ex_then ?_
  refine cx_seq ?_
  refine cx_seq ?_
  refine cx_region ?_
  refine ox_y rfl (y_loadN 0 [.int .i64 p0_b.fBarrows, .int .i64 p0_b.fSeen.x0, .int .i64 p0_b.fSeen.x1, .int .i64 p0_b.fSeen.x2, .int .i64 p0_b.fKnown.x0.fLo, .int .i64 p0_b.fKnown.x0.fHi, .int .i64 p0_b.fKnown.x1.fLo, .int .i64 p0_b.fKnown.x1.fHi, .int .i64 p0_b.fKnown.x2.fLo, .int .i64 p0_b.fKnown.x2.fHi] ag_52 rfl rfl rfl) ?_
  refine ox_y rfl (y_move_int rfl) ?_
  obtain ⟨y4, hy5, h⟩ := bind_some h
  refine ox_y rfl (y_call [.agg #[.int .i64 p0_b.fBarrows, .int .i64 p0_b.fSeen.x0, .int .i64 p0_b.fSeen.x1, .int .i64 p0_b.fSeen.x2, .int .i64 p0_b.fKnown.x0.fLo, .int .i64 p0_b.fKnown.x0.fHi, .int .i64 p0_b.fKnown.x1.fLo, .int .i64 p0_b.fKnown.x1.fHi, .int .i64 p0_b.fKnown.x2.fLo, .int .i64 p0_b.fKnown.x2.fHi], .int .i64 p1_sort] go_101 rfl (fun W2 hW2 => sample_sorted_ok p0_b p1_sort y4 hy5 W2 ) rfl) ?_
  refine ox_y rfl (y_assign_int rfl) ?_
  refine ox_nil ?_
  refine ex_then ?_
  refine cx_seq ?_
  refine cx_region ?_
  refine ox_y rfl (y_move_int rfl) ?_
  refine ox_y rfl (y_neq rfl rfl) ?_
  refine ox_nil ?_
  refine ex_then ?_
  rcases ite_some h with ⟨hp6, h⟩ | ⟨hp6, h⟩
  · refine cx_true (congrArg Value.bool hp6) ?_
    refine cx_seq ?_
    refine cx_region ?_
    refine ox_y rfl (y_buildS [.int .i64 0, .int .i64 0] [(0, 1), (1, 1)] ust_23 ze_23 (by kernel_rfl)) ?_
    refine ox_y rfl (y_move_int rfl) ?_
    refine ox_n rfl (y_storeN 2 [.int .i64 0, .int .i64 0] sz_23 rfl (Nat.le_of_ble_eq_true rfl) rfl rfl rfl) ?_
    refine ox_y rfl (y_assign_int rfl) ?_
    refine ox_nil ?_
    refine ex_then ?_
    refine cx_ret ?_
    refine ex_then_ret ?_
    obtain rfl := Option.some.inj h
    exact ex_res2 (.inl rfl) rfl (resV_cellN 2 [.int .i64 0, .int .i64 0] ag_23 rfl rfl rfl) (resV_tmp (v := .int .i64 y4) rfl) (fun W2 hW2 => ⟨rfl, hW2.none⟩)
  · refine cx_false (congrArg Value.bool hp6) ?_
    refine cx_skip ?_
    refine ex_then ?_
    refine cx_seq ?_
    refine cx_seq ?_
    refine cx_region ?_
    refine ox_y rfl (y_fieldAddr fo_33_0 rfl) ?_
    refine ox_y rfl (y_load1 1 (v := .int .i64 p2_s.fLo) sc_3 rfl rfl rfl) ?_
    refine ox_y rfl (y_fieldAddr fo_33_1 rfl) ?_
    refine ox_y rfl (y_load1 1 (v := .int .i64 p2_s.fHi) sc_3 rfl rfl rfl) ?_
    refine ox_y rfl (y_gtr rfl rfl) ?_
    refine ox_nil ?_
    refine ex_then ?_
    rcases ite_some h with ⟨hp7, h⟩ | ⟨hp7, h⟩
    · refine cx_true (congrArg Value.bool hp7) ?_
      refine cx_seq ?_
      refine cx_region ?_
      refine ox_y rfl (y_buildS [.int .i64 0, .int .i64 0] [(0, 1), (1, 1)] ust_23 ze_23 (by kernel_rfl)) ?_
      refine ox_n rfl (y_storeN 2 [.int .i64 0, .int .i64 0] sz_23 rfl (Nat.le_of_ble_eq_true rfl) rfl rfl rfl) ?_
      refine ox_y rfl (y_assign_int rfl) ?_
      refine ox_nil ?_
      refine ex_then ?_
      refine cx_ret ?_
      refine ex_then_ret ?_
      obtain rfl := Option.some.inj h
      exact ex_res2 (.inl rfl) rfl (resV_cellN 2 [.int .i64 0, .int .i64 0] ag_23 rfl rfl rfl) (resV_tmp (v := .int .i64 1) rfl) (fun W2 hW2 => ⟨rfl, hW2.none⟩)
    · refine cx_false (congrArg Value.bool hp7) ?_
      refine cx_skip ?_
      refine ex_then ?_
      refine cx_seq ?_
      refine cx_region ?_
      refine ox_y rfl (y_loadN 0 [.int .i64 p0_b.fBarrows, .int .i64 p0_b.fSeen.x0, .int .i64 p0_b.fSeen.x1, .int .i64 p0_b.fSeen.x2, .int .i64 p0_b.fKnown.x0.fLo, .int .i64 p0_b.fKnown.x0.fHi, .int .i64 p0_b.fKnown.x1.fLo, .int .i64 p0_b.fKnown.x1.fHi, .int .i64 p0_b.fKnown.x2.fLo, .int .i64 p0_b.fKnown.x2.fHi] ag_52 rfl rfl rfl) ?_
      refine ox_y rfl (y_move_int rfl) ?_
      obtain ⟨y8, hy9, h⟩ := bind_some h
      refine ox_call [.agg #[.int .i64 p0_b.fBarrows, .int .i64 p0_b.fSeen.x0, .int .i64 p0_b.fSeen.x1, .int .i64 p0_b.fSeen.x2, .int .i64 p0_b.fKnown.x0.fLo, .int .i64 p0_b.fKnown.x0.fHi, .int .i64 p0_b.fKnown.x1.fLo, .int .i64 p0_b.fKnown.x1.fHi, .int .i64 p0_b.fKnown.x2.fLo, .int .i64 p0_b.fKnown.x2.fHi], .int .i64 p1_sort] _ _ _ rfl go_104 rfl (fun W2 hW2 => sample_weights_ok p0_b p1_sort y8 hy9 W2 ) ?_
      rintro ⟨A10, n12, c11⟩ hn13
      replace hn13 : n12 = y8.length := hn13; subst hn13
      refine ox_y rfl (y_assign_slice rfl) ?_
      refine ox_nil ?_
      refine ex_then ?_
      refine cx_seq ?_
      refine cx_region ?_
      refine ox_y rfl (y_move_slice rfl) ?_
      refine ox_y rfl (y_loadN 1 [.int .i64 p2_s.fLo, .int .i64 p2_s.fHi] ag_33 rfl rfl rfl) ?_
      obtain ⟨y14, hy15, h⟩ := bind_some h
      refine ox_y rfl (y_call [.slice A10 y8.length c11, .agg #[.int .i64 p2_s.fLo, .int .i64 p2_s.fHi]] go_113 rfl (fun W2 hW2 => sample_inSpan_ok y8 p2_s y14 hy15 W2 A10 y8.length c11 rfl ((RdL.row 3 rfl) W2 hW2)) rfl) ?_
      refine ox_y rfl (y_move_slice rfl) ?_
      obtain ⟨y17, hy18, h⟩ := bind_some h
      refine ox_y rfl (y_call [.slice A10 y8.length c11, .func (.func 107) #[] #[]] go_106 rfl (fun W2 hW2 => sample_sum_int_ok y8 (fun x16 => sample_own x16) y17 hy18 W2 A10 y8.length c11 rfl ((RdL.row 3 rfl) W2 hW2) 107 [] go_107 (fun W3 hb x y hxy => sample_own_ok x  y hxy W3 )) rfl) ?_
      obtain ⟨y19, hy20, h⟩ := bind_some h
      refine ox_y rfl (y_call [.int .i64 y14, .int .i64 y17] go_95 rfl (fun W2 hW2 => sample_ratio_ok y14 y17 y19 hy20 W2 ) rfl) ?_
      refine ox_n rfl (y_storeN 2 [.int .i64 y19.fNum, .int .i64 y19.fDen] sz_23 rfl (Nat.le_of_ble_eq_true rfl) rfl rfl rfl) ?_
      refine ox_y rfl (y_assign_int rfl) ?_
      refine ox_nil ?_
      refine ex_then ?_
      refine cx_ret ?_
      obtain rfl := Option.some.inj h
      exact ex_res2 (.inl rfl) rfl (resV_cellN 2 [.int .i64 y19.fNum, .int .i64 y19.fDen] ag_23 rfl rfl rfl) (resV_tmp (v := .int .i64 0) rfl) (fun W2 hW2 => ⟨rfl, hW2.none⟩)

/-! calx/calxlaw03.more -/
set_option maxRecDepth 100000 in
theorem calxlaw03_more_ok (p0_a : TRatio) (p1_b : TRatio) (res : (Int × Int × Bool)) (h : calxlaw03_more p0_a p1_b = some res) (W : World)  :
    Calls Try.prog 61 [.agg #[.int .i64 p0_a.fNum, .int .i64 p0_a.fDen], .agg #[.int .i64 p1_b.fNum, .int .i64 p1_b.fDen]].toArray W fun e W2 => e = .returned (.tuple #[.int .i64 res.1, .int .i64 res.2.1, .bool res.2.2]) ∧ Ext W W2 [] := by
  unfold calxlaw03_more at h
  refine calls_enter (m := 51) Try.func61 rfl rfl (Nat.le_of_ble_eq_true rfl) ?_
  refine cx_seq ?_
  refine cx_region ?_
  refine ox_box [.int .i64 p0_a.fNum, .int .i64 p0_a.fDen] rfl rfl rfl (fun b1 => ?_)
  refine ox_box [.int .i64 p1_b.fNum, .int .i64 p1_b.fDen] rfl rfl rfl (fun b2 => ?_)
  refine ox_y rfl (y_assign_int rfl) ?_
  refine ox_y rfl (y_assign_int rfl) ?_
  refine ox_y rfl (y_assign_bool rfl) ?_
  refine ox_nil ?_
  refine ex_then ?_
  refine cx_seq ?_
  refine cx_seq ?_
  refine cx_region ?_
  refine ox_y rfl (y_fieldAddr fo_23_1 rfl) ?_
  refine ox_y rfl (y_load1 0 (v := .int .i64 p0_a.fDen) sc_3 rfl rfl rfl) ?_
  refine ox_y rfl (y_lss rfl rfl) ?_
  refine ox_y rfl (y_move_bool rfl) ?_
  refine ox_join 4 (fun tm0 => (upd (upd (upd (upd (upd (upd (upd (upd tm0 0 (.agg #[.int .i64 p0_a.fNum, .int .i64 p0_a.fDen])) 1 (.agg #[.int .i64 p1_b.fNum, .int .i64 p1_b.fDen])) 2 (.pointer (some ⟨b1, 0, none⟩))) 3 (.pointer (some ⟨b2, 0, none⟩))) 4 (.int .i64 0)) 5 (.int .i64 0)) 6 (.bool false)) 14 (.bool ((decide (p0_a.fDen < 1)) || (decide (p1_b.fDen < 1)))))) (fun tm0 => ?_) (fun key => ?_)
  · refine ox_y rfl (y_move_bool rfl) ?_
    refine ox_join 4 (fun tm0 => (upd (upd (upd (upd (upd (upd (upd (upd tm0 0 (.agg #[.int .i64 p0_a.fNum, .int .i64 p0_a.fDen])) 1 (.agg #[.int .i64 p1_b.fNum, .int .i64 p1_b.fDen])) 2 (.pointer (some ⟨b1, 0, none⟩))) 3 (.pointer (some ⟨b2, 0, none⟩))) 4 (.int .i64 0)) 5 (.int .i64 0)) 6 (.bool false)) 19 (.bool (((decide (p0_a.fDen < 1)) || (decide (p1_b.fDen < 1))) || (decide (1073741824 < p0_a.fDen)))))) (fun tm0 => ?_) (fun key => ?_)
    · refine ox_y rfl (y_move_bool rfl) ?_
      refine ox_join 4 (fun tm0 => (upd (upd (upd (upd (upd (upd (upd (upd tm0 0 (.agg #[.int .i64 p0_a.fNum, .int .i64 p0_a.fDen])) 1 (.agg #[.int .i64 p1_b.fNum, .int .i64 p1_b.fDen])) 2 (.pointer (some ⟨b1, 0, none⟩))) 3 (.pointer (some ⟨b2, 0, none⟩))) 4 (.int .i64 0)) 5 (.int .i64 0)) 6 (.bool false)) 24 (.bool ((((decide (p0_a.fDen < 1)) || (decide (p1_b.fDen < 1))) || (decide (1073741824 < p0_a.fDen))) || (decide (1073741824 < p1_b.fDen)))))) (fun tm0 => ?_) (fun key => ?_)
      · refine ox_y rfl (y_move_bool rfl) ?_
        refine ox_join 4 (fun tm0 => (upd (upd (upd (upd (upd (upd (upd (upd tm0 0 (.agg #[.int .i64 p0_a.fNum, .int .i64 p0_a.fDen])) 1 (.agg #[.int .i64 p1_b.fNum, .int .i64 p1_b.fDen])) 2 (.pointer (some ⟨b1, 0, none⟩))) 3 (.pointer (some ⟨b2, 0, none⟩))) 4 (.int .i64 0)) 5 (.int .i64 0)) 6 (.bool false)) 29 (.bool (((((decide (p0_a.fDen < 1)) || (decide (p1_b.fDen < 1))) || (decide (1073741824 < p0_a.fDen))) || (decide (1073741824 < p1_b.fDen))) || (decide (2147483648 < p0_a.fNum)))))) (fun tm0 => ?_) (fun key => ?_)
        · refine ox_y rfl (y_move_bool rfl) ?_
          refine ox_join 4 (fun tm0 => (upd (upd (upd (upd (upd (upd (upd (upd tm0 0 (.agg #[.int .i64 p0_a.fNum, .int .i64 p0_a.fDen])) 1 (.agg #[.int .i64 p1_b.fNum, .int .i64 p1_b.fDen])) 2 (.pointer (some ⟨b1, 0, none⟩))) 3 (.pointer (some ⟨b2, 0, none⟩))) 4 (.int .i64 0)) 5 (.int .i64 0)) 6 (.bool false)) 34 (.bool ((((((decide (p0_a.fDen < 1)) || (decide (p1_b.fDen < 1))) || (decide (1073741824 < p0_a.fDen))) || (decide (1073741824 < p1_b.fDen))) || (decide (2147483648 < p0_a.fNum))) || (decide (2147483648 < p1_b.fNum)))))) (fun tm0 => ?_) (fun key => ?_)
          · refine ox_nil ?_
            refine ex_then ?_
            rcases ite_some h with ⟨hp8, h⟩ | ⟨hp8, h⟩
            · refine cx_true (congrArg Value.bool hp8) ?_
              refine cx_seq ?_
              refine cx_region ?_
              refine ox_y rfl (y_assign_int rfl) ?_
              refine ox_y rfl (y_assign_int rfl) ?_
              refine ox_y rfl (y_assign_bool rfl) ?_
              refine ox_nil ?_
              refine ex_then ?_
              refine cx_ret ?_
              refine ex_then_ret ?_
              obtain rfl := Option.some.inj h
              exact ex_res3 (.inl rfl) rfl (resV_tmp (v := .int .i64 0) rfl) (resV_tmp (v := .int .i64 0) rfl) (resV_tmp (v := .bool false) rfl) (fun W2 hW2 => ⟨rfl, hW2.none⟩)
            · refine cx_false (congrArg Value.bool hp8) ?_
              refine cx_skip ?_
              refine ex_then ?_
              refine cx_seq ?_
              refine cx_draws 19 mixed (by kernel_rfl) (by kernel_rfl) ?_
              refine qx_y rfl (y_fieldAddr fo_23_0 rfl) ?_
              refine qx_y rfl (y_load1 0 (v := .int .i64 p0_a.fNum) sc_3 rfl rfl rfl) ?_
              refine qx_y rfl (y_fieldAddr fo_23_1 rfl) ?_
              refine qx_y rfl (y_load1 1 (v := .int .i64 p1_b.fDen) sc_3 rfl rfl rfl) ?_
              refine qx_y rfl (y_mul rfl rfl) ?_
              refine qx_y rfl (y_fieldAddr fo_23_0 rfl) ?_
              refine qx_y rfl (y_load1 1 (v := .int .i64 p1_b.fNum) sc_3 rfl rfl rfl) ?_
              refine qx_y rfl (y_fieldAddr fo_23_1 rfl) ?_
              refine qx_y rfl (y_load1 0 (v := .int .i64 p0_a.fDen) sc_3 rfl rfl rfl) ?_
              refine qx_y rfl (y_mul rfl rfl) ?_
              refine qx_y rfl (y_add rfl rfl) ?_
              refine qx_y rfl (y_fieldAddr fo_23_1 rfl) ?_
              refine qx_y rfl (y_load1 0 (v := .int .i64 p0_a.fDen) sc_3 rfl rfl rfl) ?_
              refine qx_y rfl (y_fieldAddr fo_23_1 rfl) ?_
              refine qx_y rfl (y_load1 1 (v := .int .i64 p1_b.fDen) sc_3 rfl rfl rfl) ?_
              refine qx_y rfl (y_mul rfl rfl) ?_
              refine qx_y rfl (y_assign_int rfl) ?_
              refine qx_y rfl (y_assign_int rfl) ?_
              refine qx_y rfl (y_assign_bool rfl) ?_
              refine qx_nil ?_
              refine ox_nil ?_
              refine ex_then ?_
              refine cx_ret ?_
              obtain rfl := Option.some.inj h
              exact ex_res3 (.inl rfl) rfl (resV_tmp (v := .int .i64 (w64 ((w64 (p0_a.fNum * p1_b.fDen)) + (w64 (p1_b.fNum * p0_a.fDen))))) rfl) (resV_tmp (v := .int .i64 (w64 (p0_a.fDen * p1_b.fDen))) rfl) (resV_tmp (v := .bool true) rfl) (fun W2 hW2 => ⟨rfl, hW2.none⟩)
          · rcases bool_cases (((((decide (p0_a.fDen < 1)) || (decide (p1_b.fDen < 1))) || (decide (1073741824 < p0_a.fDen))) || (decide (1073741824 < p1_b.fDen))) || (decide (2147483648 < p0_a.fNum))) with hp7 | hp7
            · refine ox_skip (sees_f rfl rfl rfl rfl hp7) ?_
              refine ox_skip (sees_f rfl rfl rfl rfl hp7) ?_
              refine ox_skip (sees_f rfl rfl rfl rfl hp7) ?_
              refine ox_y rfl (y_pick_tb (congrArg Value.bool hp7) rfl) ?_
              exact key _ _ (keep (keep (keep (keep (keep (keep (keep (keep rfl rfl) rfl) rfl) rfl) rfl) rfl) rfl) (congrArg Value.bool (or_t hp7)))
            · refine ox_y (sees_t rfl rfl rfl rfl hp7) (y_fieldAddr fo_23_0 rfl) ?_
              refine ox_y (sees_t rfl rfl rfl rfl hp7) (y_load1 1 (v := .int .i64 p1_b.fNum) sc_3 rfl rfl rfl) ?_
              refine ox_y (sees_t rfl rfl rfl rfl hp7) (y_gtr rfl rfl) ?_
              refine ox_y rfl (y_pick_fb (congrArg Value.bool hp7) rfl) ?_
              exact key _ _ (keep (keep (keep (keep (keep (keep (keep (keep rfl rfl) rfl) rfl) rfl) rfl) rfl) rfl) (congrArg Value.bool (or_f hp7)))
        · rcases bool_cases ((((decide (p0_a.fDen < 1)) || (decide (p1_b.fDen < 1))) || (decide (1073741824 < p0_a.fDen))) || (decide (1073741824 < p1_b.fDen))) with hp6 | hp6
          · refine ox_skip (sees_f rfl rfl rfl rfl hp6) ?_
            refine ox_skip (sees_f rfl rfl rfl rfl hp6) ?_
            refine ox_skip (sees_f rfl rfl rfl rfl hp6) ?_
            refine ox_y rfl (y_pick_tb (congrArg Value.bool hp6) rfl) ?_
            exact key _ _ (keep (keep (keep (keep (keep (keep (keep (keep rfl rfl) rfl) rfl) rfl) rfl) rfl) rfl) (congrArg Value.bool (or_t hp6)))
          · refine ox_y (sees_t rfl rfl rfl rfl hp6) (y_fieldAddr fo_23_0 rfl) ?_
            refine ox_y (sees_t rfl rfl rfl rfl hp6) (y_load1 0 (v := .int .i64 p0_a.fNum) sc_3 rfl rfl rfl) ?_
            refine ox_y (sees_t rfl rfl rfl rfl hp6) (y_gtr rfl rfl) ?_
            refine ox_y rfl (y_pick_fb (congrArg Value.bool hp6) rfl) ?_
            exact key _ _ (keep (keep (keep (keep (keep (keep (keep (keep rfl rfl) rfl) rfl) rfl) rfl) rfl) rfl) (congrArg Value.bool (or_f hp6)))
      · rcases bool_cases (((decide (p0_a.fDen < 1)) || (decide (p1_b.fDen < 1))) || (decide (1073741824 < p0_a.fDen))) with hp5 | hp5
        · refine ox_skip (sees_f rfl rfl rfl rfl hp5) ?_
          refine ox_skip (sees_f rfl rfl rfl rfl hp5) ?_
          refine ox_skip (sees_f rfl rfl rfl rfl hp5) ?_
          refine ox_y rfl (y_pick_tb (congrArg Value.bool hp5) rfl) ?_
          exact key _ _ (keep (keep (keep (keep (keep (keep (keep (keep rfl rfl) rfl) rfl) rfl) rfl) rfl) rfl) (congrArg Value.bool (or_t hp5)))
        · refine ox_y (sees_t rfl rfl rfl rfl hp5) (y_fieldAddr fo_23_1 rfl) ?_
          refine ox_y (sees_t rfl rfl rfl rfl hp5) (y_load1 1 (v := .int .i64 p1_b.fDen) sc_3 rfl rfl rfl) ?_
          refine ox_y (sees_t rfl rfl rfl rfl hp5) (y_gtr rfl rfl) ?_
          refine ox_y rfl (y_pick_fb (congrArg Value.bool hp5) rfl) ?_
          exact key _ _ (keep (keep (keep (keep (keep (keep (keep (keep rfl rfl) rfl) rfl) rfl) rfl) rfl) rfl) (congrArg Value.bool (or_f hp5)))
    · rcases bool_cases ((decide (p0_a.fDen < 1)) || (decide (p1_b.fDen < 1))) with hp4 | hp4
      · refine ox_skip (sees_f rfl rfl rfl rfl hp4) ?_
        refine ox_skip (sees_f rfl rfl rfl rfl hp4) ?_
        refine ox_skip (sees_f rfl rfl rfl rfl hp4) ?_
        refine ox_y rfl (y_pick_tb (congrArg Value.bool hp4) rfl) ?_
        exact key _ _ (keep (keep (keep (keep (keep (keep (keep (keep rfl rfl) rfl) rfl) rfl) rfl) rfl) rfl) (congrArg Value.bool (or_t hp4)))
      · refine ox_y (sees_t rfl rfl rfl rfl hp4) (y_fieldAddr fo_23_1 rfl) ?_
        refine ox_y (sees_t rfl rfl rfl rfl hp4) (y_load1 0 (v := .int .i64 p0_a.fDen) sc_3 rfl rfl rfl) ?_
        refine ox_y (sees_t rfl rfl rfl rfl hp4) (y_gtr rfl rfl) ?_
        refine ox_y rfl (y_pick_fb (congrArg Value.bool hp4) rfl) ?_
        exact key _ _ (keep (keep (keep (keep (keep (keep (keep (keep rfl rfl) rfl) rfl) rfl) rfl) rfl) rfl) (congrArg Value.bool (or_f hp4)))
  · rcases bool_cases (decide (p0_a.fDen < 1)) with hp3 | hp3
    · refine ox_skip (sees_f rfl rfl rfl rfl hp3) ?_
      refine ox_skip (sees_f rfl rfl rfl rfl hp3) ?_
      refine ox_skip (sees_f rfl rfl rfl rfl hp3) ?_
      refine ox_y rfl (y_pick_tb (congrArg Value.bool hp3) rfl) ?_
      exact key _ _ (keep (keep (keep (keep (keep (keep (keep (keep rfl rfl) rfl) rfl) rfl) rfl) rfl) rfl) (congrArg Value.bool (or_t hp3)))
    · refine ox_y (sees_t rfl rfl rfl rfl hp3) (y_fieldAddr fo_23_1 rfl) ?_
      refine ox_y (sees_t rfl rfl rfl rfl hp3) (y_load1 1 (v := .int .i64 p1_b.fDen) sc_3 rfl rfl rfl) ?_
      refine ox_y (sees_t rfl rfl rfl rfl hp3) (y_lss rfl rfl) ?_
      refine ox_y rfl (y_pick_fb (congrArg Value.bool hp3) rfl) ?_
      exact key _ _ (keep (keep (keep (keep (keep (keep (keep (keep rfl rfl) rfl) rfl) rfl) rfl) rfl) rfl) (congrArg Value.bool (or_f hp3)))

/-! calx/calxlaw03.SampleBelieves -/
set_option maxRecDepth 100000 in
theorem calxlaw03_SampleBelieves_ok (p0 : TBatch) (p1 : Int) (p2 : Int) (p3 : Int) (res : Bool) (h : calxlaw03_SampleBelieves p0 p1 p2 p3 = some res) (W : World)  :
    Calls Try.prog 16 [.agg #[.int .i64 p0.fBarrows, .int .i64 p0.fSeen.x0, .int .i64 p0.fSeen.x1, .int .i64 p0.fSeen.x2, .int .i64 p0.fKnown.x0.fLo, .int .i64 p0.fKnown.x0.fHi, .int .i64 p0.fKnown.x1.fLo, .int .i64 p0.fKnown.x1.fHi, .int .i64 p0.fKnown.x2.fLo, .int .i64 p0.fKnown.x2.fHi], .int .i64 p1, .int .u8 p2, .int .u8 p3].toArray W fun e W2 => e = .returned (.bool res) ∧ Ext W W2 [] := by
  unfold calxlaw03_SampleBelieves at h
  refine calls_enter (m := 245) Try.func16 rfl rfl (Nat.le_of_ble_eq_true rfl) ?_
  refine cx_seq ?_
  refine cx_region ?_
  refine ox_box [.int .i64 p0.fBarrows, .int .i64 p0.fSeen.x0, .int .i64 p0.fSeen.x1, .int .i64 p0.fSeen.x2, .int .i64 p0.fKnown.x0.fLo, .int .i64 p0.fKnown.x0.fHi, .int .i64 p0.fKnown.x1.fLo, .int .i64 p0.fKnown.x1.fHi, .int .i64 p0.fKnown.x2.fLo, .int .i64 p0.fKnown.x2.fHi] rfl rfl rfl (fun b1 => ?_)
  refine ox_y rfl (y_assign_bool rfl) ?_
  refine ox_nil ?_
  refine ex_then ?_
  refine cx_seq ?_
  refine cx_region ?_
  obtain ⟨y2, hy3, h⟩ := bind_some h
  refine ox_y rfl (y_call [] go_22 rfl (fun W2 hW2 => calxlaw03_head_ok  y2 hy3 W2 ) rfl) ?_
  refine ox_y rfl (y_assign_bool rfl) ?_
  refine ox_nil ?_
  refine ex_then ?_
  refine cx_seq ?_
  refine cx_region ?_
  refine ox_y rfl (y_loadN 0 [.int .i64 p0.fBarrows, .int .i64 p0.fSeen.x0, .int .i64 p0.fSeen.x1, .int .i64 p0.fSeen.x2, .int .i64 p0.fKnown.x0.fLo, .int .i64 p0.fKnown.x0.fHi, .int .i64 p0.fKnown.x1.fLo, .int .i64 p0.fKnown.x1.fHi, .int .i64 p0.fKnown.x2.fLo, .int .i64 p0.fKnown.x2.fHi] ag_52 rfl rfl rfl) ?_
  refine ox_y rfl (y_move_int rfl) ?_
  obtain ⟨y4, hy5, h⟩ := bind_some h
  refine ox_call [.agg #[.int .i64 p0.fBarrows, .int .i64 p0.fSeen.x0, .int .i64 p0.fSeen.x1, .int .i64 p0.fSeen.x2, .int .i64 p0.fKnown.x0.fLo, .int .i64 p0.fKnown.x0.fHi, .int .i64 p0.fKnown.x1.fLo, .int .i64 p0.fKnown.x1.fHi, .int .i64 p0.fKnown.x2.fLo, .int .i64 p0.fKnown.x2.fHi], .int .i64 p1] _ _ _ rfl go_42 rfl (fun W2 hW2 => sample_Weights_ok p0 p1 y4 hy5 W2 ) ?_
  rintro ⟨A6, n8, c7⟩ hn9
  replace hn9 : n8 = y4.1.length := hn9; subst hn9
  refine ox_y rfl (y_move_tuple rfl) ?_
  refine ox_y rfl (y_extract (vs := [.slice A6 y4.1.length c7, .int .i64 y4.2]) (v := .slice A6 y4.1.length c7) rfl rfl) ?_
  refine ox_y rfl (y_extract (vs := [.slice A6 y4.1.length c7, .int .i64 y4.2]) (v := .int .i64 y4.2) rfl rfl) ?_
  refine ox_y rfl (y_assign_slice rfl) ?_
  refine ox_y rfl (y_assign_int rfl) ?_
  refine ox_nil ?_
  refine ex_then ?_
  refine cx_seq ?_
  refine cx_region ?_
  refine ox_y rfl (y_loadN 0 [.int .i64 p0.fBarrows, .int .i64 p0.fSeen.x0, .int .i64 p0.fSeen.x1, .int .i64 p0.fSeen.x2, .int .i64 p0.fKnown.x0.fLo, .int .i64 p0.fKnown.x0.fHi, .int .i64 p0.fKnown.x1.fLo, .int .i64 p0.fKnown.x1.fHi, .int .i64 p0.fKnown.x2.fLo, .int .i64 p0.fKnown.x2.fHi] ag_52 rfl rfl rfl) ?_
  refine ox_y rfl (y_move_int rfl) ?_
  obtain ⟨y10, hy11, h⟩ := bind_some h
  refine ox_y rfl (y_call [.agg #[.int .i64 p0.fBarrows, .int .i64 p0.fSeen.x0, .int .i64 p0.fSeen.x1, .int .i64 p0.fSeen.x2, .int .i64 p0.fKnown.x0.fLo, .int .i64 p0.fKnown.x0.fHi, .int .i64 p0.fKnown.x1.fLo, .int .i64 p0.fKnown.x1.fHi, .int .i64 p0.fKnown.x2.fLo, .int .i64 p0.fKnown.x2.fHi], .int .i64 p1] go_36 rfl (fun W2 hW2 => sample_Ends_ok p0 p1 y10 hy11 W2 ) rfl) ?_
  refine ox_y rfl (y_move_tuple rfl) ?_
  refine ox_y rfl (y_extract (vs := [.agg #[.int .i64 y10.1.fLo, .int .i64 y10.1.fHi], .int .i64 y10.2]) (v := .agg #[.int .i64 y10.1.fLo, .int .i64 y10.1.fHi]) rfl rfl) ?_
  refine ox_y rfl (y_extract (vs := [.agg #[.int .i64 y10.1.fLo, .int .i64 y10.1.fHi], .int .i64 y10.2]) (v := .int .i64 y10.2) rfl rfl) ?_
  refine ox_alloc ze_33 rfl (fun b12 => ?_)
  refine ox_n rfl (y_storeN 2 [.int .i64 y10.1.fLo, .int .i64 y10.1.fHi] sz_33 rfl (Nat.le_of_ble_eq_true rfl) rfl rfl rfl) ?_
  refine ox_y rfl (y_assign_int rfl) ?_
  refine ox_nil ?_
  refine ex_then ?_
  refine cx_seq ?_
  refine cx_seq ?_
  refine cx_region ?_
  refine ox_y rfl (y_move_int rfl) ?_
  refine ox_y rfl (y_move_int rfl) ?_
  refine ox_y rfl (y_neq rfl rfl) ?_
  refine ox_nil ?_
  refine ex_then ?_
  rcases ite_some h with ⟨hp13, h⟩ | ⟨hp13, h⟩
  · refine cx_true (congrArg Value.bool hp13) ?_
    refine cx_seq ?_
    refine cx_region ?_
    refine ox_y rfl (y_assign_bool rfl) ?_
    refine ox_nil ?_
    refine ex_then ?_
    refine cx_ret ?_
    refine ex_then_ret ?_
    obtain rfl := Option.some.inj h
    exact ex_res1 (.inl rfl) rfl (resV_tmp (v := .bool false) rfl) (fun W2 hW2 => ⟨rfl, hW2.none⟩)
  · refine cx_false (congrArg Value.bool hp13) ?_
    refine cx_skip ?_
    refine ex_then ?_
    refine cx_seq ?_
    refine cx_seq ?_
    refine cx_region ?_
    refine ox_y rfl (y_move_int rfl) ?_
    refine ox_y rfl (y_neq rfl rfl) ?_
    refine ox_nil ?_
    refine ex_then ?_
    rcases ite_some h with ⟨hp14, h⟩ | ⟨hp14, h⟩
    · refine cx_true (congrArg Value.bool hp14) ?_
      refine cx_seq ?_
      refine cx_region ?_
      refine ox_y rfl (y_move_bool rfl) ?_
      refine ox_y rfl (y_assign_bool rfl) ?_
      refine ox_nil ?_
      refine ex_then ?_
      refine cx_ret ?_
      refine ex_then_ret ?_
      obtain rfl := Option.some.inj h
      exact ex_res1 (.inl rfl) rfl (resV_tmp (v := .bool y2) rfl) (fun W2 hW2 => ⟨rfl, hW2.none⟩)
    · refine cx_false (congrArg Value.bool hp14) ?_
      refine cx_skip ?_
      refine ex_then ?_
      refine cx_seq ?_
      refine cx_seq ?_
      refine cx_region ?_
      refine ox_y rfl (y_move_slice rfl) ?_
      refine ox_y rfl (y_len (us := []) us_66 rfl) ?_
      refine ox_y rfl (y_fieldAddr fo_52_0 rfl) ?_
      refine ox_y rfl (y_load1 0 (v := .int .i64 p0.fBarrows) sc_3 rfl rfl rfl) ?_
      refine ox_y rfl (y_add rfl rfl) ?_
      refine ox_y rfl (y_neq rfl rfl) ?_
      refine ox_y rfl (y_move_bool rfl) ?_
      refine ox_join 4 (fun tm0 => (upd (upd (upd (upd (upd (upd (upd (upd (upd (upd (upd (upd (upd (upd tm0 0 (.agg #[.int .i64 p0.fBarrows, .int .i64 p0.fSeen.x0, .int .i64 p0.fSeen.x1, .int .i64 p0.fSeen.x2, .int .i64 p0.fKnown.x0.fLo, .int .i64 p0.fKnown.x0.fHi, .int .i64 p0.fKnown.x1.fLo, .int .i64 p0.fKnown.x1.fHi, .int .i64 p0.fKnown.x2.fLo, .int .i64 p0.fKnown.x2.fHi])) 1 (.int .i64 p1)) 2 (.int .u8 p2)) 3 (.int .u8 p3)) 4 (.pointer (some ⟨b1, 0, none⟩))) 8 (.bool false)) 9 (.bool y2)) 10 (.slice A6 y4.1.length c7)) 11 (.int .i64 y4.2)) 12 (.pointer (some ⟨b12, 0, none⟩))) 13 (.int .i64 y10.2)) 44 (.bool (y4.2 != y10.2))) 46 (.bool (y4.2 != 0))) 58 (.bool ((((y4.1.length : Nat) : Int) != (w64 (p0.fBarrows + 1))) || (decide (y10.1.fLo < 0)))))) (fun tm0 => ?_) (fun key => ?_)
      · refine ox_y rfl (y_move_bool rfl) ?_
        refine ox_join 6 (fun tm0 => (upd (upd (upd (upd (upd (upd (upd (upd (upd (upd (upd (upd (upd (upd tm0 0 (.agg #[.int .i64 p0.fBarrows, .int .i64 p0.fSeen.x0, .int .i64 p0.fSeen.x1, .int .i64 p0.fSeen.x2, .int .i64 p0.fKnown.x0.fLo, .int .i64 p0.fKnown.x0.fHi, .int .i64 p0.fKnown.x1.fLo, .int .i64 p0.fKnown.x1.fHi, .int .i64 p0.fKnown.x2.fLo, .int .i64 p0.fKnown.x2.fHi])) 1 (.int .i64 p1)) 2 (.int .u8 p2)) 3 (.int .u8 p3)) 4 (.pointer (some ⟨b1, 0, none⟩))) 8 (.bool false)) 9 (.bool y2)) 10 (.slice A6 y4.1.length c7)) 11 (.int .i64 y4.2)) 12 (.pointer (some ⟨b12, 0, none⟩))) 13 (.int .i64 y10.2)) 44 (.bool (y4.2 != y10.2))) 46 (.bool (y4.2 != 0))) 65 (.bool (((((y4.1.length : Nat) : Int) != (w64 (p0.fBarrows + 1))) || (decide (y10.1.fLo < 0))) || (decide (y10.1.fHi < y10.1.fLo)))))) (fun tm0 => ?_) (fun key => ?_)
        · refine ox_y rfl (y_move_bool rfl) ?_
          refine ox_join 6 (fun tm0 => (upd (upd (upd (upd (upd (upd (upd (upd (upd (upd (upd (upd (upd (upd tm0 0 (.agg #[.int .i64 p0.fBarrows, .int .i64 p0.fSeen.x0, .int .i64 p0.fSeen.x1, .int .i64 p0.fSeen.x2, .int .i64 p0.fKnown.x0.fLo, .int .i64 p0.fKnown.x0.fHi, .int .i64 p0.fKnown.x1.fLo, .int .i64 p0.fKnown.x1.fHi, .int .i64 p0.fKnown.x2.fLo, .int .i64 p0.fKnown.x2.fHi])) 1 (.int .i64 p1)) 2 (.int .u8 p2)) 3 (.int .u8 p3)) 4 (.pointer (some ⟨b1, 0, none⟩))) 8 (.bool false)) 9 (.bool y2)) 10 (.slice A6 y4.1.length c7)) 11 (.int .i64 y4.2)) 12 (.pointer (some ⟨b12, 0, none⟩))) 13 (.int .i64 y10.2)) 44 (.bool (y4.2 != y10.2))) 46 (.bool (y4.2 != 0))) 72 (.bool ((((((y4.1.length : Nat) : Int) != (w64 (p0.fBarrows + 1))) || (decide (y10.1.fLo < 0))) || (decide (y10.1.fHi < y10.1.fLo))) || (decide (((y4.1.length : Nat) : Int) ≤ y10.1.fHi)))))) (fun tm0 => ?_) (fun key => ?_)
          · refine ox_y rfl (y_move_bool rfl) ?_
            obtain ⟨b19, hb20, h⟩ := bind_some h
            refine ox_join 7 (fun tm0 => (upd (upd (upd (upd (upd (upd (upd (upd (upd (upd (upd (upd (upd (upd tm0 0 (.agg #[.int .i64 p0.fBarrows, .int .i64 p0.fSeen.x0, .int .i64 p0.fSeen.x1, .int .i64 p0.fSeen.x2, .int .i64 p0.fKnown.x0.fLo, .int .i64 p0.fKnown.x0.fHi, .int .i64 p0.fKnown.x1.fLo, .int .i64 p0.fKnown.x1.fHi, .int .i64 p0.fKnown.x2.fLo, .int .i64 p0.fKnown.x2.fHi])) 1 (.int .i64 p1)) 2 (.int .u8 p2)) 3 (.int .u8 p3)) 4 (.pointer (some ⟨b1, 0, none⟩))) 8 (.bool false)) 9 (.bool y2)) 10 (.slice A6 y4.1.length c7)) 11 (.int .i64 y4.2)) 12 (.pointer (some ⟨b12, 0, none⟩))) 13 (.int .i64 y10.2)) 44 (.bool (y4.2 != y10.2))) 46 (.bool (y4.2 != 0))) 80 (.bool b19))) (fun tm0 => ?_) (fun key => ?_)
            · refine ox_y rfl (y_move_bool rfl) ?_
              obtain ⟨b22, hb23, h⟩ := bind_some h
              refine ox_join 7 (fun tm0 => (upd (upd (upd (upd (upd (upd (upd (upd (upd (upd (upd (upd (upd (upd tm0 0 (.agg #[.int .i64 p0.fBarrows, .int .i64 p0.fSeen.x0, .int .i64 p0.fSeen.x1, .int .i64 p0.fSeen.x2, .int .i64 p0.fKnown.x0.fLo, .int .i64 p0.fKnown.x0.fHi, .int .i64 p0.fKnown.x1.fLo, .int .i64 p0.fKnown.x1.fHi, .int .i64 p0.fKnown.x2.fLo, .int .i64 p0.fKnown.x2.fHi])) 1 (.int .i64 p1)) 2 (.int .u8 p2)) 3 (.int .u8 p3)) 4 (.pointer (some ⟨b1, 0, none⟩))) 8 (.bool false)) 9 (.bool y2)) 10 (.slice A6 y4.1.length c7)) 11 (.int .i64 y4.2)) 12 (.pointer (some ⟨b12, 0, none⟩))) 13 (.int .i64 y10.2)) 44 (.bool (y4.2 != y10.2))) 46 (.bool (y4.2 != 0))) 88 (.bool b22))) (fun tm0 => ?_) (fun key => ?_)
              · refine ox_nil ?_
                refine ex_then ?_
                rcases ite_some h with ⟨hp24, h⟩ | ⟨hp24, h⟩
                · refine cx_true (congrArg Value.bool hp24) ?_
                  refine cx_seq ?_
                  refine cx_region ?_
                  refine ox_y rfl (y_assign_bool rfl) ?_
                  refine ox_nil ?_
                  refine ex_then ?_
                  refine cx_ret ?_
                  refine ex_then_ret ?_
                  obtain rfl := Option.some.inj h
                  exact ex_res1 (.inl rfl) rfl (resV_tmp (v := .bool false) rfl) (fun W2 hW2 => ⟨rfl, hW2.none⟩)
                · refine cx_false (congrArg Value.bool hp24) ?_
                  refine cx_skip ?_
                  refine ex_then ?_
                  refine cx_seq ?_
                  refine cx_region ?_
                  refine ox_y rfl (y_assign_int rfl) ?_
                  refine ox_nil ?_
                  refine ex_then ?_
                  refine cx_seq ?_
                  refine cx_seq ?_
                  refine cx_region ?_
                  refine ox_y rfl (y_assign_int rfl) ?_
                  refine ox_nil ?_
                  refine ex_then ?_
                  refine cx_block ?_
                  obtain ⟨u27, hl38, h⟩ := bind_some h
                  refine cx_loop (fun (s : (Bool × Int × Int)) L tm => ∃ (tm0 : Nat → Value), L = [cellsR b1 52 [.int .i64 p0.fBarrows, .int .i64 p0.fSeen.x0, .int .i64 p0.fSeen.x1, .int .i64 p0.fSeen.x2, .int .i64 p0.fKnown.x0.fLo, .int .i64 p0.fKnown.x0.fHi, .int .i64 p0.fKnown.x1.fLo, .int .i64 p0.fKnown.x1.fHi, .int .i64 p0.fKnown.x2.fLo, .int .i64 p0.fKnown.x2.fHi], rowR A6 c7 3 1 y4.1.length (encL cI y4.1), cellsR b12 33 [.int .i64 y10.1.fLo, .int .i64 y10.1.fHi]] ∧ tm = (upd (upd (upd (upd (upd (upd (upd (upd (upd (upd (upd (upd (upd (upd (upd (upd tm0 0 (.agg #[.int .i64 p0.fBarrows, .int .i64 p0.fSeen.x0, .int .i64 p0.fSeen.x1, .int .i64 p0.fSeen.x2, .int .i64 p0.fKnown.x0.fLo, .int .i64 p0.fKnown.x0.fHi, .int .i64 p0.fKnown.x1.fLo, .int .i64 p0.fKnown.x1.fHi, .int .i64 p0.fKnown.x2.fLo, .int .i64 p0.fKnown.x2.fHi])) 1 (.int .i64 p1)) 2 (.int .u8 p2)) 3 (.int .u8 p3)) 4 (.pointer (some ⟨b1, 0, none⟩))) 8 (.bool s.1)) 9 (.bool y2)) 10 (.slice A6 y4.1.length c7)) 11 (.int .i64 y4.2)) 12 (.pointer (some ⟨b12, 0, none⟩))) 13 (.int .i64 y10.2)) 44 (.bool (y4.2 != y10.2))) 46 (.bool (y4.2 != 0))) 88 (.bool b22)) 14 (.int .i64 s.2.1)) 15 (.int .i64 s.2.2))) (fun | (.inl s), e, L, tm => e = .ret ∧ ∃ (tm0 : Nat → Value), L = [cellsR b1 52 [.int .i64 p0.fBarrows, .int .i64 p0.fSeen.x0, .int .i64 p0.fSeen.x1, .int .i64 p0.fSeen.x2, .int .i64 p0.fKnown.x0.fLo, .int .i64 p0.fKnown.x0.fHi, .int .i64 p0.fKnown.x1.fLo, .int .i64 p0.fKnown.x1.fHi, .int .i64 p0.fKnown.x2.fLo, .int .i64 p0.fKnown.x2.fHi], rowR A6 c7 3 1 y4.1.length (encL cI y4.1), cellsR b12 33 [.int .i64 y10.1.fLo, .int .i64 y10.1.fHi]] ∧ tm = (upd (upd (upd (upd (upd (upd (upd (upd (upd (upd (upd (upd (upd (upd (upd (upd tm0 0 (.agg #[.int .i64 p0.fBarrows, .int .i64 p0.fSeen.x0, .int .i64 p0.fSeen.x1, .int .i64 p0.fSeen.x2, .int .i64 p0.fKnown.x0.fLo, .int .i64 p0.fKnown.x0.fHi, .int .i64 p0.fKnown.x1.fLo, .int .i64 p0.fKnown.x1.fHi, .int .i64 p0.fKnown.x2.fLo, .int .i64 p0.fKnown.x2.fHi])) 1 (.int .i64 p1)) 2 (.int .u8 p2)) 3 (.int .u8 p3)) 4 (.pointer (some ⟨b1, 0, none⟩))) 8 (.bool s.1)) 9 (.bool y2)) 10 (.slice A6 y4.1.length c7)) 11 (.int .i64 y4.2)) 12 (.pointer (some ⟨b12, 0, none⟩))) 13 (.int .i64 y10.2)) 44 (.bool (y4.2 != y10.2))) 46 (.bool (y4.2 != 0))) 88 (.bool b22)) 14 (.int .i64 s.2.1)) 15 (.int .i64 s.2.2)) | (.inr s), e, L, tm => e = .exit 0 ∧ ∃ (tm0 : Nat → Value), L = [cellsR b1 52 [.int .i64 p0.fBarrows, .int .i64 p0.fSeen.x0, .int .i64 p0.fSeen.x1, .int .i64 p0.fSeen.x2, .int .i64 p0.fKnown.x0.fLo, .int .i64 p0.fKnown.x0.fHi, .int .i64 p0.fKnown.x1.fLo, .int .i64 p0.fKnown.x1.fHi, .int .i64 p0.fKnown.x2.fLo, .int .i64 p0.fKnown.x2.fHi], rowR A6 c7 3 1 y4.1.length (encL cI y4.1), cellsR b12 33 [.int .i64 y10.1.fLo, .int .i64 y10.1.fHi]] ∧ tm = (upd (upd (upd (upd (upd (upd (upd (upd (upd (upd (upd (upd (upd (upd (upd (upd tm0 0 (.agg #[.int .i64 p0.fBarrows, .int .i64 p0.fSeen.x0, .int .i64 p0.fSeen.x1, .int .i64 p0.fSeen.x2, .int .i64 p0.fKnown.x0.fLo, .int .i64 p0.fKnown.x0.fHi, .int .i64 p0.fKnown.x1.fLo, .int .i64 p0.fKnown.x1.fHi, .int .i64 p0.fKnown.x2.fLo, .int .i64 p0.fKnown.x2.fHi])) 1 (.int .i64 p1)) 2 (.int .u8 p2)) 3 (.int .u8 p3)) 4 (.pointer (some ⟨b1, 0, none⟩))) 8 (.bool s.1)) 9 (.bool y2)) 10 (.slice A6 y4.1.length c7)) 11 (.int .i64 y4.2)) 12 (.pointer (some ⟨b12, 0, none⟩))) 13 (.int .i64 y10.2)) 44 (.bool (y4.2 != y10.2))) 46 (.bool (y4.2 != 0))) 88 (.bool b22)) 14 (.int .i64 s.2.1)) 15 (.int .i64 s.2.2))) hl38 ⟨_, rfl, (keep (keep (keep (keep (keep (keep (keep (keep (keep (keep (keep (keep (keep (keep (keep (keep rfl rfl) rfl) rfl) rfl) rfl) rfl) rfl) rfl) rfl) rfl) rfl) rfl) rfl) rfl) rfl) rfl)⟩ ?_ ?_
                  · rintro s26 L tm st ⟨tm0_s26, rfl, rfl⟩ h
                    unfold calxlaw03_SampleBelieves_l1 at h
                    refine cx_seq ?_
                    refine cx_seq ?_
                    refine cx_region ?_
                    refine ox_y rfl (y_move_int rfl) ?_
                    refine ox_y rfl (y_move_slice rfl) ?_
                    refine ox_y rfl (y_len (us := []) us_66 rfl) ?_
                    refine ox_y rfl (y_lss rfl rfl) ?_
                    refine ox_nil ?_
                    refine ex_then ?_
                    rcases ite_some h with ⟨hp28, h⟩ | ⟨hp28, h⟩
                    · refine cx_true (congrArg Value.bool hp28) ?_
                      refine cx_skip ?_
                      refine ex_then ?_
                      refine cx_seq ?_
                      refine cx_block ?_
                      refine cx_seq ?_
                      refine cx_seq ?_
                      refine cx_region ?_
                      refine ox_y rfl (y_move_slice rfl) ?_
                      refine ox_y rfl (y_move_int rfl) ?_
                      obtain ⟨hg29, h⟩ := guardO_some h
                      refine ox_y rfl (y_indexR sl_66 (by decide) hg29.1 hg29.2 (RdL.row 1 rfl) (encL_len cI_len rfl) rfl rfl) ?_
                      refine ox_y rfl (y_loadR1 (A := A6) (j := (Int.toNat s26.2.2 * 1)) (v := .int .i64 (rdL y4.1 s26.2.2)) sc_3 (RdL.row 1 rfl) rfl (encL_get0 cI_len hg29.1 (lt_nat hg29.2 rfl) rfl)) ?_
                      refine ox_y rfl (y_lss rfl rfl) ?_
                      refine ox_y rfl (y_move_bool rfl) ?_
                      obtain ⟨b31, hb32, h⟩ := bind_some h
                      refine ox_join 18 (fun tm0 => (upd (upd (upd (upd (upd (upd (upd (upd (upd (upd (upd (upd (upd (upd (upd (upd (upd (upd tm0 0 (.agg #[.int .i64 p0.fBarrows, .int .i64 p0.fSeen.x0, .int .i64 p0.fSeen.x1, .int .i64 p0.fSeen.x2, .int .i64 p0.fKnown.x0.fLo, .int .i64 p0.fKnown.x0.fHi, .int .i64 p0.fKnown.x1.fLo, .int .i64 p0.fKnown.x1.fHi, .int .i64 p0.fKnown.x2.fLo, .int .i64 p0.fKnown.x2.fHi])) 1 (.int .i64 p1)) 2 (.int .u8 p2)) 3 (.int .u8 p3)) 4 (.pointer (some ⟨b1, 0, none⟩))) 8 (.bool s26.1)) 9 (.bool y2)) 10 (.slice A6 y4.1.length c7)) 11 (.int .i64 y4.2)) 12 (.pointer (some ⟨b12, 0, none⟩))) 13 (.int .i64 y10.2)) 44 (.bool (y4.2 != y10.2))) 46 (.bool (y4.2 != 0))) 88 (.bool b22)) 14 (.int .i64 s26.2.1)) 15 (.int .i64 s26.2.2)) 92 (.bool (decide (s26.2.2 < ((y4.1.length : Nat) : Int))))) 118 (.bool b31))) (fun tm0 => ?_) (fun key => ?_)
                      · refine ox_nil ?_
                        refine ex_then ?_
                        rcases ite_some h with ⟨hp33, h⟩ | ⟨hp33, h⟩
                        · refine cx_true (congrArg Value.bool hp33) ?_
                          refine cx_seq ?_
                          refine cx_region ?_
                          refine ox_y rfl (y_assign_bool rfl) ?_
                          refine ox_nil ?_
                          refine ex_then ?_
                          refine cx_ret ?_
                          refine ex_then_ret ?_
                          refine ex_block_ret ?_
                          refine ex_then_ret ?_
                          obtain rfl := Option.some.inj h
                          exact ex_stop ⟨rfl, _, rfl, (keep (keep (keep (keep (keep (keep (keep (keep (keep (keep (keep (keep (keep (keep (keep (keep rfl rfl) rfl) rfl) rfl) rfl) rfl) rfl) rfl) rfl) rfl) rfl) rfl) rfl) rfl) rfl) rfl)⟩
                        · refine cx_false (congrArg Value.bool hp33) ?_
                          refine cx_skip ?_
                          refine ex_then ?_
                          refine cx_region ?_
                          refine ox_y rfl (y_move_int rfl) ?_
                          refine ox_y rfl (y_move_slice rfl) ?_
                          refine ox_y rfl (y_move_int rfl) ?_
                          obtain ⟨hg34, h⟩ := guardO_some h
                          refine ox_y rfl (y_indexR sl_66 (by decide) hg34.1 hg34.2 (RdL.row 1 rfl) (encL_len cI_len rfl) rfl rfl) ?_
                          refine ox_y rfl (y_loadR1 (A := A6) (j := (Int.toNat s26.2.2 * 1)) (v := .int .i64 (rdL y4.1 s26.2.2)) sc_3 (RdL.row 1 rfl) rfl (encL_get0 cI_len hg34.1 (lt_nat hg34.2 rfl) rfl)) ?_
                          refine ox_y rfl (y_add rfl rfl) ?_
                          refine ox_y rfl (y_assign_int rfl) ?_
                          refine ox_nil ?_
                          refine ex_block ?_
                          refine ex_then ?_
                          refine cx_region ?_
                          refine ox_y rfl (y_move_int rfl) ?_
                          refine ox_y rfl (y_add rfl rfl) ?_
                          refine ox_y rfl (y_assign_int rfl) ?_
                          refine ox_nil ?_
                          obtain rfl := Option.some.inj h
                          exact ex_next ⟨_, rfl, (keep (keep (keep (keep (keep (keep (keep (keep (keep (keep (keep (keep (keep (keep (keep (keep rfl rfl) rfl) rfl) rfl) rfl) rfl) rfl) rfl) rfl) rfl) rfl) rfl) rfl) rfl) rfl) rfl)⟩
                      · clear h; rcases ite_some hb32 with ⟨hp30, h⟩ | ⟨hp30, h⟩
                        · refine ox_skip (sees_f rfl rfl rfl rfl hp30) ?_
                          refine ox_skip (sees_f rfl rfl rfl rfl hp30) ?_
                          refine ox_skip (sees_f rfl rfl rfl rfl hp30) ?_
                          refine ox_skip (sees_f rfl rfl rfl rfl hp30) ?_
                          refine ox_skip (sees_f rfl rfl rfl rfl hp30) ?_
                          refine ox_skip (sees_f rfl rfl rfl rfl hp30) ?_
                          refine ox_skip rfl ?_
                          refine ox_skip rfl ?_
                          refine ox_skip rfl ?_
                          refine ox_skip rfl ?_
                          refine ox_skip rfl ?_
                          refine ox_skip rfl ?_
                          refine ox_skip rfl ?_
                          refine ox_skip rfl ?_
                          refine ox_skip rfl ?_
                          refine ox_skip rfl ?_
                          refine ox_skip (sees_f rfl rfl rfl rfl hp30) ?_
                          refine ox_y rfl (y_pick_tb (congrArg Value.bool hp30) rfl) ?_
                          obtain rfl := Option.some.inj h
                          exact key _ _ (keep (keep (keep (keep (keep (keep (keep (keep (keep (keep (keep (keep (keep (keep (keep (keep (keep (keep rfl rfl) rfl) rfl) rfl) rfl) rfl) rfl) rfl) rfl) rfl) rfl) rfl) rfl) rfl) rfl) rfl) rfl) rfl)
                        · refine ox_y (sees_t rfl rfl rfl rfl hp30) (y_move_slice rfl) ?_
                          refine ox_y (sees_t rfl rfl rfl rfl hp30) (y_move_int rfl) ?_
                          obtain ⟨hg35, h⟩ := guardO_some h
                          refine ox_y (sees_t rfl rfl rfl rfl hp30) (y_indexR sl_66 (by decide) hg35.1 hg35.2 (RdL.row 1 rfl) (encL_len cI_len rfl) rfl rfl) ?_
                          refine ox_y (sees_t rfl rfl rfl rfl hp30) (y_loadR1 (A := A6) (j := (Int.toNat s26.2.2 * 1)) (v := .int .i64 (rdL y4.1 s26.2.2)) sc_3 (RdL.row 1 rfl) rfl (encL_get0 cI_len hg35.1 (lt_nat hg35.2 rfl) rfl)) ?_
                          refine ox_y (sees_t rfl rfl rfl rfl hp30) (y_gtr rfl rfl) ?_
                          refine ox_y (sees_t rfl rfl rfl rfl hp30) (y_move_bool rfl) ?_
                          refine ox_join 11 (fun tm0 => (upd (upd (upd (upd (upd (upd (upd (upd (upd (upd (upd (upd (upd (upd (upd (upd (upd (upd (upd tm0 0 (.agg #[.int .i64 p0.fBarrows, .int .i64 p0.fSeen.x0, .int .i64 p0.fSeen.x1, .int .i64 p0.fSeen.x2, .int .i64 p0.fKnown.x0.fLo, .int .i64 p0.fKnown.x0.fHi, .int .i64 p0.fKnown.x1.fLo, .int .i64 p0.fKnown.x1.fHi, .int .i64 p0.fKnown.x2.fLo, .int .i64 p0.fKnown.x2.fHi])) 1 (.int .i64 p1)) 2 (.int .u8 p2)) 3 (.int .u8 p3)) 4 (.pointer (some ⟨b1, 0, none⟩))) 8 (.bool s26.1)) 9 (.bool y2)) 10 (.slice A6 y4.1.length c7)) 11 (.int .i64 y4.2)) 12 (.pointer (some ⟨b12, 0, none⟩))) 13 (.int .i64 y10.2)) 44 (.bool (y4.2 != y10.2))) 46 (.bool (y4.2 != 0))) 88 (.bool b22)) 14 (.int .i64 s26.2.1)) 15 (.int .i64 s26.2.2)) 92 (.bool (decide (s26.2.2 < ((y4.1.length : Nat) : Int))))) 100 (.bool (decide ((rdL y4.1 s26.2.2) < 0)))) 117 (.bool ((decide (0 < (rdL y4.1 s26.2.2))) && ((decide (s26.2.2 < y10.1.fLo)) || (decide (y10.1.fHi < s26.2.2))))))) (fun tm0 => ?_) (fun key => ?_)
                          · refine ox_y rfl (y_pick_fb (congrArg Value.bool hp30) rfl) ?_
                            obtain rfl := Option.some.inj h
                            exact key _ _ (keep (keep (keep (keep (keep (keep (keep (keep (keep (keep (keep (keep (keep (keep (keep (keep (keep (keep rfl rfl) rfl) rfl) rfl) rfl) rfl) rfl) rfl) rfl) rfl) rfl) rfl) rfl) rfl) rfl) rfl) rfl) rfl)
                          · rcases bool_cases (decide (0 < (rdL y4.1 s26.2.2))) with hp36 | hp36
                            · refine ox_y (sees_t rfl rfl rfl rfl hp36) (y_move_int rfl) ?_
                              refine ox_y (sees_t rfl rfl rfl rfl hp36) (y_fieldAddr fo_33_0 rfl) ?_
                              refine ox_y (sees_t rfl rfl rfl rfl hp36) (y_load1 2 (v := .int .i64 y10.1.fLo) sc_3 rfl rfl rfl) ?_
                              refine ox_y (sees_t rfl rfl rfl rfl hp36) (y_lss rfl rfl) ?_
                              refine ox_y (sees_t rfl rfl rfl rfl hp36) (y_move_bool rfl) ?_
                              refine ox_join 5 (fun tm0 => (upd (upd (upd (upd (upd (upd (upd (upd (upd (upd (upd (upd (upd (upd (upd (upd (upd (upd (upd (upd tm0 0 (.agg #[.int .i64 p0.fBarrows, .int .i64 p0.fSeen.x0, .int .i64 p0.fSeen.x1, .int .i64 p0.fSeen.x2, .int .i64 p0.fKnown.x0.fLo, .int .i64 p0.fKnown.x0.fHi, .int .i64 p0.fKnown.x1.fLo, .int .i64 p0.fKnown.x1.fHi, .int .i64 p0.fKnown.x2.fLo, .int .i64 p0.fKnown.x2.fHi])) 1 (.int .i64 p1)) 2 (.int .u8 p2)) 3 (.int .u8 p3)) 4 (.pointer (some ⟨b1, 0, none⟩))) 8 (.bool s26.1)) 9 (.bool y2)) 10 (.slice A6 y4.1.length c7)) 11 (.int .i64 y4.2)) 12 (.pointer (some ⟨b12, 0, none⟩))) 13 (.int .i64 y10.2)) 44 (.bool (y4.2 != y10.2))) 46 (.bool (y4.2 != 0))) 88 (.bool b22)) 14 (.int .i64 s26.2.1)) 15 (.int .i64 s26.2.2)) 92 (.bool (decide (s26.2.2 < ((y4.1.length : Nat) : Int))))) 100 (.bool (decide ((rdL y4.1 s26.2.2) < 0)))) 106 (.bool (decide (0 < (rdL y4.1 s26.2.2))))) 116 (.bool ((decide (s26.2.2 < y10.1.fLo)) || (decide (y10.1.fHi < s26.2.2)))))) (fun tm0 => ?_) (fun key => ?_)
                              · refine ox_y (sees_t rfl rfl rfl rfl hp30) (y_pick_tb (congrArg Value.bool hp36) rfl) ?_
                                exact key _ _ (keep (keep (keep (keep (keep (keep (keep (keep (keep (keep (keep (keep (keep (keep (keep (keep (keep (keep (keep rfl rfl) rfl) rfl) rfl) rfl) rfl) rfl) rfl) rfl) rfl) rfl) rfl) rfl) rfl) rfl) rfl) rfl) rfl) (congrArg Value.bool (and_t hp36)))
                              · rcases bool_cases (decide (s26.2.2 < y10.1.fLo)) with hp37 | hp37
                                · refine ox_skip (sees_f rfl rfl rfl rfl hp37) ?_
                                  refine ox_skip (sees_f rfl rfl rfl rfl hp37) ?_
                                  refine ox_skip (sees_f rfl rfl rfl rfl hp37) ?_
                                  refine ox_skip (sees_f rfl rfl rfl rfl hp37) ?_
                                  refine ox_y (sees_t rfl rfl rfl rfl hp36) (y_pick_tb (congrArg Value.bool hp37) rfl) ?_
                                  exact key _ _ (keep (keep (keep (keep (keep (keep (keep (keep (keep (keep (keep (keep (keep (keep (keep (keep (keep (keep (keep (keep rfl rfl) rfl) rfl) rfl) rfl) rfl) rfl) rfl) rfl) rfl) rfl) rfl) rfl) rfl) rfl) rfl) rfl) rfl) rfl) (congrArg Value.bool (or_t hp37)))
                                · refine ox_y (sees_t rfl rfl rfl rfl hp37) (y_move_int rfl) ?_
                                  refine ox_y (sees_t rfl rfl rfl rfl hp37) (y_fieldAddr fo_33_1 rfl) ?_
                                  refine ox_y (sees_t rfl rfl rfl rfl hp37) (y_load1 2 (v := .int .i64 y10.1.fHi) sc_3 rfl rfl rfl) ?_
                                  refine ox_y (sees_t rfl rfl rfl rfl hp37) (y_gtr rfl rfl) ?_
                                  refine ox_y (sees_t rfl rfl rfl rfl hp36) (y_pick_fb (congrArg Value.bool hp37) rfl) ?_
                                  exact key _ _ (keep (keep (keep (keep (keep (keep (keep (keep (keep (keep (keep (keep (keep (keep (keep (keep (keep (keep (keep (keep rfl rfl) rfl) rfl) rfl) rfl) rfl) rfl) rfl) rfl) rfl) rfl) rfl) rfl) rfl) rfl) rfl) rfl) rfl) rfl) (congrArg Value.bool (or_f hp37)))
                            · refine ox_skip (sees_f rfl rfl rfl rfl hp36) ?_
                              refine ox_skip (sees_f rfl rfl rfl rfl hp36) ?_
                              refine ox_skip (sees_f rfl rfl rfl rfl hp36) ?_
                              refine ox_skip (sees_f rfl rfl rfl rfl hp36) ?_
                              refine ox_skip (sees_f rfl rfl rfl rfl hp36) ?_
                              refine ox_skip rfl ?_
                              refine ox_skip rfl ?_
                              refine ox_skip rfl ?_
                              refine ox_skip rfl ?_
                              refine ox_skip (sees_f rfl rfl rfl rfl hp36) ?_
                              refine ox_y (sees_t rfl rfl rfl rfl hp30) (y_pick_fb (congrArg Value.bool hp36) rfl) ?_
                              exact key _ _ (keep (keep (keep (keep (keep (keep (keep (keep (keep (keep (keep (keep (keep (keep (keep (keep (keep (keep (keep rfl rfl) rfl) rfl) rfl) rfl) rfl) rfl) rfl) rfl) rfl) rfl) rfl) rfl) rfl) rfl) rfl) rfl) rfl) (congrArg Value.bool (and_f hp36)))
                    · refine cx_false (congrArg Value.bool hp28) ?_
                      refine cx_exit ?_
                      refine ex_then_exit ?_
                      obtain rfl := Option.some.inj h
                      exact ex_stop ⟨rfl, _, rfl, (keep (keep (keep (keep (keep (keep (keep (keep (keep (keep (keep (keep (keep (keep (keep (keep rfl rfl) rfl) rfl) rfl) rfl) rfl) rfl) rfl) rfl) rfl) rfl) rfl) rfl) rfl) rfl) rfl)⟩
                  · intro e L tm hJ
                    rcases u27 with u39 | u40
                    · dsimp only at h hJ
                      obtain ⟨rfl, tm0_u39, rfl, rfl⟩ := hJ
                      refine ⟨(by intro hc; cases hc), ?_⟩
                      refine ex_block_ret ?_
                      refine ex_then_ret ?_
                      obtain rfl := Option.some.inj h
                      exact ex_res1 (.inl rfl) rfl (resV_tmp (v := .bool u39.1) rfl) (fun W2 hW2 => ⟨rfl, hW2.none⟩)
                    · dsimp only at h hJ
                      obtain ⟨rfl, tm0_u40, rfl, rfl⟩ := hJ
                      refine ⟨(by intro hc; cases hc), ?_⟩
                      refine ex_block_here ?_
                      refine ex_then ?_
                      refine cx_seq ?_
                      refine cx_region ?_
                      refine ox_y rfl (y_loadN 0 [.int .i64 p0.fBarrows, .int .i64 p0.fSeen.x0, .int .i64 p0.fSeen.x1, .int .i64 p0.fSeen.x2, .int .i64 p0.fKnown.x0.fLo, .int .i64 p0.fKnown.x0.fHi, .int .i64 p0.fKnown.x1.fLo, .int .i64 p0.fKnown.x1.fHi, .int .i64 p0.fKnown.x2.fLo, .int .i64 p0.fKnown.x2.fHi] ag_52 rfl rfl rfl) ?_
                      refine ox_y rfl (y_move_int rfl) ?_
                      refine ox_y rfl (y_fieldAddr fo_52_0 rfl) ?_
                      refine ox_y rfl (y_load1 0 (v := .int .i64 p0.fBarrows) sc_3 rfl rfl rfl) ?_
                      refine ox_y rfl (y_buildS [.int .i64 0, .int .i64 p0.fBarrows] [(0, 1), (1, 1)] ust_33 ze_33 (by kernel_rfl)) ?_
                      obtain ⟨y41, hy42, h⟩ := bind_some h
                      refine ox_y rfl (y_call [.agg #[.int .i64 p0.fBarrows, .int .i64 p0.fSeen.x0, .int .i64 p0.fSeen.x1, .int .i64 p0.fSeen.x2, .int .i64 p0.fKnown.x0.fLo, .int .i64 p0.fKnown.x0.fHi, .int .i64 p0.fKnown.x1.fLo, .int .i64 p0.fKnown.x1.fHi, .int .i64 p0.fKnown.x2.fLo, .int .i64 p0.fKnown.x2.fHi], .int .i64 p1, .agg #[.int .i64 0, .int .i64 p0.fBarrows]] go_49 rfl (fun W2 hW2 => sample_Believed_ok p0 p1 (TSpan.mk 0 p0.fBarrows) y41 hy42 W2 ) rfl) ?_
                      refine ox_y rfl (y_move_tuple rfl) ?_
                      refine ox_y rfl (y_extract (vs := [.agg #[.int .i64 y41.1.fNum, .int .i64 y41.1.fDen], .int .i64 y41.2]) (v := .agg #[.int .i64 y41.1.fNum, .int .i64 y41.1.fDen]) rfl rfl) ?_
                      refine ox_y rfl (y_extract (vs := [.agg #[.int .i64 y41.1.fNum, .int .i64 y41.1.fDen], .int .i64 y41.2]) (v := .int .i64 y41.2) rfl rfl) ?_
                      refine ox_alloc ze_23 rfl (fun b43 => ?_)
                      refine ox_n rfl (y_storeN 3 [.int .i64 y41.1.fNum, .int .i64 y41.1.fDen] sz_23 rfl (Nat.le_of_ble_eq_true rfl) rfl rfl rfl) ?_
                      refine ox_y rfl (y_assign_int rfl) ?_
                      refine ox_nil ?_
                      refine ex_then ?_
                      refine cx_seq ?_
                      refine cx_region ?_
                      refine ox_y rfl (y_move_int rfl) ?_
                      refine ox_y rfl (y_convert ui_5 ui_3 rfl) ?_
                      refine ox_y rfl (y_move_slice rfl) ?_
                      refine ox_y rfl (y_len (us := []) us_66 rfl) ?_
                      obtain ⟨hg44, h⟩ := guardO_some h
                      refine ox_y rfl (y_rem hg44 rfl rfl) ?_
                      refine ox_y rfl (y_assign_int rfl) ?_
                      refine ox_nil ?_
                      refine ex_then ?_
                      refine cx_seq ?_
                      refine cx_region ?_
                      refine ox_y rfl (y_move_int rfl) ?_
                      refine ox_y rfl (y_move_int rfl) ?_
                      refine ox_y rfl (y_convert ui_5 ui_3 rfl) ?_
                      refine ox_y rfl (y_move_slice rfl) ?_
                      refine ox_y rfl (y_len (us := []) us_66 rfl) ?_
                      refine ox_y rfl (y_move_int rfl) ?_
                      refine ox_y rfl (y_sub rfl rfl) ?_
                      obtain ⟨hg45, h⟩ := guardO_some h
                      refine ox_y rfl (y_rem hg45 rfl rfl) ?_
                      refine ox_y rfl (y_add rfl rfl) ?_
                      refine ox_y rfl (y_assign_int rfl) ?_
                      refine ox_nil ?_
                      refine ex_then ?_
                      refine cx_seq ?_
                      refine cx_region ?_
                      refine ox_y rfl (y_loadN 0 [.int .i64 p0.fBarrows, .int .i64 p0.fSeen.x0, .int .i64 p0.fSeen.x1, .int .i64 p0.fSeen.x2, .int .i64 p0.fKnown.x0.fLo, .int .i64 p0.fKnown.x0.fHi, .int .i64 p0.fKnown.x1.fLo, .int .i64 p0.fKnown.x1.fHi, .int .i64 p0.fKnown.x2.fLo, .int .i64 p0.fKnown.x2.fHi] ag_52 rfl rfl rfl) ?_
                      refine ox_y rfl (y_move_int rfl) ?_
                      refine ox_y rfl (y_move_int rfl) ?_
                      refine ox_y rfl (y_move_int rfl) ?_
                      refine ox_y rfl (y_buildS [.int .i64 (Int.tmod (w64 p2) ((y4.1.length : Nat) : Int)), .int .i64 (w64 ((Int.tmod (w64 p2) ((y4.1.length : Nat) : Int)) + (Int.tmod (w64 p3) (w64 (((y4.1.length : Nat) : Int) - (Int.tmod (w64 p2) ((y4.1.length : Nat) : Int)))))))] [(0, 1), (1, 1)] ust_33 ze_33 (by kernel_rfl)) ?_
                      obtain ⟨y46, hy47, h⟩ := bind_some h
                      refine ox_y rfl (y_call [.agg #[.int .i64 p0.fBarrows, .int .i64 p0.fSeen.x0, .int .i64 p0.fSeen.x1, .int .i64 p0.fSeen.x2, .int .i64 p0.fKnown.x0.fLo, .int .i64 p0.fKnown.x0.fHi, .int .i64 p0.fKnown.x1.fLo, .int .i64 p0.fKnown.x1.fHi, .int .i64 p0.fKnown.x2.fLo, .int .i64 p0.fKnown.x2.fHi], .int .i64 p1, .agg #[.int .i64 (Int.tmod (w64 p2) ((y4.1.length : Nat) : Int)), .int .i64 (w64 ((Int.tmod (w64 p2) ((y4.1.length : Nat) : Int)) + (Int.tmod (w64 p3) (w64 (((y4.1.length : Nat) : Int) - (Int.tmod (w64 p2) ((y4.1.length : Nat) : Int)))))))]] go_49 rfl (fun W2 hW2 => sample_Believed_ok p0 p1 (TSpan.mk (Int.tmod (w64 p2) ((y4.1.length : Nat) : Int)) (w64 ((Int.tmod (w64 p2) ((y4.1.length : Nat) : Int)) + (Int.tmod (w64 p3) (w64 (((y4.1.length : Nat) : Int) - (Int.tmod (w64 p2) ((y4.1.length : Nat) : Int)))))))) y46 hy47 W2 ) rfl) ?_
                      refine ox_y rfl (y_move_tuple rfl) ?_
                      refine ox_y rfl (y_extract (vs := [.agg #[.int .i64 y46.1.fNum, .int .i64 y46.1.fDen], .int .i64 y46.2]) (v := .agg #[.int .i64 y46.1.fNum, .int .i64 y46.1.fDen]) rfl rfl) ?_
                      refine ox_y rfl (y_extract (vs := [.agg #[.int .i64 y46.1.fNum, .int .i64 y46.1.fDen], .int .i64 y46.2]) (v := .int .i64 y46.2) rfl rfl) ?_
                      refine ox_alloc ze_23 rfl (fun b48 => ?_)
                      refine ox_n rfl (y_storeN 4 [.int .i64 y46.1.fNum, .int .i64 y46.1.fDen] sz_23 rfl (Nat.le_of_ble_eq_true rfl) rfl rfl rfl) ?_
                      refine ox_y rfl (y_assign_int rfl) ?_
                      refine ox_nil ?_
                      refine ex_then ?_
                      refine cx_seq ?_
                      refine cx_region ?_
                      refine ox_y rfl (y_loadN 0 [.int .i64 p0.fBarrows, .int .i64 p0.fSeen.x0, .int .i64 p0.fSeen.x1, .int .i64 p0.fSeen.x2, .int .i64 p0.fKnown.x0.fLo, .int .i64 p0.fKnown.x0.fHi, .int .i64 p0.fKnown.x1.fLo, .int .i64 p0.fKnown.x1.fHi, .int .i64 p0.fKnown.x2.fLo, .int .i64 p0.fKnown.x2.fHi] ag_52 rfl rfl rfl) ?_
                      refine ox_y rfl (y_move_int rfl) ?_
                      refine ox_y rfl (y_move_int rfl) ?_
                      refine ox_y rfl (y_add rfl rfl) ?_
                      refine ox_y rfl (y_move_int rfl) ?_
                      refine ox_y rfl (y_add rfl rfl) ?_
                      refine ox_y rfl (y_buildS [.int .i64 (w64 ((w64 ((Int.tmod (w64 p2) ((y4.1.length : Nat) : Int)) + (Int.tmod (w64 p3) (w64 (((y4.1.length : Nat) : Int) - (Int.tmod (w64 p2) ((y4.1.length : Nat) : Int))))))) + 1)), .int .i64 (w64 ((w64 ((Int.tmod (w64 p2) ((y4.1.length : Nat) : Int)) + (Int.tmod (w64 p3) (w64 (((y4.1.length : Nat) : Int) - (Int.tmod (w64 p2) ((y4.1.length : Nat) : Int))))))) + 1))] [(0, 1), (1, 1)] ust_33 ze_33 (by kernel_rfl)) ?_
                      obtain ⟨y49, hy50, h⟩ := bind_some h
                      refine ox_y rfl (y_call [.agg #[.int .i64 p0.fBarrows, .int .i64 p0.fSeen.x0, .int .i64 p0.fSeen.x1, .int .i64 p0.fSeen.x2, .int .i64 p0.fKnown.x0.fLo, .int .i64 p0.fKnown.x0.fHi, .int .i64 p0.fKnown.x1.fLo, .int .i64 p0.fKnown.x1.fHi, .int .i64 p0.fKnown.x2.fLo, .int .i64 p0.fKnown.x2.fHi], .int .i64 p1, .agg #[.int .i64 (w64 ((w64 ((Int.tmod (w64 p2) ((y4.1.length : Nat) : Int)) + (Int.tmod (w64 p3) (w64 (((y4.1.length : Nat) : Int) - (Int.tmod (w64 p2) ((y4.1.length : Nat) : Int))))))) + 1)), .int .i64 (w64 ((w64 ((Int.tmod (w64 p2) ((y4.1.length : Nat) : Int)) + (Int.tmod (w64 p3) (w64 (((y4.1.length : Nat) : Int) - (Int.tmod (w64 p2) ((y4.1.length : Nat) : Int))))))) + 1))]] go_49 rfl (fun W2 hW2 => sample_Believed_ok p0 p1 (TSpan.mk (w64 ((w64 ((Int.tmod (w64 p2) ((y4.1.length : Nat) : Int)) + (Int.tmod (w64 p3) (w64 (((y4.1.length : Nat) : Int) - (Int.tmod (w64 p2) ((y4.1.length : Nat) : Int))))))) + 1)) (w64 ((w64 ((Int.tmod (w64 p2) ((y4.1.length : Nat) : Int)) + (Int.tmod (w64 p3) (w64 (((y4.1.length : Nat) : Int) - (Int.tmod (w64 p2) ((y4.1.length : Nat) : Int))))))) + 1))) y49 hy50 W2 ) rfl) ?_
                      refine ox_y rfl (y_move_tuple rfl) ?_
                      refine ox_y rfl (y_extract (vs := [.agg #[.int .i64 y49.1.fNum, .int .i64 y49.1.fDen], .int .i64 y49.2]) (v := .agg #[.int .i64 y49.1.fNum, .int .i64 y49.1.fDen]) rfl rfl) ?_
                      refine ox_y rfl (y_extract (vs := [.agg #[.int .i64 y49.1.fNum, .int .i64 y49.1.fDen], .int .i64 y49.2]) (v := .int .i64 y49.2) rfl rfl) ?_
                      refine ox_alloc ze_23 rfl (fun b51 => ?_)
                      try dsimp only [List.nil_append, List.cons_append, List.set_cons_zero, List.set_cons_succ]
                      refine ox_n rfl (y_storeN 5 [.int .i64 y49.1.fNum, .int .i64 y49.1.fDen] sz_23 rfl (Nat.le_of_ble_eq_true rfl) rfl rfl rfl) ?_
                      refine ox_y rfl (y_assign_int rfl) ?_
                      refine ox_nil ?_
                      refine ex_then ?_
                      refine cx_seq ?_
                      refine cx_region ?_
                      refine ox_y rfl (y_loadN 0 [.int .i64 p0.fBarrows, .int .i64 p0.fSeen.x0, .int .i64 p0.fSeen.x1, .int .i64 p0.fSeen.x2, .int .i64 p0.fKnown.x0.fLo, .int .i64 p0.fKnown.x0.fHi, .int .i64 p0.fKnown.x1.fLo, .int .i64 p0.fKnown.x1.fHi, .int .i64 p0.fKnown.x2.fLo, .int .i64 p0.fKnown.x2.fHi] ag_52 rfl rfl rfl) ?_
                      refine ox_y rfl (y_move_int rfl) ?_
                      refine ox_y rfl (y_move_int rfl) ?_
                      refine ox_y rfl (y_move_int rfl) ?_
                      refine ox_y rfl (y_add rfl rfl) ?_
                      refine ox_y rfl (y_buildS [.int .i64 (Int.tmod (w64 p2) ((y4.1.length : Nat) : Int)), .int .i64 (w64 ((w64 ((Int.tmod (w64 p2) ((y4.1.length : Nat) : Int)) + (Int.tmod (w64 p3) (w64 (((y4.1.length : Nat) : Int) - (Int.tmod (w64 p2) ((y4.1.length : Nat) : Int))))))) + 1))] [(0, 1), (1, 1)] ust_33 ze_33 (by kernel_rfl)) ?_
                      obtain ⟨y52, hy53, h⟩ := bind_some h
                      refine ox_y rfl (y_call [.agg #[.int .i64 p0.fBarrows, .int .i64 p0.fSeen.x0, .int .i64 p0.fSeen.x1, .int .i64 p0.fSeen.x2, .int .i64 p0.fKnown.x0.fLo, .int .i64 p0.fKnown.x0.fHi, .int .i64 p0.fKnown.x1.fLo, .int .i64 p0.fKnown.x1.fHi, .int .i64 p0.fKnown.x2.fLo, .int .i64 p0.fKnown.x2.fHi], .int .i64 p1, .agg #[.int .i64 (Int.tmod (w64 p2) ((y4.1.length : Nat) : Int)), .int .i64 (w64 ((w64 ((Int.tmod (w64 p2) ((y4.1.length : Nat) : Int)) + (Int.tmod (w64 p3) (w64 (((y4.1.length : Nat) : Int) - (Int.tmod (w64 p2) ((y4.1.length : Nat) : Int))))))) + 1))]] go_49 rfl (fun W2 hW2 => sample_Believed_ok p0 p1 (TSpan.mk (Int.tmod (w64 p2) ((y4.1.length : Nat) : Int)) (w64 ((w64 ((Int.tmod (w64 p2) ((y4.1.length : Nat) : Int)) + (Int.tmod (w64 p3) (w64 (((y4.1.length : Nat) : Int) - (Int.tmod (w64 p2) ((y4.1.length : Nat) : Int))))))) + 1))) y52 hy53 W2 ) rfl) ?_
                      refine ox_y rfl (y_move_tuple rfl) ?_
                      refine ox_y rfl (y_extract (vs := [.agg #[.int .i64 y52.1.fNum, .int .i64 y52.1.fDen], .int .i64 y52.2]) (v := .agg #[.int .i64 y52.1.fNum, .int .i64 y52.1.fDen]) rfl rfl) ?_
                      refine ox_y rfl (y_extract (vs := [.agg #[.int .i64 y52.1.fNum, .int .i64 y52.1.fDen], .int .i64 y52.2]) (v := .int .i64 y52.2) rfl rfl) ?_
                      refine ox_alloc ze_23 rfl (fun b54 => ?_)
                      try dsimp only [List.nil_append, List.cons_append, List.set_cons_zero, List.set_cons_succ]
                      refine ox_n rfl (y_storeN 6 [.int .i64 y52.1.fNum, .int .i64 y52.1.fDen] sz_23 rfl (Nat.le_of_ble_eq_true rfl) rfl rfl rfl) ?_
                      refine ox_y rfl (y_assign_int rfl) ?_
                      refine ox_nil ?_
                      refine ex_then ?_
                      refine cx_seq ?_
                      refine cx_seq ?_
                      refine cx_region ?_
                      refine ox_y rfl (y_move_int rfl) ?_
                      refine ox_y rfl (y_neq rfl rfl) ?_
                      refine ox_y rfl (y_move_bool rfl) ?_
                      refine ox_join 3 (fun tm0 => (upd (upd (upd (upd (upd (upd (upd (upd (upd (upd (upd (upd (upd (upd (upd (upd (upd (upd (upd (upd (upd (upd (upd (upd (upd (upd (upd tm0 0 (.agg #[.int .i64 p0.fBarrows, .int .i64 p0.fSeen.x0, .int .i64 p0.fSeen.x1, .int .i64 p0.fSeen.x2, .int .i64 p0.fKnown.x0.fLo, .int .i64 p0.fKnown.x0.fHi, .int .i64 p0.fKnown.x1.fLo, .int .i64 p0.fKnown.x1.fHi, .int .i64 p0.fKnown.x2.fLo, .int .i64 p0.fKnown.x2.fHi])) 1 (.int .i64 p1)) 2 (.int .u8 p2)) 3 (.int .u8 p3)) 4 (.pointer (some ⟨b1, 0, none⟩))) 8 (.bool u40.1)) 9 (.bool y2)) 10 (.slice A6 y4.1.length c7)) 11 (.int .i64 y4.2)) 12 (.pointer (some ⟨b12, 0, none⟩))) 13 (.int .i64 y10.2)) 44 (.bool (y4.2 != y10.2))) 46 (.bool (y4.2 != 0))) 88 (.bool b22)) 14 (.int .i64 u40.2.1)) 15 (.int .i64 u40.2.2)) 16 (.pointer (some ⟨b43, 0, none⟩))) 17 (.int .i64 y41.2)) 18 (.int .i64 (Int.tmod (w64 p2) ((y4.1.length : Nat) : Int)))) 19 (.int .i64 (w64 ((Int.tmod (w64 p2) ((y4.1.length : Nat) : Int)) + (Int.tmod (w64 p3) (w64 (((y4.1.length : Nat) : Int) - (Int.tmod (w64 p2) ((y4.1.length : Nat) : Int))))))))) 20 (.pointer (some ⟨b48, 0, none⟩))) 21 (.int .i64 y46.2)) 22 (.pointer (some ⟨b51, 0, none⟩))) 23 (.int .i64 y49.2)) 24 (.pointer (some ⟨b54, 0, none⟩))) 25 (.int .i64 y52.2)) 183 (.bool ((y41.2 != 0) || (y46.2 != 0))))) (fun tm0 => ?_) (fun key => ?_)
                      · refine ox_y rfl (y_move_bool rfl) ?_
                        refine ox_join 3 (fun tm0 => (upd (upd (upd (upd (upd (upd (upd (upd (upd (upd (upd (upd (upd (upd (upd (upd (upd (upd (upd (upd (upd (upd (upd (upd (upd (upd (upd tm0 0 (.agg #[.int .i64 p0.fBarrows, .int .i64 p0.fSeen.x0, .int .i64 p0.fSeen.x1, .int .i64 p0.fSeen.x2, .int .i64 p0.fKnown.x0.fLo, .int .i64 p0.fKnown.x0.fHi, .int .i64 p0.fKnown.x1.fLo, .int .i64 p0.fKnown.x1.fHi, .int .i64 p0.fKnown.x2.fLo, .int .i64 p0.fKnown.x2.fHi])) 1 (.int .i64 p1)) 2 (.int .u8 p2)) 3 (.int .u8 p3)) 4 (.pointer (some ⟨b1, 0, none⟩))) 8 (.bool u40.1)) 9 (.bool y2)) 10 (.slice A6 y4.1.length c7)) 11 (.int .i64 y4.2)) 12 (.pointer (some ⟨b12, 0, none⟩))) 13 (.int .i64 y10.2)) 44 (.bool (y4.2 != y10.2))) 46 (.bool (y4.2 != 0))) 88 (.bool b22)) 14 (.int .i64 u40.2.1)) 15 (.int .i64 u40.2.2)) 16 (.pointer (some ⟨b43, 0, none⟩))) 17 (.int .i64 y41.2)) 18 (.int .i64 (Int.tmod (w64 p2) ((y4.1.length : Nat) : Int)))) 19 (.int .i64 (w64 ((Int.tmod (w64 p2) ((y4.1.length : Nat) : Int)) + (Int.tmod (w64 p3) (w64 (((y4.1.length : Nat) : Int) - (Int.tmod (w64 p2) ((y4.1.length : Nat) : Int))))))))) 20 (.pointer (some ⟨b48, 0, none⟩))) 21 (.int .i64 y46.2)) 22 (.pointer (some ⟨b51, 0, none⟩))) 23 (.int .i64 y49.2)) 24 (.pointer (some ⟨b54, 0, none⟩))) 25 (.int .i64 y52.2)) 187 (.bool (((y41.2 != 0) || (y46.2 != 0)) || (y49.2 != 0))))) (fun tm0 => ?_) (fun key => ?_)
                        · refine ox_y rfl (y_move_bool rfl) ?_
                          refine ox_join 3 (fun tm0 => (upd (upd (upd (upd (upd (upd (upd (upd (upd (upd (upd (upd (upd (upd (upd (upd (upd (upd (upd (upd (upd (upd (upd (upd (upd (upd (upd tm0 0 (.agg #[.int .i64 p0.fBarrows, .int .i64 p0.fSeen.x0, .int .i64 p0.fSeen.x1, .int .i64 p0.fSeen.x2, .int .i64 p0.fKnown.x0.fLo, .int .i64 p0.fKnown.x0.fHi, .int .i64 p0.fKnown.x1.fLo, .int .i64 p0.fKnown.x1.fHi, .int .i64 p0.fKnown.x2.fLo, .int .i64 p0.fKnown.x2.fHi])) 1 (.int .i64 p1)) 2 (.int .u8 p2)) 3 (.int .u8 p3)) 4 (.pointer (some ⟨b1, 0, none⟩))) 8 (.bool u40.1)) 9 (.bool y2)) 10 (.slice A6 y4.1.length c7)) 11 (.int .i64 y4.2)) 12 (.pointer (some ⟨b12, 0, none⟩))) 13 (.int .i64 y10.2)) 44 (.bool (y4.2 != y10.2))) 46 (.bool (y4.2 != 0))) 88 (.bool b22)) 14 (.int .i64 u40.2.1)) 15 (.int .i64 u40.2.2)) 16 (.pointer (some ⟨b43, 0, none⟩))) 17 (.int .i64 y41.2)) 18 (.int .i64 (Int.tmod (w64 p2) ((y4.1.length : Nat) : Int)))) 19 (.int .i64 (w64 ((Int.tmod (w64 p2) ((y4.1.length : Nat) : Int)) + (Int.tmod (w64 p3) (w64 (((y4.1.length : Nat) : Int) - (Int.tmod (w64 p2) ((y4.1.length : Nat) : Int))))))))) 20 (.pointer (some ⟨b48, 0, none⟩))) 21 (.int .i64 y46.2)) 22 (.pointer (some ⟨b51, 0, none⟩))) 23 (.int .i64 y49.2)) 24 (.pointer (some ⟨b54, 0, none⟩))) 25 (.int .i64 y52.2)) 191 (.bool ((((y41.2 != 0) || (y46.2 != 0)) || (y49.2 != 0)) || (y52.2 != 0))))) (fun tm0 => ?_) (fun key => ?_)
                          · refine ox_y rfl (y_move_bool rfl) ?_
                            refine ox_join 4 (fun tm0 => (upd (upd (upd (upd (upd (upd (upd (upd (upd (upd (upd (upd (upd (upd (upd (upd (upd (upd (upd (upd (upd (upd (upd (upd (upd (upd (upd tm0 0 (.agg #[.int .i64 p0.fBarrows, .int .i64 p0.fSeen.x0, .int .i64 p0.fSeen.x1, .int .i64 p0.fSeen.x2, .int .i64 p0.fKnown.x0.fLo, .int .i64 p0.fKnown.x0.fHi, .int .i64 p0.fKnown.x1.fLo, .int .i64 p0.fKnown.x1.fHi, .int .i64 p0.fKnown.x2.fLo, .int .i64 p0.fKnown.x2.fHi])) 1 (.int .i64 p1)) 2 (.int .u8 p2)) 3 (.int .u8 p3)) 4 (.pointer (some ⟨b1, 0, none⟩))) 8 (.bool u40.1)) 9 (.bool y2)) 10 (.slice A6 y4.1.length c7)) 11 (.int .i64 y4.2)) 12 (.pointer (some ⟨b12, 0, none⟩))) 13 (.int .i64 y10.2)) 44 (.bool (y4.2 != y10.2))) 46 (.bool (y4.2 != 0))) 88 (.bool b22)) 14 (.int .i64 u40.2.1)) 15 (.int .i64 u40.2.2)) 16 (.pointer (some ⟨b43, 0, none⟩))) 17 (.int .i64 y41.2)) 18 (.int .i64 (Int.tmod (w64 p2) ((y4.1.length : Nat) : Int)))) 19 (.int .i64 (w64 ((Int.tmod (w64 p2) ((y4.1.length : Nat) : Int)) + (Int.tmod (w64 p3) (w64 (((y4.1.length : Nat) : Int) - (Int.tmod (w64 p2) ((y4.1.length : Nat) : Int))))))))) 20 (.pointer (some ⟨b48, 0, none⟩))) 21 (.int .i64 y46.2)) 22 (.pointer (some ⟨b51, 0, none⟩))) 23 (.int .i64 y49.2)) 24 (.pointer (some ⟨b54, 0, none⟩))) 25 (.int .i64 y52.2)) 196 (.bool (((((y41.2 != 0) || (y46.2 != 0)) || (y49.2 != 0)) || (y52.2 != 0)) || (!((y41.1.fNum == 1) && (y41.1.fDen == 1))))))) (fun tm0 => ?_) (fun key => ?_)
                            · refine ox_nil ?_
                              refine ex_then ?_
                              rcases ite_some h with ⟨hp59, h⟩ | ⟨hp59, h⟩
                              · refine cx_true (congrArg Value.bool hp59) ?_
                                refine cx_seq ?_
                                refine cx_region ?_
                                refine ox_y rfl (y_assign_bool rfl) ?_
                                refine ox_nil ?_
                                refine ex_then ?_
                                refine cx_ret ?_
                                refine ex_then_ret ?_
                                obtain rfl := Option.some.inj h
                                exact ex_res1 (.inl rfl) rfl (resV_tmp (v := .bool false) rfl) (fun W2 hW2 => ⟨rfl, hW2.none⟩)
                              · refine cx_false (congrArg Value.bool hp59) ?_
                                refine cx_skip ?_
                                refine ex_then ?_
                                refine cx_seq ?_
                                refine cx_region ?_
                                refine ox_y rfl (y_loadN 4 [.int .i64 y46.1.fNum, .int .i64 y46.1.fDen] ag_23 rfl rfl rfl) ?_
                                refine ox_y rfl (y_loadN 5 [.int .i64 y49.1.fNum, .int .i64 y49.1.fDen] ag_23 rfl rfl rfl) ?_
                                obtain ⟨y60, hy61, h⟩ := bind_some h
                                refine ox_y rfl (y_call [.agg #[.int .i64 y46.1.fNum, .int .i64 y46.1.fDen], .agg #[.int .i64 y49.1.fNum, .int .i64 y49.1.fDen]] go_61 rfl (fun W2 hW2 => calxlaw03_more_ok y46.1 y49.1 y60 hy61 W2 ) rfl) ?_
                                refine ox_y rfl (y_move_tuple rfl) ?_
                                refine ox_y rfl (y_extract (vs := [.int .i64 y60.1, .int .i64 y60.2.1, .bool y60.2.2]) (v := .int .i64 y60.1) rfl rfl) ?_
                                refine ox_y rfl (y_extract (vs := [.int .i64 y60.1, .int .i64 y60.2.1, .bool y60.2.2]) (v := .int .i64 y60.2.1) rfl rfl) ?_
                                refine ox_y rfl (y_extract (vs := [.int .i64 y60.1, .int .i64 y60.2.1, .bool y60.2.2]) (v := .bool y60.2.2) rfl rfl) ?_
                                refine ox_y rfl (y_assign_int rfl) ?_
                                refine ox_y rfl (y_assign_int rfl) ?_
                                refine ox_y rfl (y_assign_bool rfl) ?_
                                refine ox_nil ?_
                                refine ex_then ?_
                                refine cx_seq ?_
                                refine cx_seq ?_
                                refine cx_region ?_
                                refine ox_y rfl (y_move_bool rfl) ?_
                                refine ox_y rfl (y_not rfl) ?_
                                refine ox_y rfl (y_move_bool rfl) ?_
                                refine ox_join 4 (fun tm0 => (upd (upd (upd (upd (upd (upd (upd (upd (upd (upd (upd (upd (upd (upd (upd (upd (upd (upd (upd (upd (upd (upd (upd (upd (upd (upd (upd (upd (upd (upd (upd tm0 0 (.agg #[.int .i64 p0.fBarrows, .int .i64 p0.fSeen.x0, .int .i64 p0.fSeen.x1, .int .i64 p0.fSeen.x2, .int .i64 p0.fKnown.x0.fLo, .int .i64 p0.fKnown.x0.fHi, .int .i64 p0.fKnown.x1.fLo, .int .i64 p0.fKnown.x1.fHi, .int .i64 p0.fKnown.x2.fLo, .int .i64 p0.fKnown.x2.fHi])) 1 (.int .i64 p1)) 2 (.int .u8 p2)) 3 (.int .u8 p3)) 4 (.pointer (some ⟨b1, 0, none⟩))) 8 (.bool u40.1)) 9 (.bool y2)) 10 (.slice A6 y4.1.length c7)) 11 (.int .i64 y4.2)) 12 (.pointer (some ⟨b12, 0, none⟩))) 13 (.int .i64 y10.2)) 44 (.bool (y4.2 != y10.2))) 46 (.bool (y4.2 != 0))) 88 (.bool b22)) 14 (.int .i64 u40.2.1)) 15 (.int .i64 u40.2.2)) 16 (.pointer (some ⟨b43, 0, none⟩))) 17 (.int .i64 y41.2)) 18 (.int .i64 (Int.tmod (w64 p2) ((y4.1.length : Nat) : Int)))) 19 (.int .i64 (w64 ((Int.tmod (w64 p2) ((y4.1.length : Nat) : Int)) + (Int.tmod (w64 p3) (w64 (((y4.1.length : Nat) : Int) - (Int.tmod (w64 p2) ((y4.1.length : Nat) : Int))))))))) 20 (.pointer (some ⟨b48, 0, none⟩))) 21 (.int .i64 y46.2)) 22 (.pointer (some ⟨b51, 0, none⟩))) 23 (.int .i64 y49.2)) 24 (.pointer (some ⟨b54, 0, none⟩))) 25 (.int .i64 y52.2)) 196 (.bool (((((y41.2 != 0) || (y46.2 != 0)) || (y49.2 != 0)) || (y52.2 != 0)) || (!((y41.1.fNum == 1) && (y41.1.fDen == 1)))))) 26 (.int .i64 y60.1)) 27 (.int .i64 y60.2.1)) 28 (.bool y60.2.2)) 210 (.bool ((!y60.2.2) || (decide (1048576 < y52.1.fNum)))))) (fun tm0 => ?_) (fun key => ?_)
                                · refine ox_y rfl (y_move_bool rfl) ?_
                                  refine ox_join 4 (fun tm0 => (upd (upd (upd (upd (upd (upd (upd (upd (upd (upd (upd (upd (upd (upd (upd (upd (upd (upd (upd (upd (upd (upd (upd (upd (upd (upd (upd (upd (upd (upd (upd tm0 0 (.agg #[.int .i64 p0.fBarrows, .int .i64 p0.fSeen.x0, .int .i64 p0.fSeen.x1, .int .i64 p0.fSeen.x2, .int .i64 p0.fKnown.x0.fLo, .int .i64 p0.fKnown.x0.fHi, .int .i64 p0.fKnown.x1.fLo, .int .i64 p0.fKnown.x1.fHi, .int .i64 p0.fKnown.x2.fLo, .int .i64 p0.fKnown.x2.fHi])) 1 (.int .i64 p1)) 2 (.int .u8 p2)) 3 (.int .u8 p3)) 4 (.pointer (some ⟨b1, 0, none⟩))) 8 (.bool u40.1)) 9 (.bool y2)) 10 (.slice A6 y4.1.length c7)) 11 (.int .i64 y4.2)) 12 (.pointer (some ⟨b12, 0, none⟩))) 13 (.int .i64 y10.2)) 44 (.bool (y4.2 != y10.2))) 46 (.bool (y4.2 != 0))) 88 (.bool b22)) 14 (.int .i64 u40.2.1)) 15 (.int .i64 u40.2.2)) 16 (.pointer (some ⟨b43, 0, none⟩))) 17 (.int .i64 y41.2)) 18 (.int .i64 (Int.tmod (w64 p2) ((y4.1.length : Nat) : Int)))) 19 (.int .i64 (w64 ((Int.tmod (w64 p2) ((y4.1.length : Nat) : Int)) + (Int.tmod (w64 p3) (w64 (((y4.1.length : Nat) : Int) - (Int.tmod (w64 p2) ((y4.1.length : Nat) : Int))))))))) 20 (.pointer (some ⟨b48, 0, none⟩))) 21 (.int .i64 y46.2)) 22 (.pointer (some ⟨b51, 0, none⟩))) 23 (.int .i64 y49.2)) 24 (.pointer (some ⟨b54, 0, none⟩))) 25 (.int .i64 y52.2)) 196 (.bool (((((y41.2 != 0) || (y46.2 != 0)) || (y49.2 != 0)) || (y52.2 != 0)) || (!((y41.1.fNum == 1) && (y41.1.fDen == 1)))))) 26 (.int .i64 y60.1)) 27 (.int .i64 y60.2.1)) 28 (.bool y60.2.2)) 215 (.bool (((!y60.2.2) || (decide (1048576 < y52.1.fNum))) || (decide (1048576 < y52.1.fDen)))))) (fun tm0 => ?_) (fun key => ?_)
                                  · refine ox_y rfl (y_move_bool rfl) ?_
                                    refine ox_join 3 (fun tm0 => (upd (upd (upd (upd (upd (upd (upd (upd (upd (upd (upd (upd (upd (upd (upd (upd (upd (upd (upd (upd (upd (upd (upd (upd (upd (upd (upd (upd (upd (upd (upd tm0 0 (.agg #[.int .i64 p0.fBarrows, .int .i64 p0.fSeen.x0, .int .i64 p0.fSeen.x1, .int .i64 p0.fSeen.x2, .int .i64 p0.fKnown.x0.fLo, .int .i64 p0.fKnown.x0.fHi, .int .i64 p0.fKnown.x1.fLo, .int .i64 p0.fKnown.x1.fHi, .int .i64 p0.fKnown.x2.fLo, .int .i64 p0.fKnown.x2.fHi])) 1 (.int .i64 p1)) 2 (.int .u8 p2)) 3 (.int .u8 p3)) 4 (.pointer (some ⟨b1, 0, none⟩))) 8 (.bool u40.1)) 9 (.bool y2)) 10 (.slice A6 y4.1.length c7)) 11 (.int .i64 y4.2)) 12 (.pointer (some ⟨b12, 0, none⟩))) 13 (.int .i64 y10.2)) 44 (.bool (y4.2 != y10.2))) 46 (.bool (y4.2 != 0))) 88 (.bool b22)) 14 (.int .i64 u40.2.1)) 15 (.int .i64 u40.2.2)) 16 (.pointer (some ⟨b43, 0, none⟩))) 17 (.int .i64 y41.2)) 18 (.int .i64 (Int.tmod (w64 p2) ((y4.1.length : Nat) : Int)))) 19 (.int .i64 (w64 ((Int.tmod (w64 p2) ((y4.1.length : Nat) : Int)) + (Int.tmod (w64 p3) (w64 (((y4.1.length : Nat) : Int) - (Int.tmod (w64 p2) ((y4.1.length : Nat) : Int))))))))) 20 (.pointer (some ⟨b48, 0, none⟩))) 21 (.int .i64 y46.2)) 22 (.pointer (some ⟨b51, 0, none⟩))) 23 (.int .i64 y49.2)) 24 (.pointer (some ⟨b54, 0, none⟩))) 25 (.int .i64 y52.2)) 196 (.bool (((((y41.2 != 0) || (y46.2 != 0)) || (y49.2 != 0)) || (y52.2 != 0)) || (!((y41.1.fNum == 1) && (y41.1.fDen == 1)))))) 26 (.int .i64 y60.1)) 27 (.int .i64 y60.2.1)) 28 (.bool y60.2.2)) 219 (.bool ((((!y60.2.2) || (decide (1048576 < y52.1.fNum))) || (decide (1048576 < y52.1.fDen))) || (decide (1099511627776 < y60.2.1)))))) (fun tm0 => ?_) (fun key => ?_)
                                    · refine ox_y rfl (y_move_bool rfl) ?_
                                      refine ox_join 3 (fun tm0 => (upd (upd (upd (upd (upd (upd (upd (upd (upd (upd (upd (upd (upd (upd (upd (upd (upd (upd (upd (upd (upd (upd (upd (upd (upd (upd (upd (upd (upd (upd (upd tm0 0 (.agg #[.int .i64 p0.fBarrows, .int .i64 p0.fSeen.x0, .int .i64 p0.fSeen.x1, .int .i64 p0.fSeen.x2, .int .i64 p0.fKnown.x0.fLo, .int .i64 p0.fKnown.x0.fHi, .int .i64 p0.fKnown.x1.fLo, .int .i64 p0.fKnown.x1.fHi, .int .i64 p0.fKnown.x2.fLo, .int .i64 p0.fKnown.x2.fHi])) 1 (.int .i64 p1)) 2 (.int .u8 p2)) 3 (.int .u8 p3)) 4 (.pointer (some ⟨b1, 0, none⟩))) 8 (.bool u40.1)) 9 (.bool y2)) 10 (.slice A6 y4.1.length c7)) 11 (.int .i64 y4.2)) 12 (.pointer (some ⟨b12, 0, none⟩))) 13 (.int .i64 y10.2)) 44 (.bool (y4.2 != y10.2))) 46 (.bool (y4.2 != 0))) 88 (.bool b22)) 14 (.int .i64 u40.2.1)) 15 (.int .i64 u40.2.2)) 16 (.pointer (some ⟨b43, 0, none⟩))) 17 (.int .i64 y41.2)) 18 (.int .i64 (Int.tmod (w64 p2) ((y4.1.length : Nat) : Int)))) 19 (.int .i64 (w64 ((Int.tmod (w64 p2) ((y4.1.length : Nat) : Int)) + (Int.tmod (w64 p3) (w64 (((y4.1.length : Nat) : Int) - (Int.tmod (w64 p2) ((y4.1.length : Nat) : Int))))))))) 20 (.pointer (some ⟨b48, 0, none⟩))) 21 (.int .i64 y46.2)) 22 (.pointer (some ⟨b51, 0, none⟩))) 23 (.int .i64 y49.2)) 24 (.pointer (some ⟨b54, 0, none⟩))) 25 (.int .i64 y52.2)) 196 (.bool (((((y41.2 != 0) || (y46.2 != 0)) || (y49.2 != 0)) || (y52.2 != 0)) || (!((y41.1.fNum == 1) && (y41.1.fDen == 1)))))) 26 (.int .i64 y60.1)) 27 (.int .i64 y60.2.1)) 28 (.bool y60.2.2)) 223 (.bool (((((!y60.2.2) || (decide (1048576 < y52.1.fNum))) || (decide (1048576 < y52.1.fDen))) || (decide (1099511627776 < y60.2.1))) || (decide (1099511627776 < y60.1)))))) (fun tm0 => ?_) (fun key => ?_)
                                      · refine ox_nil ?_
                                        refine ex_then ?_
                                        rcases ite_some h with ⟨hp66, h⟩ | ⟨hp66, h⟩
                                        · refine cx_true (congrArg Value.bool hp66) ?_
                                          refine cx_seq ?_
                                          refine cx_region ?_
                                          refine ox_y rfl (y_move_bool rfl) ?_
                                          refine ox_y rfl (y_move_bool rfl) ?_
                                          refine ox_join 3 (fun tm0 => (upd (upd (upd (upd (upd (upd (upd (upd (upd (upd (upd (upd (upd (upd (upd (upd (upd (upd (upd (upd (upd (upd (upd (upd (upd (upd (upd (upd (upd (upd (upd (upd tm0 0 (.agg #[.int .i64 p0.fBarrows, .int .i64 p0.fSeen.x0, .int .i64 p0.fSeen.x1, .int .i64 p0.fSeen.x2, .int .i64 p0.fKnown.x0.fLo, .int .i64 p0.fKnown.x0.fHi, .int .i64 p0.fKnown.x1.fLo, .int .i64 p0.fKnown.x1.fHi, .int .i64 p0.fKnown.x2.fLo, .int .i64 p0.fKnown.x2.fHi])) 1 (.int .i64 p1)) 2 (.int .u8 p2)) 3 (.int .u8 p3)) 4 (.pointer (some ⟨b1, 0, none⟩))) 8 (.bool u40.1)) 9 (.bool y2)) 10 (.slice A6 y4.1.length c7)) 11 (.int .i64 y4.2)) 12 (.pointer (some ⟨b12, 0, none⟩))) 13 (.int .i64 y10.2)) 44 (.bool (y4.2 != y10.2))) 46 (.bool (y4.2 != 0))) 88 (.bool b22)) 14 (.int .i64 u40.2.1)) 15 (.int .i64 u40.2.2)) 16 (.pointer (some ⟨b43, 0, none⟩))) 17 (.int .i64 y41.2)) 18 (.int .i64 (Int.tmod (w64 p2) ((y4.1.length : Nat) : Int)))) 19 (.int .i64 (w64 ((Int.tmod (w64 p2) ((y4.1.length : Nat) : Int)) + (Int.tmod (w64 p3) (w64 (((y4.1.length : Nat) : Int) - (Int.tmod (w64 p2) ((y4.1.length : Nat) : Int))))))))) 20 (.pointer (some ⟨b48, 0, none⟩))) 21 (.int .i64 y46.2)) 22 (.pointer (some ⟨b51, 0, none⟩))) 23 (.int .i64 y49.2)) 24 (.pointer (some ⟨b54, 0, none⟩))) 25 (.int .i64 y52.2)) 196 (.bool (((((y41.2 != 0) || (y46.2 != 0)) || (y49.2 != 0)) || (y52.2 != 0)) || (!((y41.1.fNum == 1) && (y41.1.fDen == 1)))))) 26 (.int .i64 y60.1)) 27 (.int .i64 y60.2.1)) 28 (.bool y60.2.2)) 223 (.bool (((((!y60.2.2) || (decide (1048576 < y52.1.fNum))) || (decide (1048576 < y52.1.fDen))) || (decide (1099511627776 < y60.2.1))) || (decide (1099511627776 < y60.1))))) 228 (.bool (y2 && (decide (1 ≤ u40.2.1)))))) (fun tm0 => ?_) (fun key => ?_)
                                          · refine ox_y rfl (y_assign_bool rfl) ?_
                                            refine ox_nil ?_
                                            refine ex_then ?_
                                            refine cx_ret ?_
                                            refine ex_then_ret ?_
                                            obtain rfl := Option.some.inj h
                                            exact ex_res1 (.inl rfl) rfl (resV_tmp (v := .bool (y2 && (decide (1 ≤ u40.2.1)))) rfl) (fun W2 hW2 => ⟨rfl, hW2.none⟩)
                                          · rcases bool_cases y2 with hp67 | hp67
                                            · refine ox_y (sees_t rfl rfl rfl rfl hp67) (y_move_int rfl) ?_
                                              refine ox_y (sees_t rfl rfl rfl rfl hp67) (y_geq rfl rfl) ?_
                                              refine ox_y rfl (y_pick_tb (congrArg Value.bool hp67) rfl) ?_
                                              exact key _ _ (keep (keep (keep (keep (keep (keep (keep (keep (keep (keep (keep (keep (keep (keep (keep (keep (keep (keep (keep (keep (keep (keep (keep (keep (keep (keep (keep (keep (keep (keep (keep (keep rfl rfl) rfl) rfl) rfl) rfl) rfl) rfl) rfl) rfl) rfl) rfl) rfl) rfl) rfl) rfl) rfl) rfl) rfl) rfl) rfl) rfl) rfl) rfl) rfl) rfl) rfl) rfl) rfl) rfl) rfl) rfl) (congrArg Value.bool (and_t hp67)))
                                            · refine ox_skip (sees_f rfl rfl rfl rfl hp67) ?_
                                              refine ox_skip (sees_f rfl rfl rfl rfl hp67) ?_
                                              refine ox_y rfl (y_pick_fb (congrArg Value.bool hp67) rfl) ?_
                                              exact key _ _ (keep (keep (keep (keep (keep (keep (keep (keep (keep (keep (keep (keep (keep (keep (keep (keep (keep (keep (keep (keep (keep (keep (keep (keep (keep (keep (keep (keep (keep (keep (keep (keep rfl rfl) rfl) rfl) rfl) rfl) rfl) rfl) rfl) rfl) rfl) rfl) rfl) rfl) rfl) rfl) rfl) rfl) rfl) rfl) rfl) rfl) rfl) rfl) rfl) rfl) rfl) rfl) rfl) rfl) rfl) rfl) (congrArg Value.bool (and_f hp67)))
                                        · refine cx_false (congrArg Value.bool hp66) ?_
                                          refine cx_skip ?_
                                          refine ex_then ?_
                                          refine cx_seq ?_
                                          refine cx_region ?_
                                          refine ox_y rfl (y_move_bool rfl) ?_
                                          refine ox_y rfl (y_move_bool rfl) ?_
                                          refine ox_join 3 (fun tm0 => (upd (upd (upd (upd (upd (upd (upd (upd (upd (upd (upd (upd (upd (upd (upd (upd (upd (upd (upd (upd (upd (upd (upd (upd (upd (upd (upd (upd (upd (upd (upd (upd tm0 0 (.agg #[.int .i64 p0.fBarrows, .int .i64 p0.fSeen.x0, .int .i64 p0.fSeen.x1, .int .i64 p0.fSeen.x2, .int .i64 p0.fKnown.x0.fLo, .int .i64 p0.fKnown.x0.fHi, .int .i64 p0.fKnown.x1.fLo, .int .i64 p0.fKnown.x1.fHi, .int .i64 p0.fKnown.x2.fLo, .int .i64 p0.fKnown.x2.fHi])) 1 (.int .i64 p1)) 2 (.int .u8 p2)) 3 (.int .u8 p3)) 4 (.pointer (some ⟨b1, 0, none⟩))) 8 (.bool u40.1)) 9 (.bool y2)) 10 (.slice A6 y4.1.length c7)) 11 (.int .i64 y4.2)) 12 (.pointer (some ⟨b12, 0, none⟩))) 13 (.int .i64 y10.2)) 44 (.bool (y4.2 != y10.2))) 46 (.bool (y4.2 != 0))) 88 (.bool b22)) 14 (.int .i64 u40.2.1)) 15 (.int .i64 u40.2.2)) 16 (.pointer (some ⟨b43, 0, none⟩))) 17 (.int .i64 y41.2)) 18 (.int .i64 (Int.tmod (w64 p2) ((y4.1.length : Nat) : Int)))) 19 (.int .i64 (w64 ((Int.tmod (w64 p2) ((y4.1.length : Nat) : Int)) + (Int.tmod (w64 p3) (w64 (((y4.1.length : Nat) : Int) - (Int.tmod (w64 p2) ((y4.1.length : Nat) : Int))))))))) 20 (.pointer (some ⟨b48, 0, none⟩))) 21 (.int .i64 y46.2)) 22 (.pointer (some ⟨b51, 0, none⟩))) 23 (.int .i64 y49.2)) 24 (.pointer (some ⟨b54, 0, none⟩))) 25 (.int .i64 y52.2)) 196 (.bool (((((y41.2 != 0) || (y46.2 != 0)) || (y49.2 != 0)) || (y52.2 != 0)) || (!((y41.1.fNum == 1) && (y41.1.fDen == 1)))))) 26 (.int .i64 y60.1)) 27 (.int .i64 y60.2.1)) 28 (.bool y60.2.2)) 223 (.bool (((((!y60.2.2) || (decide (1048576 < y52.1.fNum))) || (decide (1048576 < y52.1.fDen))) || (decide (1099511627776 < y60.2.1))) || (decide (1099511627776 < y60.1))))) 233 (.bool (y2 && (decide (1 ≤ u40.2.1)))))) (fun tm0 => ?_) (fun key => ?_)
                                          · refine ox_y rfl (y_move_bool rfl) ?_
                                            refine ox_join 10 (fun tm0 => (upd (upd (upd (upd (upd (upd (upd (upd (upd (upd (upd (upd (upd (upd (upd (upd (upd (upd (upd (upd (upd (upd (upd (upd (upd (upd (upd (upd (upd (upd (upd (upd tm0 0 (.agg #[.int .i64 p0.fBarrows, .int .i64 p0.fSeen.x0, .int .i64 p0.fSeen.x1, .int .i64 p0.fSeen.x2, .int .i64 p0.fKnown.x0.fLo, .int .i64 p0.fKnown.x0.fHi, .int .i64 p0.fKnown.x1.fLo, .int .i64 p0.fKnown.x1.fHi, .int .i64 p0.fKnown.x2.fLo, .int .i64 p0.fKnown.x2.fHi])) 1 (.int .i64 p1)) 2 (.int .u8 p2)) 3 (.int .u8 p3)) 4 (.pointer (some ⟨b1, 0, none⟩))) 8 (.bool u40.1)) 9 (.bool y2)) 10 (.slice A6 y4.1.length c7)) 11 (.int .i64 y4.2)) 12 (.pointer (some ⟨b12, 0, none⟩))) 13 (.int .i64 y10.2)) 44 (.bool (y4.2 != y10.2))) 46 (.bool (y4.2 != 0))) 88 (.bool b22)) 14 (.int .i64 u40.2.1)) 15 (.int .i64 u40.2.2)) 16 (.pointer (some ⟨b43, 0, none⟩))) 17 (.int .i64 y41.2)) 18 (.int .i64 (Int.tmod (w64 p2) ((y4.1.length : Nat) : Int)))) 19 (.int .i64 (w64 ((Int.tmod (w64 p2) ((y4.1.length : Nat) : Int)) + (Int.tmod (w64 p3) (w64 (((y4.1.length : Nat) : Int) - (Int.tmod (w64 p2) ((y4.1.length : Nat) : Int))))))))) 20 (.pointer (some ⟨b48, 0, none⟩))) 21 (.int .i64 y46.2)) 22 (.pointer (some ⟨b51, 0, none⟩))) 23 (.int .i64 y49.2)) 24 (.pointer (some ⟨b54, 0, none⟩))) 25 (.int .i64 y52.2)) 196 (.bool (((((y41.2 != 0) || (y46.2 != 0)) || (y49.2 != 0)) || (y52.2 != 0)) || (!((y41.1.fNum == 1) && (y41.1.fDen == 1)))))) 26 (.int .i64 y60.1)) 27 (.int .i64 y60.2.1)) 28 (.bool y60.2.2)) 223 (.bool (((((!y60.2.2) || (decide (1048576 < y52.1.fNum))) || (decide (1048576 < y52.1.fDen))) || (decide (1099511627776 < y60.2.1))) || (decide (1099511627776 < y60.1))))) 244 (.bool ((y2 && (decide (1 ≤ u40.2.1))) && ((w64 (y60.1 * y52.1.fDen)) == (w64 (y52.1.fNum * y60.2.1))))))) (fun tm0 => ?_) (fun key => ?_)
                                            · refine ox_y rfl (y_assign_bool rfl) ?_
                                              refine ox_nil ?_
                                              refine ex_then ?_
                                              refine cx_ret ?_
                                              obtain rfl := Option.some.inj h
                                              exact ex_res1 (.inl rfl) rfl (resV_tmp (v := .bool ((y2 && (decide (1 ≤ u40.2.1))) && ((w64 (y60.1 * y52.1.fDen)) == (w64 (y52.1.fNum * y60.2.1))))) rfl) (fun W2 hW2 => ⟨rfl, hW2.none⟩)
                                            · rcases bool_cases (y2 && (decide (1 ≤ u40.2.1))) with hp69 | hp69
                                              · refine ox_y (sees_t rfl rfl rfl rfl hp69) (y_move_int rfl) ?_
                                                refine ox_y (sees_t rfl rfl rfl rfl hp69) (y_fieldAddr fo_23_1 rfl) ?_
                                                refine ox_y (sees_t rfl rfl rfl rfl hp69) (y_load1 6 (v := .int .i64 y52.1.fDen) sc_3 rfl rfl rfl) ?_
                                                refine ox_y (sees_t rfl rfl rfl rfl hp69) (y_mul rfl rfl) ?_
                                                refine ox_y (sees_t rfl rfl rfl rfl hp69) (y_fieldAddr fo_23_0 rfl) ?_
                                                refine ox_y (sees_t rfl rfl rfl rfl hp69) (y_load1 6 (v := .int .i64 y52.1.fNum) sc_3 rfl rfl rfl) ?_
                                                refine ox_y (sees_t rfl rfl rfl rfl hp69) (y_move_int rfl) ?_
                                                refine ox_y (sees_t rfl rfl rfl rfl hp69) (y_mul rfl rfl) ?_
                                                refine ox_y (sees_t rfl rfl rfl rfl hp69) (y_eql rfl rfl) ?_
                                                refine ox_y rfl (y_pick_tb (congrArg Value.bool hp69) rfl) ?_
                                                exact key _ _ (keep (keep (keep (keep (keep (keep (keep (keep (keep (keep (keep (keep (keep (keep (keep (keep (keep (keep (keep (keep (keep (keep (keep (keep (keep (keep (keep (keep (keep (keep (keep (keep rfl rfl) rfl) rfl) rfl) rfl) rfl) rfl) rfl) rfl) rfl) rfl) rfl) rfl) rfl) rfl) rfl) rfl) rfl) rfl) rfl) rfl) rfl) rfl) rfl) rfl) rfl) rfl) rfl) rfl) rfl) rfl) (congrArg Value.bool (and_t hp69)))
                                              · refine ox_skip (sees_f rfl rfl rfl rfl hp69) ?_
                                                refine ox_skip (sees_f rfl rfl rfl rfl hp69) ?_
                                                refine ox_skip (sees_f rfl rfl rfl rfl hp69) ?_
                                                refine ox_skip (sees_f rfl rfl rfl rfl hp69) ?_
                                                refine ox_skip (sees_f rfl rfl rfl rfl hp69) ?_
                                                refine ox_skip (sees_f rfl rfl rfl rfl hp69) ?_
                                                refine ox_skip (sees_f rfl rfl rfl rfl hp69) ?_
                                                refine ox_skip (sees_f rfl rfl rfl rfl hp69) ?_
                                                refine ox_skip (sees_f rfl rfl rfl rfl hp69) ?_
                                                refine ox_y rfl (y_pick_fb (congrArg Value.bool hp69) rfl) ?_
                                                exact key _ _ (keep (keep (keep (keep (keep (keep (keep (keep (keep (keep (keep (keep (keep (keep (keep (keep (keep (keep (keep (keep (keep (keep (keep (keep (keep (keep (keep (keep (keep (keep (keep (keep rfl rfl) rfl) rfl) rfl) rfl) rfl) rfl) rfl) rfl) rfl) rfl) rfl) rfl) rfl) rfl) rfl) rfl) rfl) rfl) rfl) rfl) rfl) rfl) rfl) rfl) rfl) rfl) rfl) rfl) rfl) rfl) (congrArg Value.bool (and_f hp69)))
                                          · rcases bool_cases y2 with hp68 | hp68
                                            · refine ox_y (sees_t rfl rfl rfl rfl hp68) (y_move_int rfl) ?_
                                              refine ox_y (sees_t rfl rfl rfl rfl hp68) (y_geq rfl rfl) ?_
                                              refine ox_y rfl (y_pick_tb (congrArg Value.bool hp68) rfl) ?_
                                              exact key _ _ (keep (keep (keep (keep (keep (keep (keep (keep (keep (keep (keep (keep (keep (keep (keep (keep (keep (keep (keep (keep (keep (keep (keep (keep (keep (keep (keep (keep (keep (keep (keep (keep rfl rfl) rfl) rfl) rfl) rfl) rfl) rfl) rfl) rfl) rfl) rfl) rfl) rfl) rfl) rfl) rfl) rfl) rfl) rfl) rfl) rfl) rfl) rfl) rfl) rfl) rfl) rfl) rfl) rfl) rfl) rfl) (congrArg Value.bool (and_t hp68)))
                                            · refine ox_skip (sees_f rfl rfl rfl rfl hp68) ?_
                                              refine ox_skip (sees_f rfl rfl rfl rfl hp68) ?_
                                              refine ox_y rfl (y_pick_fb (congrArg Value.bool hp68) rfl) ?_
                                              exact key _ _ (keep (keep (keep (keep (keep (keep (keep (keep (keep (keep (keep (keep (keep (keep (keep (keep (keep (keep (keep (keep (keep (keep (keep (keep (keep (keep (keep (keep (keep (keep (keep (keep rfl rfl) rfl) rfl) rfl) rfl) rfl) rfl) rfl) rfl) rfl) rfl) rfl) rfl) rfl) rfl) rfl) rfl) rfl) rfl) rfl) rfl) rfl) rfl) rfl) rfl) rfl) rfl) rfl) rfl) rfl) rfl) (congrArg Value.bool (and_f hp68)))
                                      · rcases bool_cases ((((!y60.2.2) || (decide (1048576 < y52.1.fNum))) || (decide (1048576 < y52.1.fDen))) || (decide (1099511627776 < y60.2.1))) with hp65 | hp65
                                        · refine ox_skip (sees_f rfl rfl rfl rfl hp65) ?_
                                          refine ox_skip (sees_f rfl rfl rfl rfl hp65) ?_
                                          refine ox_y rfl (y_pick_tb (congrArg Value.bool hp65) rfl) ?_
                                          exact key _ _ (keep (keep (keep (keep (keep (keep (keep (keep (keep (keep (keep (keep (keep (keep (keep (keep (keep (keep (keep (keep (keep (keep (keep (keep (keep (keep (keep (keep (keep (keep (keep rfl rfl) rfl) rfl) rfl) rfl) rfl) rfl) rfl) rfl) rfl) rfl) rfl) rfl) rfl) rfl) rfl) rfl) rfl) rfl) rfl) rfl) rfl) rfl) rfl) rfl) rfl) rfl) rfl) rfl) rfl) (congrArg Value.bool (or_t hp65)))
                                        · refine ox_y (sees_t rfl rfl rfl rfl hp65) (y_move_int rfl) ?_
                                          refine ox_y (sees_t rfl rfl rfl rfl hp65) (y_gtr rfl rfl) ?_
                                          refine ox_y rfl (y_pick_fb (congrArg Value.bool hp65) rfl) ?_
                                          exact key _ _ (keep (keep (keep (keep (keep (keep (keep (keep (keep (keep (keep (keep (keep (keep (keep (keep (keep (keep (keep (keep (keep (keep (keep (keep (keep (keep (keep (keep (keep (keep (keep rfl rfl) rfl) rfl) rfl) rfl) rfl) rfl) rfl) rfl) rfl) rfl) rfl) rfl) rfl) rfl) rfl) rfl) rfl) rfl) rfl) rfl) rfl) rfl) rfl) rfl) rfl) rfl) rfl) rfl) rfl) (congrArg Value.bool (or_f hp65)))
                                    · rcases bool_cases (((!y60.2.2) || (decide (1048576 < y52.1.fNum))) || (decide (1048576 < y52.1.fDen))) with hp64 | hp64
                                      · refine ox_skip (sees_f rfl rfl rfl rfl hp64) ?_
                                        refine ox_skip (sees_f rfl rfl rfl rfl hp64) ?_
                                        refine ox_y rfl (y_pick_tb (congrArg Value.bool hp64) rfl) ?_
                                        exact key _ _ (keep (keep (keep (keep (keep (keep (keep (keep (keep (keep (keep (keep (keep (keep (keep (keep (keep (keep (keep (keep (keep (keep (keep (keep (keep (keep (keep (keep (keep (keep (keep rfl rfl) rfl) rfl) rfl) rfl) rfl) rfl) rfl) rfl) rfl) rfl) rfl) rfl) rfl) rfl) rfl) rfl) rfl) rfl) rfl) rfl) rfl) rfl) rfl) rfl) rfl) rfl) rfl) rfl) rfl) (congrArg Value.bool (or_t hp64)))
                                      · refine ox_y (sees_t rfl rfl rfl rfl hp64) (y_move_int rfl) ?_
                                        refine ox_y (sees_t rfl rfl rfl rfl hp64) (y_gtr rfl rfl) ?_
                                        refine ox_y rfl (y_pick_fb (congrArg Value.bool hp64) rfl) ?_
                                        exact key _ _ (keep (keep (keep (keep (keep (keep (keep (keep (keep (keep (keep (keep (keep (keep (keep (keep (keep (keep (keep (keep (keep (keep (keep (keep (keep (keep (keep (keep (keep (keep (keep rfl rfl) rfl) rfl) rfl) rfl) rfl) rfl) rfl) rfl) rfl) rfl) rfl) rfl) rfl) rfl) rfl) rfl) rfl) rfl) rfl) rfl) rfl) rfl) rfl) rfl) rfl) rfl) rfl) rfl) rfl) (congrArg Value.bool (or_f hp64)))
                                  · rcases bool_cases ((!y60.2.2) || (decide (1048576 < y52.1.fNum))) with hp63 | hp63
                                    · refine ox_skip (sees_f rfl rfl rfl rfl hp63) ?_
                                      refine ox_skip (sees_f rfl rfl rfl rfl hp63) ?_
                                      refine ox_skip (sees_f rfl rfl rfl rfl hp63) ?_
                                      refine ox_y rfl (y_pick_tb (congrArg Value.bool hp63) rfl) ?_
                                      exact key _ _ (keep (keep (keep (keep (keep (keep (keep (keep (keep (keep (keep (keep (keep (keep (keep (keep (keep (keep (keep (keep (keep (keep (keep (keep (keep (keep (keep (keep (keep (keep (keep rfl rfl) rfl) rfl) rfl) rfl) rfl) rfl) rfl) rfl) rfl) rfl) rfl) rfl) rfl) rfl) rfl) rfl) rfl) rfl) rfl) rfl) rfl) rfl) rfl) rfl) rfl) rfl) rfl) rfl) rfl) (congrArg Value.bool (or_t hp63)))
                                    · refine ox_y (sees_t rfl rfl rfl rfl hp63) (y_fieldAddr fo_23_1 rfl) ?_
                                      refine ox_y (sees_t rfl rfl rfl rfl hp63) (y_load1 6 (v := .int .i64 y52.1.fDen) sc_3 rfl rfl rfl) ?_
                                      refine ox_y (sees_t rfl rfl rfl rfl hp63) (y_gtr rfl rfl) ?_
                                      refine ox_y rfl (y_pick_fb (congrArg Value.bool hp63) rfl) ?_
                                      exact key _ _ (keep (keep (keep (keep (keep (keep (keep (keep (keep (keep (keep (keep (keep (keep (keep (keep (keep (keep (keep (keep (keep (keep (keep (keep (keep (keep (keep (keep (keep (keep (keep rfl rfl) rfl) rfl) rfl) rfl) rfl) rfl) rfl) rfl) rfl) rfl) rfl) rfl) rfl) rfl) rfl) rfl) rfl) rfl) rfl) rfl) rfl) rfl) rfl) rfl) rfl) rfl) rfl) rfl) rfl) (congrArg Value.bool (or_f hp63)))
                                · rcases bool_cases (!y60.2.2) with hp62 | hp62
                                  · refine ox_skip (sees_f rfl rfl rfl rfl hp62) ?_
                                    refine ox_skip (sees_f rfl rfl rfl rfl hp62) ?_
                                    refine ox_skip (sees_f rfl rfl rfl rfl hp62) ?_
                                    refine ox_y rfl (y_pick_tb (congrArg Value.bool hp62) rfl) ?_
                                    exact key _ _ (keep (keep (keep (keep (keep (keep (keep (keep (keep (keep (keep (keep (keep (keep (keep (keep (keep (keep (keep (keep (keep (keep (keep (keep (keep (keep (keep (keep (keep (keep (keep rfl rfl) rfl) rfl) rfl) rfl) rfl) rfl) rfl) rfl) rfl) rfl) rfl) rfl) rfl) rfl) rfl) rfl) rfl) rfl) rfl) rfl) rfl) rfl) rfl) rfl) rfl) rfl) rfl) rfl) rfl) (congrArg Value.bool (or_t hp62)))
                                  · refine ox_y (sees_t rfl rfl rfl rfl hp62) (y_fieldAddr fo_23_0 rfl) ?_
                                    refine ox_y (sees_t rfl rfl rfl rfl hp62) (y_load1 6 (v := .int .i64 y52.1.fNum) sc_3 rfl rfl rfl) ?_
                                    refine ox_y (sees_t rfl rfl rfl rfl hp62) (y_gtr rfl rfl) ?_
                                    refine ox_y rfl (y_pick_fb (congrArg Value.bool hp62) rfl) ?_
                                    exact key _ _ (keep (keep (keep (keep (keep (keep (keep (keep (keep (keep (keep (keep (keep (keep (keep (keep (keep (keep (keep (keep (keep (keep (keep (keep (keep (keep (keep (keep (keep (keep (keep rfl rfl) rfl) rfl) rfl) rfl) rfl) rfl) rfl) rfl) rfl) rfl) rfl) rfl) rfl) rfl) rfl) rfl) rfl) rfl) rfl) rfl) rfl) rfl) rfl) rfl) rfl) rfl) rfl) rfl) rfl) (congrArg Value.bool (or_f hp62)))
                            · rcases bool_cases ((((y41.2 != 0) || (y46.2 != 0)) || (y49.2 != 0)) || (y52.2 != 0)) with hp58 | hp58
                              · refine ox_skip (sees_f rfl rfl rfl rfl hp58) ?_
                                refine ox_skip (sees_f rfl rfl rfl rfl hp58) ?_
                                refine ox_skip (sees_f rfl rfl rfl rfl hp58) ?_
                                refine ox_y rfl (y_pick_tb (congrArg Value.bool hp58) rfl) ?_
                                exact key _ _ (keep (keep (keep (keep (keep (keep (keep (keep (keep (keep (keep (keep (keep (keep (keep (keep (keep (keep (keep (keep (keep (keep (keep (keep (keep (keep (keep rfl rfl) rfl) rfl) rfl) rfl) rfl) rfl) rfl) rfl) rfl) rfl) rfl) rfl) rfl) rfl) rfl) rfl) rfl) rfl) rfl) rfl) rfl) rfl) rfl) rfl) rfl) (congrArg Value.bool (or_t hp58)))
                              · refine ox_y (sees_t rfl rfl rfl rfl hp58) (y_loadN 3 [.int .i64 y41.1.fNum, .int .i64 y41.1.fDen] ag_23 rfl rfl rfl) ?_
                                refine ox_y (sees_t rfl rfl rfl rfl hp58) (y_buildS [.int .i64 1, .int .i64 1] [(0, 1), (1, 1)] ust_23 ze_23 (by kernel_rfl)) ?_
                                refine ox_y (sees_t rfl rfl rfl rfl hp58) (y_neqa (b := ((y41.1.fNum == 1) && (y41.1.fDen == 1))) eg_23 rfl rfl (fun _ => (eqS2 fl_23 (part1 sc_3 rfl) (part1 sc_3 rfl) (part1 sc_3 rfl) (part1 sc_3 rfl) (run_equalIn_int _ _ _ _ _ _ _ ui_3) (run_equalIn_int _ _ _ _ _ _ _ ui_3)))) ?_
                                refine ox_y rfl (y_pick_fb (congrArg Value.bool hp58) rfl) ?_
                                exact key _ _ (keep (keep (keep (keep (keep (keep (keep (keep (keep (keep (keep (keep (keep (keep (keep (keep (keep (keep (keep (keep (keep (keep (keep (keep (keep (keep (keep rfl rfl) rfl) rfl) rfl) rfl) rfl) rfl) rfl) rfl) rfl) rfl) rfl) rfl) rfl) rfl) rfl) rfl) rfl) rfl) rfl) rfl) rfl) rfl) rfl) rfl) rfl) (congrArg Value.bool (or_f hp58)))
                          · rcases bool_cases (((y41.2 != 0) || (y46.2 != 0)) || (y49.2 != 0)) with hp57 | hp57
                            · refine ox_skip (sees_f rfl rfl rfl rfl hp57) ?_
                              refine ox_skip (sees_f rfl rfl rfl rfl hp57) ?_
                              refine ox_y rfl (y_pick_tb (congrArg Value.bool hp57) rfl) ?_
                              exact key _ _ (keep (keep (keep (keep (keep (keep (keep (keep (keep (keep (keep (keep (keep (keep (keep (keep (keep (keep (keep (keep (keep (keep (keep (keep (keep (keep (keep rfl rfl) rfl) rfl) rfl) rfl) rfl) rfl) rfl) rfl) rfl) rfl) rfl) rfl) rfl) rfl) rfl) rfl) rfl) rfl) rfl) rfl) rfl) rfl) rfl) rfl) rfl) (congrArg Value.bool (or_t hp57)))
                            · refine ox_y (sees_t rfl rfl rfl rfl hp57) (y_move_int rfl) ?_
                              refine ox_y (sees_t rfl rfl rfl rfl hp57) (y_neq rfl rfl) ?_
                              refine ox_y rfl (y_pick_fb (congrArg Value.bool hp57) rfl) ?_
                              exact key _ _ (keep (keep (keep (keep (keep (keep (keep (keep (keep (keep (keep (keep (keep (keep (keep (keep (keep (keep (keep (keep (keep (keep (keep (keep (keep (keep (keep rfl rfl) rfl) rfl) rfl) rfl) rfl) rfl) rfl) rfl) rfl) rfl) rfl) rfl) rfl) rfl) rfl) rfl) rfl) rfl) rfl) rfl) rfl) rfl) rfl) rfl) rfl) (congrArg Value.bool (or_f hp57)))
                        · rcases bool_cases ((y41.2 != 0) || (y46.2 != 0)) with hp56 | hp56
                          · refine ox_skip (sees_f rfl rfl rfl rfl hp56) ?_
                            refine ox_skip (sees_f rfl rfl rfl rfl hp56) ?_
                            refine ox_y rfl (y_pick_tb (congrArg Value.bool hp56) rfl) ?_
                            exact key _ _ (keep (keep (keep (keep (keep (keep (keep (keep (keep (keep (keep (keep (keep (keep (keep (keep (keep (keep (keep (keep (keep (keep (keep (keep (keep (keep (keep rfl rfl) rfl) rfl) rfl) rfl) rfl) rfl) rfl) rfl) rfl) rfl) rfl) rfl) rfl) rfl) rfl) rfl) rfl) rfl) rfl) rfl) rfl) rfl) rfl) rfl) rfl) (congrArg Value.bool (or_t hp56)))
                          · refine ox_y (sees_t rfl rfl rfl rfl hp56) (y_move_int rfl) ?_
                            refine ox_y (sees_t rfl rfl rfl rfl hp56) (y_neq rfl rfl) ?_
                            refine ox_y rfl (y_pick_fb (congrArg Value.bool hp56) rfl) ?_
                            exact key _ _ (keep (keep (keep (keep (keep (keep (keep (keep (keep (keep (keep (keep (keep (keep (keep (keep (keep (keep (keep (keep (keep (keep (keep (keep (keep (keep (keep rfl rfl) rfl) rfl) rfl) rfl) rfl) rfl) rfl) rfl) rfl) rfl) rfl) rfl) rfl) rfl) rfl) rfl) rfl) rfl) rfl) rfl) rfl) rfl) rfl) rfl) rfl) (congrArg Value.bool (or_f hp56)))
                      · rcases bool_cases (y41.2 != 0) with hp55 | hp55
                        · refine ox_skip (sees_f rfl rfl rfl rfl hp55) ?_
                          refine ox_skip (sees_f rfl rfl rfl rfl hp55) ?_
                          refine ox_y rfl (y_pick_tb (congrArg Value.bool hp55) rfl) ?_
                          exact key _ _ (keep (keep (keep (keep (keep (keep (keep (keep (keep (keep (keep (keep (keep (keep (keep (keep (keep (keep (keep (keep (keep (keep (keep (keep (keep (keep (keep rfl rfl) rfl) rfl) rfl) rfl) rfl) rfl) rfl) rfl) rfl) rfl) rfl) rfl) rfl) rfl) rfl) rfl) rfl) rfl) rfl) rfl) rfl) rfl) rfl) rfl) rfl) (congrArg Value.bool (or_t hp55)))
                        · refine ox_y (sees_t rfl rfl rfl rfl hp55) (y_move_int rfl) ?_
                          refine ox_y (sees_t rfl rfl rfl rfl hp55) (y_neq rfl rfl) ?_
                          refine ox_y rfl (y_pick_fb (congrArg Value.bool hp55) rfl) ?_
                          exact key _ _ (keep (keep (keep (keep (keep (keep (keep (keep (keep (keep (keep (keep (keep (keep (keep (keep (keep (keep (keep (keep (keep (keep (keep (keep (keep (keep (keep rfl rfl) rfl) rfl) rfl) rfl) rfl) rfl) rfl) rfl) rfl) rfl) rfl) rfl) rfl) rfl) rfl) rfl) rfl) rfl) rfl) rfl) rfl) rfl) rfl) rfl) rfl) (congrArg Value.bool (or_f hp55)))
              · clear h; rcases ite_some hb23 with ⟨hp21, h⟩ | ⟨hp21, h⟩
                · refine ox_skip (sees_f rfl rfl rfl rfl hp21) ?_
                  refine ox_skip (sees_f rfl rfl rfl rfl hp21) ?_
                  refine ox_skip (sees_f rfl rfl rfl rfl hp21) ?_
                  refine ox_skip (sees_f rfl rfl rfl rfl hp21) ?_
                  refine ox_skip (sees_f rfl rfl rfl rfl hp21) ?_
                  refine ox_skip (sees_f rfl rfl rfl rfl hp21) ?_
                  refine ox_y rfl (y_pick_tb (congrArg Value.bool hp21) rfl) ?_
                  obtain rfl := Option.some.inj h
                  exact key _ _ (keep (keep (keep (keep (keep (keep (keep (keep (keep (keep (keep (keep (keep (keep rfl rfl) rfl) rfl) rfl) rfl) rfl) rfl) rfl) rfl) rfl) rfl) rfl) rfl) rfl)
                · refine ox_y (sees_t rfl rfl rfl rfl hp21) (y_move_slice rfl) ?_
                  refine ox_y (sees_t rfl rfl rfl rfl hp21) (y_fieldAddr fo_33_1 rfl) ?_
                  refine ox_y (sees_t rfl rfl rfl rfl hp21) (y_load1 2 (v := .int .i64 y10.1.fHi) sc_3 rfl rfl rfl) ?_
                  obtain ⟨hg70, h⟩ := guardO_some h
                  refine ox_y (sees_t rfl rfl rfl rfl hp21) (y_indexR sl_66 (by decide) hg70.1 hg70.2 (RdL.row 1 rfl) (encL_len cI_len rfl) rfl rfl) ?_
                  refine ox_y (sees_t rfl rfl rfl rfl hp21) (y_loadR1 (A := A6) (j := (Int.toNat y10.1.fHi * 1)) (v := .int .i64 (rdL y4.1 y10.1.fHi)) sc_3 (RdL.row 1 rfl) rfl (encL_get0 cI_len hg70.1 (lt_nat hg70.2 rfl) rfl)) ?_
                  refine ox_y (sees_t rfl rfl rfl rfl hp21) (y_lss rfl rfl) ?_
                  refine ox_y rfl (y_pick_fb (congrArg Value.bool hp21) rfl) ?_
                  obtain rfl := Option.some.inj h
                  exact key _ _ (keep (keep (keep (keep (keep (keep (keep (keep (keep (keep (keep (keep (keep (keep rfl rfl) rfl) rfl) rfl) rfl) rfl) rfl) rfl) rfl) rfl) rfl) rfl) rfl) rfl)
            · clear h; rcases ite_some hb20 with ⟨hp18, h⟩ | ⟨hp18, h⟩
              · refine ox_skip (sees_f rfl rfl rfl rfl hp18) ?_
                refine ox_skip (sees_f rfl rfl rfl rfl hp18) ?_
                refine ox_skip (sees_f rfl rfl rfl rfl hp18) ?_
                refine ox_skip (sees_f rfl rfl rfl rfl hp18) ?_
                refine ox_skip (sees_f rfl rfl rfl rfl hp18) ?_
                refine ox_skip (sees_f rfl rfl rfl rfl hp18) ?_
                refine ox_y rfl (y_pick_tb (congrArg Value.bool hp18) rfl) ?_
                obtain rfl := Option.some.inj h
                exact key _ _ (keep (keep (keep (keep (keep (keep (keep (keep (keep (keep (keep (keep (keep (keep rfl rfl) rfl) rfl) rfl) rfl) rfl) rfl) rfl) rfl) rfl) rfl) rfl) rfl) rfl)
              · refine ox_y (sees_t rfl rfl rfl rfl hp18) (y_move_slice rfl) ?_
                refine ox_y (sees_t rfl rfl rfl rfl hp18) (y_fieldAddr fo_33_0 rfl) ?_
                refine ox_y (sees_t rfl rfl rfl rfl hp18) (y_load1 2 (v := .int .i64 y10.1.fLo) sc_3 rfl rfl rfl) ?_
                obtain ⟨hg71, h⟩ := guardO_some h
                refine ox_y (sees_t rfl rfl rfl rfl hp18) (y_indexR sl_66 (by decide) hg71.1 hg71.2 (RdL.row 1 rfl) (encL_len cI_len rfl) rfl rfl) ?_
                refine ox_y (sees_t rfl rfl rfl rfl hp18) (y_loadR1 (A := A6) (j := (Int.toNat y10.1.fLo * 1)) (v := .int .i64 (rdL y4.1 y10.1.fLo)) sc_3 (RdL.row 1 rfl) rfl (encL_get0 cI_len hg71.1 (lt_nat hg71.2 rfl) rfl)) ?_
                refine ox_y (sees_t rfl rfl rfl rfl hp18) (y_lss rfl rfl) ?_
                refine ox_y rfl (y_pick_fb (congrArg Value.bool hp18) rfl) ?_
                obtain rfl := Option.some.inj h
                exact key _ _ (keep (keep (keep (keep (keep (keep (keep (keep (keep (keep (keep (keep (keep (keep rfl rfl) rfl) rfl) rfl) rfl) rfl) rfl) rfl) rfl) rfl) rfl) rfl) rfl) rfl)
          · rcases bool_cases (((((y4.1.length : Nat) : Int) != (w64 (p0.fBarrows + 1))) || (decide (y10.1.fLo < 0))) || (decide (y10.1.fHi < y10.1.fLo))) with hp17 | hp17
            · refine ox_skip (sees_f rfl rfl rfl rfl hp17) ?_
              refine ox_skip (sees_f rfl rfl rfl rfl hp17) ?_
              refine ox_skip (sees_f rfl rfl rfl rfl hp17) ?_
              refine ox_skip (sees_f rfl rfl rfl rfl hp17) ?_
              refine ox_skip (sees_f rfl rfl rfl rfl hp17) ?_
              refine ox_y rfl (y_pick_tb (congrArg Value.bool hp17) rfl) ?_
              exact key _ _ (keep (keep (keep (keep (keep (keep (keep (keep (keep (keep (keep (keep (keep (keep rfl rfl) rfl) rfl) rfl) rfl) rfl) rfl) rfl) rfl) rfl) rfl) rfl) rfl) (congrArg Value.bool (or_t hp17)))
            · refine ox_y (sees_t rfl rfl rfl rfl hp17) (y_fieldAddr fo_33_1 rfl) ?_
              refine ox_y (sees_t rfl rfl rfl rfl hp17) (y_load1 2 (v := .int .i64 y10.1.fHi) sc_3 rfl rfl rfl) ?_
              refine ox_y (sees_t rfl rfl rfl rfl hp17) (y_move_slice rfl) ?_
              refine ox_y (sees_t rfl rfl rfl rfl hp17) (y_len (us := []) us_66 rfl) ?_
              refine ox_y (sees_t rfl rfl rfl rfl hp17) (y_geq rfl rfl) ?_
              refine ox_y rfl (y_pick_fb (congrArg Value.bool hp17) rfl) ?_
              exact key _ _ (keep (keep (keep (keep (keep (keep (keep (keep (keep (keep (keep (keep (keep (keep rfl rfl) rfl) rfl) rfl) rfl) rfl) rfl) rfl) rfl) rfl) rfl) rfl) rfl) (congrArg Value.bool (or_f hp17)))
        · rcases bool_cases ((((y4.1.length : Nat) : Int) != (w64 (p0.fBarrows + 1))) || (decide (y10.1.fLo < 0))) with hp16 | hp16
          · refine ox_skip (sees_f rfl rfl rfl rfl hp16) ?_
            refine ox_skip (sees_f rfl rfl rfl rfl hp16) ?_
            refine ox_skip (sees_f rfl rfl rfl rfl hp16) ?_
            refine ox_skip (sees_f rfl rfl rfl rfl hp16) ?_
            refine ox_skip (sees_f rfl rfl rfl rfl hp16) ?_
            refine ox_y rfl (y_pick_tb (congrArg Value.bool hp16) rfl) ?_
            exact key _ _ (keep (keep (keep (keep (keep (keep (keep (keep (keep (keep (keep (keep (keep (keep rfl rfl) rfl) rfl) rfl) rfl) rfl) rfl) rfl) rfl) rfl) rfl) rfl) rfl) (congrArg Value.bool (or_t hp16)))
          · refine ox_y (sees_t rfl rfl rfl rfl hp16) (y_fieldAddr fo_33_0 rfl) ?_
            refine ox_y (sees_t rfl rfl rfl rfl hp16) (y_load1 2 (v := .int .i64 y10.1.fLo) sc_3 rfl rfl rfl) ?_
            refine ox_y (sees_t rfl rfl rfl rfl hp16) (y_fieldAddr fo_33_1 rfl) ?_
            refine ox_y (sees_t rfl rfl rfl rfl hp16) (y_load1 2 (v := .int .i64 y10.1.fHi) sc_3 rfl rfl rfl) ?_
            refine ox_y (sees_t rfl rfl rfl rfl hp16) (y_gtr rfl rfl) ?_
            refine ox_y rfl (y_pick_fb (congrArg Value.bool hp16) rfl) ?_
            exact key _ _ (keep (keep (keep (keep (keep (keep (keep (keep (keep (keep (keep (keep (keep (keep rfl rfl) rfl) rfl) rfl) rfl) rfl) rfl) rfl) rfl) rfl) rfl) rfl) rfl) (congrArg Value.bool (or_f hp16)))
      · rcases bool_cases (((y4.1.length : Nat) : Int) != (w64 (p0.fBarrows + 1))) with hp15 | hp15
        · refine ox_skip (sees_f rfl rfl rfl rfl hp15) ?_
          refine ox_skip (sees_f rfl rfl rfl rfl hp15) ?_
          refine ox_skip (sees_f rfl rfl rfl rfl hp15) ?_
          refine ox_y rfl (y_pick_tb (congrArg Value.bool hp15) rfl) ?_
          exact key _ _ (keep (keep (keep (keep (keep (keep (keep (keep (keep (keep (keep (keep (keep (keep rfl rfl) rfl) rfl) rfl) rfl) rfl) rfl) rfl) rfl) rfl) rfl) rfl) rfl) (congrArg Value.bool (or_t hp15)))
        · refine ox_y (sees_t rfl rfl rfl rfl hp15) (y_fieldAddr fo_33_0 rfl) ?_
          refine ox_y (sees_t rfl rfl rfl rfl hp15) (y_load1 2 (v := .int .i64 y10.1.fLo) sc_3 rfl rfl rfl) ?_
          refine ox_y (sees_t rfl rfl rfl rfl hp15) (y_lss rfl rfl) ?_
          refine ox_y rfl (y_pick_fb (congrArg Value.bool hp15) rfl) ?_
          exact key _ _ (keep (keep (keep (keep (keep (keep (keep (keep (keep (keep (keep (keep (keep (keep rfl rfl) rfl) rfl) rfl) rfl) rfl) rfl) rfl) rfl) rfl) rfl) rfl) rfl) (congrArg Value.bool (or_f hp15)))

end Go.Proofs.Ytepfgdfahinpkaa
