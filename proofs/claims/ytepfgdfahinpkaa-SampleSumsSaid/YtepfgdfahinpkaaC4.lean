/- The calls hand back what the plain functions say. -/
import Derived.Test.YtepfgdfahinpkaaF
import Derived.Test.YtepfgdfahinpkaaC0
import Derived.Test.YtepfgdfahinpkaaC1
set_option linter.unusedVariables false
set_option maxHeartbeats 4000000
namespace Go.Proofs.Ytepfgdfahinpkaa
open Go.RowKit (Below)
attribute [local irreducible] OX QX CX EX OpY Calls CallsIn

/-! calx/sample.Ends -/
set_option maxRecDepth 100000 in
theorem sample_Ends_ok (p0_b : TBatch) (p1_sort : Int) (res : (TSpan × Int)) (h : sample_Ends p0_b p1_sort = some res) (W : World)  :
    Calls Try.prog 36 [.agg #[.int .i64 p0_b.fBarrows, .int .i64 p0_b.fSeen.x0, .int .i64 p0_b.fSeen.x1, .int .i64 p0_b.fSeen.x2, .int .i64 p0_b.fKnown.x0.fLo, .int .i64 p0_b.fKnown.x0.fHi, .int .i64 p0_b.fKnown.x1.fLo, .int .i64 p0_b.fKnown.x1.fHi, .int .i64 p0_b.fKnown.x2.fLo, .int .i64 p0_b.fKnown.x2.fHi], .int .i64 p1_sort].toArray W fun e W2 => e = .returned (.tuple #[.agg #[.int .i64 res.1.fLo, .int .i64 res.1.fHi], .int .i64 res.2]) ∧ Ext W W2 [] := by
  unfold sample_Ends at h
  refine calls_enter (m := 17) Try.func36 rfl rfl (Nat.le_of_ble_eq_true rfl) ?_
  refine cx_seq ?_
  refine cx_region ?_
  refine ox_box [.int .i64 p0_b.fBarrows, .int .i64 p0_b.fSeen.x0, .int .i64 p0_b.fSeen.x1, .int .i64 p0_b.fSeen.x2, .int .i64 p0_b.fKnown.x0.fLo, .int .i64 p0_b.fKnown.x0.fHi, .int .i64 p0_b.fKnown.x1.fLo, .int .i64 p0_b.fKnown.x1.fHi, .int .i64 p0_b.fKnown.x2.fLo, .int .i64 p0_b.fKnown.x2.fHi] rfl rfl rfl (fun b1 => ?_)
  refine ox_alloc ze_33 rfl (fun b2 => ?_)
  refine ox_y rfl (y_assign_int rfl) ?_
  refine ox_nil ?_
  refine ex_then ?_
  refine cx_seq ?_
  refine cx_seq ?_
  refine cx_region ?_
  refine ox_y rfl (y_loadN 0 [.int .i64 p0_b.fBarrows, .int .i64 p0_b.fSeen.x0, .int .i64 p0_b.fSeen.x1, .int .i64 p0_b.fSeen.x2, .int .i64 p0_b.fKnown.x0.fLo, .int .i64 p0_b.fKnown.x0.fHi, .int .i64 p0_b.fKnown.x1.fLo, .int .i64 p0_b.fKnown.x1.fHi, .int .i64 p0_b.fKnown.x2.fLo, .int .i64 p0_b.fKnown.x2.fHi] ag_52 rfl rfl rfl) ?_
  refine ox_y rfl (y_move_int rfl) ?_
  obtain ⟨y3, hy4, h⟩ := bind_some h
  refine ox_y rfl (y_call [.agg #[.int .i64 p0_b.fBarrows, .int .i64 p0_b.fSeen.x0, .int .i64 p0_b.fSeen.x1, .int .i64 p0_b.fSeen.x2, .int .i64 p0_b.fKnown.x0.fLo, .int .i64 p0_b.fKnown.x0.fHi, .int .i64 p0_b.fKnown.x1.fLo, .int .i64 p0_b.fKnown.x1.fHi, .int .i64 p0_b.fKnown.x2.fLo, .int .i64 p0_b.fKnown.x2.fHi], .int .i64 p1_sort] go_101 rfl (fun W2 hW2 => sample_sorted_ok p0_b p1_sort y3 hy4 W2 ) rfl) ?_
  refine ox_y rfl (y_assign_int rfl) ?_
  refine ox_nil ?_
  refine ex_then ?_
  refine cx_seq ?_
  refine cx_region ?_
  refine ox_y rfl (y_move_int rfl) ?_
  refine ox_y rfl (y_neq rfl rfl) ?_
  refine ox_nil ?_
  refine ex_then ?_
  rcases ite_some h with ⟨hp5, h⟩ | ⟨hp5, h⟩
  · refine cx_true (congrArg Value.bool hp5) ?_
    refine cx_seq ?_
    refine cx_region ?_
    refine ox_y rfl (y_buildS [.int .i64 0, .int .i64 0] [(0, 1), (1, 1)] ust_33 ze_33 (by kernel_rfl)) ?_
    refine ox_y rfl (y_move_int rfl) ?_
    refine ox_n rfl (y_storeN 1 [.int .i64 0, .int .i64 0] sz_33 rfl (Nat.le_of_ble_eq_true rfl) rfl rfl rfl) ?_
    refine ox_y rfl (y_assign_int rfl) ?_
    refine ox_nil ?_
    refine ex_then ?_
    refine cx_ret ?_
    refine ex_then_ret ?_
    obtain rfl := Option.some.inj h
    exact ex_res2 (.inl rfl) rfl (resV_cellN 1 [.int .i64 0, .int .i64 0] ag_33 rfl rfl rfl) (resV_tmp (v := .int .i64 y3) rfl) (fun W2 hW2 => ⟨rfl, hW2.none⟩)
  · refine cx_false (congrArg Value.bool hp5) ?_
    refine cx_skip ?_
    refine ex_then ?_
    refine cx_seq ?_
    refine cx_region ?_
    refine ox_y rfl (y_loadN 0 [.int .i64 p0_b.fBarrows, .int .i64 p0_b.fSeen.x0, .int .i64 p0_b.fSeen.x1, .int .i64 p0_b.fSeen.x2, .int .i64 p0_b.fKnown.x0.fLo, .int .i64 p0_b.fKnown.x0.fHi, .int .i64 p0_b.fKnown.x1.fLo, .int .i64 p0_b.fKnown.x1.fHi, .int .i64 p0_b.fKnown.x2.fLo, .int .i64 p0_b.fKnown.x2.fHi] ag_52 rfl rfl rfl) ?_
    refine ox_y rfl (y_move_int rfl) ?_
    obtain ⟨y6, hy7, h⟩ := bind_some h
    refine ox_y rfl (y_call [.agg #[.int .i64 p0_b.fBarrows, .int .i64 p0_b.fSeen.x0, .int .i64 p0_b.fSeen.x1, .int .i64 p0_b.fSeen.x2, .int .i64 p0_b.fKnown.x0.fLo, .int .i64 p0_b.fKnown.x0.fHi, .int .i64 p0_b.fKnown.x1.fLo, .int .i64 p0_b.fKnown.x1.fHi, .int .i64 p0_b.fKnown.x2.fLo, .int .i64 p0_b.fKnown.x2.fHi], .int .i64 p1_sort] go_84 rfl (fun W2 hW2 => sample_ends_ok p0_b p1_sort y6 hy7 W2 ) rfl) ?_
    refine ox_n rfl (y_storeN 1 [.int .i64 y6.fLo, .int .i64 y6.fHi] sz_33 rfl (Nat.le_of_ble_eq_true rfl) rfl rfl rfl) ?_
    refine ox_y rfl (y_assign_int rfl) ?_
    refine ox_nil ?_
    refine ex_then ?_
    refine cx_ret ?_
    obtain rfl := Option.some.inj h
    exact ex_res2 (.inl rfl) rfl (resV_cellN 1 [.int .i64 y6.fLo, .int .i64 y6.fHi] ag_33 rfl rfl rfl) (resV_tmp (v := .int .i64 0) rfl) (fun W2 hW2 => ⟨rfl, hW2.none⟩)

end Go.Proofs.Ytepfgdfahinpkaa
