/- The calls hand back what the plain functions say. -/
import Derived.Test.YtepfgdfahinpkaaF
import Derived.Test.YtepfgdfahinpkaaC1
set_option linter.unusedVariables false
set_option maxHeartbeats 4000000
namespace Go.Proofs.Ytepfgdfahinpkaa
open Go.RowKit (Below)
attribute [local irreducible] OX QX CX EX OpY Calls CallsIn

/-! calx/sample.Ways -/
set_option maxRecDepth 100000 in
theorem sample_Ways_ok (p0_whole : TKinds) (p1_seen : TKinds) (res : (Int × Int)) (h : sample_Ways p0_whole p1_seen = some res) (W : World)  :
    Calls Try.prog 30 [.agg #[.int .i64 p0_whole.x0, .int .i64 p0_whole.x1, .int .i64 p0_whole.x2], .agg #[.int .i64 p1_seen.x0, .int .i64 p1_seen.x1, .int .i64 p1_seen.x2]].toArray W fun e W2 => e = .returned (.tuple #[.int .i64 res.1, .int .i64 res.2]) ∧ Ext W W2 [] := by
  unfold sample_Ways at h
  refine calls_enter (m := 16) Try.func30 rfl rfl (Nat.le_of_ble_eq_true rfl) ?_
  refine cx_seq ?_
  refine cx_region ?_
  refine ox_box [.int .i64 p0_whole.x0, .int .i64 p0_whole.x1, .int .i64 p0_whole.x2] rfl rfl rfl (fun b1 => ?_)
  refine ox_box [.int .i64 p1_seen.x0, .int .i64 p1_seen.x1, .int .i64 p1_seen.x2] rfl rfl rfl (fun b2 => ?_)
  refine ox_y rfl (y_assign_int rfl) ?_
  refine ox_y rfl (y_assign_int rfl) ?_
  refine ox_nil ?_
  refine ex_then ?_
  refine cx_seq ?_
  refine cx_seq ?_
  refine cx_region ?_
  refine ox_y rfl (y_loadN 0 [.int .i64 p0_whole.x0, .int .i64 p0_whole.x1, .int .i64 p0_whole.x2] ag_43 rfl rfl rfl) ?_
  refine ox_y rfl (y_loadN 1 [.int .i64 p1_seen.x0, .int .i64 p1_seen.x1, .int .i64 p1_seen.x2] ag_43 rfl rfl rfl) ?_
  obtain ⟨y3, hy4, h⟩ := bind_some h
  refine ox_y rfl (y_call [.agg #[.int .i64 p0_whole.x0, .int .i64 p0_whole.x1, .int .i64 p0_whole.x2], .agg #[.int .i64 p1_seen.x0, .int .i64 p1_seen.x1, .int .i64 p1_seen.x2]] go_89 rfl (fun W2 hW2 => sample_seenOf_ok p0_whole p1_seen y3 hy4 W2 ) rfl) ?_
  refine ox_y rfl (y_assign_int rfl) ?_
  refine ox_nil ?_
  refine ex_then ?_
  refine cx_seq ?_
  refine cx_region ?_
  refine ox_y rfl (y_move_int rfl) ?_
  refine ox_y rfl (y_neq rfl rfl) ?_
  refine ox_nil ?_
  refine ex_then ?_
  rcases ite_some h with ⟨hp5, h⟩ | ⟨hp5, h⟩
  · refine cx_true (congrArg Value.bool hp5) ?_
    refine cx_seq ?_
    refine cx_region ?_
    refine ox_y rfl (y_move_int rfl) ?_
    refine ox_y rfl (y_assign_int rfl) ?_
    refine ox_y rfl (y_assign_int rfl) ?_
    refine ox_nil ?_
    refine ex_then ?_
    refine cx_ret ?_
    refine ex_then_ret ?_
    obtain rfl := Option.some.inj h
    exact ex_res2 (.inl rfl) rfl (resV_tmp (v := .int .i64 0) rfl) (resV_tmp (v := .int .i64 y3) rfl) (fun W2 hW2 => ⟨rfl, hW2.none⟩)
  · refine cx_false (congrArg Value.bool hp5) ?_
    refine cx_skip ?_
    refine ex_then ?_
    refine cx_seq ?_
    refine cx_region ?_
    refine ox_y rfl (y_loadN 0 [.int .i64 p0_whole.x0, .int .i64 p0_whole.x1, .int .i64 p0_whole.x2] ag_43 rfl rfl rfl) ?_
    refine ox_y rfl (y_loadN 1 [.int .i64 p1_seen.x0, .int .i64 p1_seen.x1, .int .i64 p1_seen.x2] ag_43 rfl rfl rfl) ?_
    obtain ⟨y6, hy7, h⟩ := bind_some h
    refine ox_y rfl (y_call [.agg #[.int .i64 p0_whole.x0, .int .i64 p0_whole.x1, .int .i64 p0_whole.x2], .agg #[.int .i64 p1_seen.x0, .int .i64 p1_seen.x1, .int .i64 p1_seen.x2]] go_90 rfl (fun W2 hW2 => sample_ways_ok p0_whole p1_seen y6 hy7 W2 ) rfl) ?_
    refine ox_y rfl (y_assign_int rfl) ?_
    refine ox_y rfl (y_assign_int rfl) ?_
    refine ox_nil ?_
    refine ex_then ?_
    refine cx_ret ?_
    obtain rfl := Option.some.inj h
    exact ex_res2 (.inl rfl) rfl (resV_tmp (v := .int .i64 y6) rfl) (resV_tmp (v := .int .i64 0) rfl) (fun W2 hW2 => ⟨rfl, hW2.none⟩)

end Go.Proofs.Ytepfgdfahinpkaa
