/- The calls hand back what the plain functions say. -/
import Derived.Test.YtepfgdfahinpkaaF
set_option linter.unusedVariables false
set_option maxHeartbeats 4000000
namespace Go.Proofs.Ytepfgdfahinpkaa
open Go.RowKit (Below)
attribute [local irreducible] OX QX CX EX OpY Calls CallsIn

/-! calx/calxref03.in -/
set_option maxRecDepth 100000 in
theorem calxref03_in_ok (p0_n : Int) (p1_lo : Int) (p2_hi : Int) (res : Bool) (h : calxref03_in p0_n p1_lo p2_hi = some res) (W : World)  :
    Calls Try.prog 79 [.int .i64 p0_n, .int .i64 p1_lo, .int .i64 p2_hi].toArray W fun e W2 => e = .returned (.bool res) ∧ Ext W W2 [] := by
  unfold calxref03_in at h
  refine calls_enter (m := 15) Try.func79 rfl rfl (Nat.le_of_ble_eq_true rfl) ?_
  refine cx_seq ?_
  refine cx_region ?_
  refine ox_y rfl (y_assign_bool rfl) ?_
  refine ox_nil ?_
  refine ex_then ?_
  refine cx_seq ?_
  refine cx_region ?_
  refine ox_y rfl (y_move_int rfl) ?_
  refine ox_y rfl (y_move_int rfl) ?_
  refine ox_y rfl (y_geq rfl rfl) ?_
  refine ox_y rfl (y_move_bool rfl) ?_
  refine ox_join 4 (fun tm0 => (upd (upd (upd (upd (upd tm0 0 (.int .i64 p0_n)) 1 (.int .i64 p1_lo)) 2 (.int .i64 p2_hi)) 6 (.bool false)) 14 (.bool ((decide (p1_lo ≤ p0_n)) && (decide (p0_n ≤ p2_hi)))))) (fun tm0 => ?_) (fun key => ?_)
  · refine ox_y rfl (y_assign_bool rfl) ?_
    refine ox_nil ?_
    refine ex_then ?_
    refine cx_ret ?_
    obtain rfl := Option.some.inj h
    exact ex_res1 (.inl rfl) rfl (resV_tmp (v := .bool ((decide (p1_lo ≤ p0_n)) && (decide (p0_n ≤ p2_hi)))) rfl) (fun W2 hW2 => ⟨rfl, hW2.none⟩)
  · rcases bool_cases (decide (p1_lo ≤ p0_n)) with hp1 | hp1
    · refine ox_y (sees_t rfl rfl rfl rfl hp1) (y_move_int rfl) ?_
      refine ox_y (sees_t rfl rfl rfl rfl hp1) (y_move_int rfl) ?_
      refine ox_y (sees_t rfl rfl rfl rfl hp1) (y_leq rfl rfl) ?_
      refine ox_y rfl (y_pick_tb (congrArg Value.bool hp1) rfl) ?_
      exact key _ _ (keep (keep (keep (keep (keep rfl rfl) rfl) rfl) rfl) (congrArg Value.bool (and_t hp1)))
    · refine ox_skip (sees_f rfl rfl rfl rfl hp1) ?_
      refine ox_skip (sees_f rfl rfl rfl rfl hp1) ?_
      refine ox_skip (sees_f rfl rfl rfl rfl hp1) ?_
      refine ox_y rfl (y_pick_fb (congrArg Value.bool hp1) rfl) ?_
      exact key _ _ (keep (keep (keep (keep (keep rfl rfl) rfl) rfl) rfl) (congrArg Value.bool (and_f hp1)))

end Go.Proofs.Ytepfgdfahinpkaa
