/- The calls hand back what the plain functions say. -/
import Derived.Test.YtepfgdfahinpkaaF
set_option linter.unusedVariables false
set_option maxHeartbeats 4000000
namespace Go.Proofs.Ytepfgdfahinpkaa
open Go.RowKit (Below)
attribute [local irreducible] OX QX CX EX OpY Calls CallsIn

/-! calx/calxref03.sorted -/
set_option maxRecDepth 100000 in
theorem calxref03_sorted_ok (p0_b : TKinds) (res : Bool) (h : calxref03_sorted p0_b = some res) (W : World)  :
    Calls Try.prog 92 [.agg #[.int .i64 p0_b.x0, .int .i64 p0_b.x1, .int .i64 p0_b.x2]].toArray W fun e W2 => e = .returned (.bool res) ∧ Ext W W2 [] := by
  unfold calxref03_sorted at h
  refine calls_enter (m := 16) Try.func92 rfl rfl (Nat.le_of_ble_eq_true rfl) ?_
  refine cx_seq ?_
  refine cx_region ?_
  refine ox_box [.int .i64 p0_b.x0, .int .i64 p0_b.x1, .int .i64 p0_b.x2] rfl rfl rfl (fun b1 => ?_)
  refine ox_y rfl (y_assign_bool rfl) ?_
  refine ox_nil ?_
  refine ex_then ?_
  refine cx_seq ?_
  refine cx_region ?_
  refine ox_y rfl (y_indexArr ar_43 (by decide) (by decide) rfl rfl) ?_
  refine ox_y rfl (y_load1 0 (v := .int .i64 p0_b.x0) sc_3 rfl rfl rfl) ?_
  refine ox_y rfl (y_geq rfl rfl) ?_
  refine ox_y rfl (y_move_bool rfl) ?_
  refine ox_join 4 (fun tm0 => (upd (upd (upd (upd tm0 0 (.agg #[.int .i64 p0_b.x0, .int .i64 p0_b.x1, .int .i64 p0_b.x2])) 1 (.pointer (some ⟨b1, 0, none⟩))) 2 (.bool false)) 10 (.bool ((decide (0 ≤ p0_b.x0)) && (decide (0 ≤ p0_b.x1)))))) (fun tm0 => ?_) (fun key => ?_)
  · refine ox_y rfl (y_move_bool rfl) ?_
    refine ox_join 4 (fun tm0 => (upd (upd (upd (upd tm0 0 (.agg #[.int .i64 p0_b.x0, .int .i64 p0_b.x1, .int .i64 p0_b.x2])) 1 (.pointer (some ⟨b1, 0, none⟩))) 2 (.bool false)) 15 (.bool (((decide (0 ≤ p0_b.x0)) && (decide (0 ≤ p0_b.x1))) && (decide (0 ≤ p0_b.x2)))))) (fun tm0 => ?_) (fun key => ?_)
    · refine ox_y rfl (y_assign_bool rfl) ?_
      refine ox_nil ?_
      refine ex_then ?_
      refine cx_ret ?_
      obtain rfl := Option.some.inj h
      exact ex_res1 (.inl rfl) rfl (resV_tmp (v := .bool (((decide (0 ≤ p0_b.x0)) && (decide (0 ≤ p0_b.x1))) && (decide (0 ≤ p0_b.x2)))) rfl) (fun W2 hW2 => ⟨rfl, hW2.none⟩)
    · rcases bool_cases ((decide (0 ≤ p0_b.x0)) && (decide (0 ≤ p0_b.x1))) with hp3 | hp3
      · refine ox_y (sees_t rfl rfl rfl rfl hp3) (y_indexArr ar_43 (by decide) (by decide) rfl rfl) ?_
        refine ox_y (sees_t rfl rfl rfl rfl hp3) (y_load1 0 (v := .int .i64 p0_b.x2) sc_3 rfl rfl rfl) ?_
        refine ox_y (sees_t rfl rfl rfl rfl hp3) (y_geq rfl rfl) ?_
        refine ox_y rfl (y_pick_tb (congrArg Value.bool hp3) rfl) ?_
        exact key _ _ (keep (keep (keep (keep rfl rfl) rfl) rfl) (congrArg Value.bool (and_t hp3)))
      · refine ox_skip (sees_f rfl rfl rfl rfl hp3) ?_
        refine ox_skip (sees_f rfl rfl rfl rfl hp3) ?_
        refine ox_skip (sees_f rfl rfl rfl rfl hp3) ?_
        refine ox_y rfl (y_pick_fb (congrArg Value.bool hp3) rfl) ?_
        exact key _ _ (keep (keep (keep (keep rfl rfl) rfl) rfl) (congrArg Value.bool (and_f hp3)))
  · rcases bool_cases (decide (0 ≤ p0_b.x0)) with hp2 | hp2
    · refine ox_y (sees_t rfl rfl rfl rfl hp2) (y_indexArr ar_43 (by decide) (by decide) rfl rfl) ?_
      refine ox_y (sees_t rfl rfl rfl rfl hp2) (y_load1 0 (v := .int .i64 p0_b.x1) sc_3 rfl rfl rfl) ?_
      refine ox_y (sees_t rfl rfl rfl rfl hp2) (y_geq rfl rfl) ?_
      refine ox_y rfl (y_pick_tb (congrArg Value.bool hp2) rfl) ?_
      exact key _ _ (keep (keep (keep (keep rfl rfl) rfl) rfl) (congrArg Value.bool (and_t hp2)))
    · refine ox_skip (sees_f rfl rfl rfl rfl hp2) ?_
      refine ox_skip (sees_f rfl rfl rfl rfl hp2) ?_
      refine ox_skip (sees_f rfl rfl rfl rfl hp2) ?_
      refine ox_y rfl (y_pick_fb (congrArg Value.bool hp2) rfl) ?_
      exact key _ _ (keep (keep (keep (keep rfl rfl) rfl) rfl) (congrArg Value.bool (and_f hp2)))

/-! calx/calxref03.all -/
set_option maxRecDepth 100000 in
theorem calxref03_all_ok (p0_b : TKinds) (res : Int) (h : calxref03_all p0_b = some res) (W : World)  :
    Calls Try.prog 96 [.agg #[.int .i64 p0_b.x0, .int .i64 p0_b.x1, .int .i64 p0_b.x2]].toArray W fun e W2 => e = .returned (.int .i64 res) ∧ Ext W W2 [] := by
  unfold calxref03_all at h
  refine calls_enter (m := 16) Try.func96 rfl rfl (Nat.le_of_ble_eq_true rfl) ?_
  refine cx_seq ?_
  refine cx_region ?_
  refine ox_box [.int .i64 p0_b.x0, .int .i64 p0_b.x1, .int .i64 p0_b.x2] rfl rfl rfl (fun b1 => ?_)
  refine ox_y rfl (y_assign_int rfl) ?_
  refine ox_nil ?_
  refine ex_then ?_
  refine cx_seq ?_
  refine cx_region ?_
  refine ox_y rfl (y_assign_int rfl) ?_
  refine ox_nil ?_
  refine ex_then ?_
  refine cx_seq ?_
  refine cx_seq ?_
  refine cx_region ?_
  refine ox_y rfl (y_assign_int rfl) ?_
  refine ox_nil ?_
  refine ex_then ?_
  refine cx_block ?_
  obtain ⟨u4, hl7, h⟩ := bind_some h
  refine cx_loop (fun (s : (Int × Int)) L tm => ∃ (tm0 : Nat → Value), L = [cellsR b1 43 [.int .i64 p0_b.x0, .int .i64 p0_b.x1, .int .i64 p0_b.x2]] ∧ tm = (upd (upd (upd (upd (upd tm0 0 (.agg #[.int .i64 p0_b.x0, .int .i64 p0_b.x1, .int .i64 p0_b.x2])) 1 (.pointer (some ⟨b1, 0, none⟩))) 2 (.int .i64 0)) 3 (.int .i64 s.1)) 4 (.int .i64 s.2))) (fun s e L tm => e = .exit 0 ∧ ∃ (tm0 : Nat → Value), L = [cellsR b1 43 [.int .i64 p0_b.x0, .int .i64 p0_b.x1, .int .i64 p0_b.x2]] ∧ tm = (upd (upd (upd (upd (upd tm0 0 (.agg #[.int .i64 p0_b.x0, .int .i64 p0_b.x1, .int .i64 p0_b.x2])) 1 (.pointer (some ⟨b1, 0, none⟩))) 2 (.int .i64 0)) 3 (.int .i64 s.1)) 4 (.int .i64 s.2))) hl7 ⟨_, rfl, (keep (keep (keep (keep (keep rfl rfl) rfl) rfl) rfl) rfl)⟩ ?_ ?_
  · rintro s3 L tm st ⟨tm0_s3, rfl, rfl⟩ h
    unfold calxref03_all_l1 at h
    refine cx_seq ?_
    refine cx_seq ?_
    refine cx_region ?_
    refine ox_y rfl (y_move_int rfl) ?_
    refine ox_y rfl (y_lss rfl rfl) ?_
    refine ox_nil ?_
    refine ex_then ?_
    rcases ite_some h with ⟨hp5, h⟩ | ⟨hp5, h⟩
    · refine cx_true (congrArg Value.bool hp5) ?_
      refine cx_skip ?_
      refine ex_then ?_
      refine cx_seq ?_
      refine cx_block ?_
      refine cx_region ?_
      refine ox_y rfl (y_move_int rfl) ?_
      refine ox_y rfl (y_move_int rfl) ?_
      obtain ⟨hg6, h⟩ := guardO_some h
      refine ox_y rfl (y_indexArr ar_43 hg6.1 hg6.2 rfl rfl) ?_
      refine ox_y rfl (y_load1 0 (v := .int .i64 (sel3 p0_b.x0 p0_b.x1 p0_b.x2 s3.2)) sc_3 rfl rfl (by rcases in3 hg6 with e | e | e <;> rw [e] <;> rfl)) ?_
      refine ox_y rfl (y_min rfl rfl) ?_
      refine ox_y rfl (y_add rfl rfl) ?_
      refine ox_y rfl (y_assign_int rfl) ?_
      refine ox_nil ?_
      refine ex_block ?_
      refine ex_then ?_
      refine cx_region ?_
      refine ox_y rfl (y_move_int rfl) ?_
      refine ox_y rfl (y_add rfl rfl) ?_
      refine ox_y rfl (y_assign_int rfl) ?_
      refine ox_nil ?_
      obtain rfl := Option.some.inj h
      exact ex_next ⟨_, rfl, (keep (keep (keep (keep (keep rfl rfl) rfl) rfl) rfl) rfl)⟩
    · refine cx_false (congrArg Value.bool hp5) ?_
      refine cx_exit ?_
      refine ex_then_exit ?_
      obtain rfl := Option.some.inj h
      exact ex_stop ⟨rfl, _, rfl, (keep (keep (keep (keep (keep rfl rfl) rfl) rfl) rfl) rfl)⟩
  · intro e L tm hJ
    obtain ⟨rfl, tm0_u4, rfl, rfl⟩ := hJ
    refine ⟨(by intro hc; cases hc), ?_⟩
    refine ex_block_here ?_
    refine ex_then ?_
    refine cx_seq ?_
    refine cx_region ?_
    refine ox_y rfl (y_move_int rfl) ?_
    refine ox_y rfl (y_assign_int rfl) ?_
    refine ox_nil ?_
    refine ex_then ?_
    refine cx_ret ?_
    obtain rfl := Option.some.inj h
    exact ex_res1 (.inl rfl) rfl (resV_tmp (v := .int .i64 u4.1) rfl) (fun W2 hW2 => ⟨rfl, hW2.none⟩)

end Go.Proofs.Ytepfgdfahinpkaa
