/- The calls hand back what the plain functions say. -/
import Derived.Test.YtepfgdfahinpkaaF
import Derived.Test.YtepfgdfahinpkaaC5
set_option linter.unusedVariables false
set_option maxHeartbeats 4000000
namespace Go.Proofs.Ytepfgdfahinpkaa
open Go.RowKit (Below)
attribute [local irreducible] OX QX CX EX OpY Calls CallsIn

/-! calx/calxref03.atMost -/
set_option maxRecDepth 100000 in
theorem calxref03_atMost_ok (p0_barrows : Int) (p1_bad : Int) (p2_taken : Int) (p3_most : Int) (res : Int) (h : calxref03_atMost p0_barrows p1_bad p2_taken p3_most = some res) (W : World)  :
    Calls Try.prog 82 [.int .i64 p0_barrows, .int .i64 p1_bad, .int .i64 p2_taken, .int .i64 p3_most].toArray W fun e W2 => e = .returned (.int .i64 res) ∧ Ext W W2 [] := by
  unfold calxref03_atMost at h
  refine calls_enter (m := 35) Try.func82 rfl rfl (Nat.le_of_ble_eq_true rfl) ?_
  refine cx_seq ?_
  refine cx_region ?_
  refine ox_y rfl (y_assign_int rfl) ?_
  refine ox_nil ?_
  refine ex_then ?_
  refine cx_seq ?_
  refine cx_region ?_
  refine ox_y rfl (y_assign_int rfl) ?_
  refine ox_nil ?_
  refine ex_then ?_
  refine cx_seq ?_
  refine cx_seq ?_
  refine cx_region ?_
  refine ox_y rfl (y_assign_int rfl) ?_
  refine ox_nil ?_
  refine ex_then ?_
  refine cx_block ?_
  obtain ⟨u3, hl10, h⟩ := bind_some h
  refine cx_loop (fun (s : (Int × Int)) L tm => ∃ (tm0 : Nat → Value), L = [] ∧ tm = (upd (upd (upd (upd (upd (upd (upd tm0 0 (.int .i64 p0_barrows)) 1 (.int .i64 p1_bad)) 2 (.int .i64 p2_taken)) 3 (.int .i64 p3_most)) 8 (.int .i64 0)) 9 (.int .i64 s.1)) 10 (.int .i64 s.2))) (fun s e L tm => e = .exit 0 ∧ ∃ (tm0 : Nat → Value), L = [] ∧ tm = (upd (upd (upd (upd (upd (upd (upd tm0 0 (.int .i64 p0_barrows)) 1 (.int .i64 p1_bad)) 2 (.int .i64 p2_taken)) 3 (.int .i64 p3_most)) 8 (.int .i64 0)) 9 (.int .i64 s.1)) 10 (.int .i64 s.2))) hl10 ⟨_, rfl, (keep (keep (keep (keep (keep (keep (keep rfl rfl) rfl) rfl) rfl) rfl) rfl) rfl)⟩ ?_ ?_
  · rintro s2 L tm st ⟨tm0_s2, rfl, rfl⟩ h
    unfold calxref03_atMost_l1 at h
    refine cx_seq ?_
    refine cx_seq ?_
    refine cx_region ?_
    refine ox_y rfl (y_move_int rfl) ?_
    refine ox_y rfl (y_move_int rfl) ?_
    refine ox_y rfl (y_leq rfl rfl) ?_
    refine ox_y rfl (y_move_bool rfl) ?_
    refine ox_join 4 (fun tm0 => (upd (upd (upd (upd (upd (upd (upd (upd tm0 0 (.int .i64 p0_barrows)) 1 (.int .i64 p1_bad)) 2 (.int .i64 p2_taken)) 3 (.int .i64 p3_most)) 8 (.int .i64 0)) 9 (.int .i64 s2.1)) 10 (.int .i64 s2.2)) 18 (.bool ((decide (s2.2 ≤ p2_taken)) && (decide (s2.2 ≤ p3_most)))))) (fun tm0 => ?_) (fun key => ?_)
    · refine ox_nil ?_
      refine ex_then ?_
      rcases ite_some h with ⟨hp5, h⟩ | ⟨hp5, h⟩
      · refine cx_true (congrArg Value.bool hp5) ?_
        refine cx_skip ?_
        refine ex_then ?_
        refine cx_seq ?_
        refine cx_block ?_
        refine cx_region ?_
        refine ox_y rfl (y_move_int rfl) ?_
        refine ox_y rfl (y_move_int rfl) ?_
        refine ox_y rfl (y_move_int rfl) ?_
        obtain ⟨y6, hy7, h⟩ := bind_some h
        refine ox_y rfl (y_call [.int .i64 p1_bad, .int .i64 s2.2] go_81 rfl (fun W2 hW2 => calxref03_choose_ok p1_bad s2.2 y6 hy7 W2 ) rfl) ?_
        refine ox_y rfl (y_move_int rfl) ?_
        refine ox_y rfl (y_move_int rfl) ?_
        refine ox_y rfl (y_sub rfl rfl) ?_
        refine ox_y rfl (y_move_int rfl) ?_
        refine ox_y rfl (y_move_int rfl) ?_
        refine ox_y rfl (y_sub rfl rfl) ?_
        obtain ⟨y8, hy9, h⟩ := bind_some h
        refine ox_y rfl (y_call [.int .i64 (w64 (p0_barrows - p1_bad)), .int .i64 (w64 (p2_taken - s2.2))] go_81 rfl (fun W2 hW2 => calxref03_choose_ok (w64 (p0_barrows - p1_bad)) (w64 (p2_taken - s2.2)) y8 hy9 W2 ) rfl) ?_
        refine ox_y rfl (y_mul rfl rfl) ?_
        refine ox_y rfl (y_add rfl rfl) ?_
        refine ox_y rfl (y_assign_int rfl) ?_
        refine ox_nil ?_
        refine ex_block ?_
        refine ex_then ?_
        refine cx_region ?_
        refine ox_y rfl (y_move_int rfl) ?_
        refine ox_y rfl (y_add rfl rfl) ?_
        refine ox_y rfl (y_assign_int rfl) ?_
        refine ox_nil ?_
        obtain rfl := Option.some.inj h
        exact ex_next ⟨_, rfl, (keep (keep (keep (keep (keep (keep (keep rfl rfl) rfl) rfl) rfl) rfl) rfl) rfl)⟩
      · refine cx_false (congrArg Value.bool hp5) ?_
        refine cx_exit ?_
        refine ex_then_exit ?_
        obtain rfl := Option.some.inj h
        exact ex_stop ⟨rfl, _, rfl, (keep (keep (keep (keep (keep (keep (keep rfl rfl) rfl) rfl) rfl) rfl) rfl) rfl)⟩
    · rcases bool_cases (decide (s2.2 ≤ p2_taken)) with hp4 | hp4
      · refine ox_y (sees_t rfl rfl rfl rfl hp4) (y_move_int rfl) ?_
        refine ox_y (sees_t rfl rfl rfl rfl hp4) (y_move_int rfl) ?_
        refine ox_y (sees_t rfl rfl rfl rfl hp4) (y_leq rfl rfl) ?_
        refine ox_y rfl (y_pick_tb (congrArg Value.bool hp4) rfl) ?_
        exact key _ _ (keep (keep (keep (keep (keep (keep (keep (keep rfl rfl) rfl) rfl) rfl) rfl) rfl) rfl) (congrArg Value.bool (and_t hp4)))
      · refine ox_skip (sees_f rfl rfl rfl rfl hp4) ?_
        refine ox_skip (sees_f rfl rfl rfl rfl hp4) ?_
        refine ox_skip (sees_f rfl rfl rfl rfl hp4) ?_
        refine ox_y rfl (y_pick_fb (congrArg Value.bool hp4) rfl) ?_
        exact key _ _ (keep (keep (keep (keep (keep (keep (keep (keep rfl rfl) rfl) rfl) rfl) rfl) rfl) rfl) (congrArg Value.bool (and_f hp4)))
  · intro e L tm hJ
    obtain ⟨rfl, tm0_u3, rfl, rfl⟩ := hJ
    refine ⟨(by intro hc; cases hc), ?_⟩
    refine ex_block_here ?_
    refine ex_then ?_
    refine cx_seq ?_
    refine cx_region ?_
    refine ox_y rfl (y_move_int rfl) ?_
    refine ox_y rfl (y_assign_int rfl) ?_
    refine ox_nil ?_
    refine ex_then ?_
    refine cx_ret ?_
    obtain rfl := Option.some.inj h
    exact ex_res1 (.inl rfl) rfl (resV_tmp (v := .int .i64 u3.1) rfl) (fun W2 hW2 => ⟨rfl, hW2.none⟩)

end Go.Proofs.Ytepfgdfahinpkaa
