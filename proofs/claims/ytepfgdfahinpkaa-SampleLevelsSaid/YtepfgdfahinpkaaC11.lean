/- The calls hand back what the plain functions say. -/
import Derived.Test.YtepfgdfahinpkaaF
import Derived.Test.YtepfgdfahinpkaaC0
import Derived.Test.YtepfgdfahinpkaaC7
set_option linter.unusedVariables false
set_option maxHeartbeats 4000000
namespace Go.Proofs.Ytepfgdfahinpkaa
open Go.RowKit (Below)
attribute [local irreducible] OX QX CX EX OpY Calls CallsIn

/-! calx/sample.AtMost -/
set_option maxRecDepth 100000 in
theorem sample_AtMost_ok (p0_barrows : Int) (p1_bad : Int) (p2_taken : Int) (p3_most : Int) (res : (Int × Int)) (h : sample_AtMost p0_barrows p1_bad p2_taken p3_most = some res) (W : World)  :
    Calls Try.prog 54 [.int .i64 p0_barrows, .int .i64 p1_bad, .int .i64 p2_taken, .int .i64 p3_most].toArray W fun e W2 => e = .returned (.tuple #[.int .i64 res.1, .int .i64 res.2]) ∧ Ext W W2 [] := by
  unfold sample_AtMost at h
  refine calls_enter (m := 30) Try.func54 rfl rfl (Nat.le_of_ble_eq_true rfl) ?_
  refine cx_seq ?_
  refine cx_region ?_
  refine ox_y rfl (y_assign_int rfl) ?_
  refine ox_y rfl (y_assign_int rfl) ?_
  refine ox_nil ?_
  refine ex_then ?_
  refine cx_seq ?_
  refine cx_seq ?_
  refine cx_region ?_
  refine ox_y rfl (y_move_int rfl) ?_
  refine ox_y rfl (y_move_int rfl) ?_
  obtain ⟨y1, hy2, h⟩ := bind_some h
  refine ox_y rfl (y_call [.int .i64 p0_barrows, .int .i64 p1_bad, .int .i64 50] go_114 rfl (fun W2 hW2 => sample_lot_ok p0_barrows p1_bad 50 y1 hy2 W2 ) rfl) ?_
  refine ox_y rfl (y_assign_int rfl) ?_
  refine ox_nil ?_
  refine ex_then ?_
  refine cx_seq ?_
  refine cx_region ?_
  refine ox_y rfl (y_move_int rfl) ?_
  refine ox_y rfl (y_neq rfl rfl) ?_
  refine ox_nil ?_
  refine ex_then ?_
  rcases ite_some h with ⟨hp3, h⟩ | ⟨hp3, h⟩
  · refine cx_true (congrArg Value.bool hp3) ?_
    refine cx_seq ?_
    refine cx_region ?_
    refine ox_y rfl (y_move_int rfl) ?_
    refine ox_y rfl (y_assign_int rfl) ?_
    refine ox_y rfl (y_assign_int rfl) ?_
    refine ox_nil ?_
    refine ex_then ?_
    refine cx_ret ?_
    refine ex_then_ret ?_
    obtain rfl := Option.some.inj h
    exact ex_res2 (.inl rfl) rfl (resV_tmp (v := .int .i64 0) rfl) (resV_tmp (v := .int .i64 y1) rfl) (fun W2 hW2 => ⟨rfl, hW2.none⟩)
  · refine cx_false (congrArg Value.bool hp3) ?_
    refine cx_skip ?_
    refine ex_then ?_
    refine cx_seq ?_
    refine cx_seq ?_
    refine cx_region ?_
    refine ox_y rfl (y_move_int rfl) ?_
    refine ox_y rfl (y_move_int rfl) ?_
    obtain ⟨y4, hy5, h⟩ := bind_some h
    refine ox_y rfl (y_call [.int .i64 p2_taken, .int .i64 0, .int .i64 p0_barrows] go_74 rfl (fun W2 hW2 => sample_within_ok p2_taken 0 p0_barrows y4 hy5 W2 ) rfl) ?_
    refine ox_y rfl (y_not rfl) ?_
    refine ox_y rfl (y_move_bool rfl) ?_
    refine ox_join 3 (fun tm0 => (upd (upd (upd (upd (upd (upd (upd (upd (upd tm0 0 (.int .i64 p0_barrows)) 1 (.int .i64 p1_bad)) 2 (.int .i64 p2_taken)) 3 (.int .i64 p3_most)) 8 (.int .i64 0)) 9 (.int .i64 0)) 10 (.int .i64 y1)) 15 (.bool (y1 != 0))) 24 (.bool ((!y4) || (decide (p3_most < 0)))))) (fun tm0 => ?_) (fun key => ?_)
    · refine ox_nil ?_
      refine ex_then ?_
      rcases ite_some h with ⟨hp7, h⟩ | ⟨hp7, h⟩
      · refine cx_true (congrArg Value.bool hp7) ?_
        refine cx_seq ?_
        refine cx_region ?_
        refine ox_y rfl (y_assign_int rfl) ?_
        refine ox_y rfl (y_assign_int rfl) ?_
        refine ox_nil ?_
        refine ex_then ?_
        refine cx_ret ?_
        refine ex_then_ret ?_
        obtain rfl := Option.some.inj h
        exact ex_res2 (.inl rfl) rfl (resV_tmp (v := .int .i64 0) rfl) (resV_tmp (v := .int .i64 1) rfl) (fun W2 hW2 => ⟨rfl, hW2.none⟩)
      · refine cx_false (congrArg Value.bool hp7) ?_
        refine cx_skip ?_
        refine ex_then ?_
        refine cx_seq ?_
        refine cx_region ?_
        refine ox_y rfl (y_move_int rfl) ?_
        refine ox_y rfl (y_move_int rfl) ?_
        refine ox_y rfl (y_move_int rfl) ?_
        refine ox_y rfl (y_move_int rfl) ?_
        obtain ⟨y8, hy9, h⟩ := bind_some h
        refine ox_y rfl (y_call [.int .i64 p0_barrows, .int .i64 p1_bad, .int .i64 p2_taken, .int .i64 p3_most] go_77 rfl (fun W2 hW2 => sample_atMost_ok p0_barrows p1_bad p2_taken p3_most y8 hy9 W2 ) rfl) ?_
        refine ox_y rfl (y_assign_int rfl) ?_
        refine ox_y rfl (y_assign_int rfl) ?_
        refine ox_nil ?_
        refine ex_then ?_
        refine cx_ret ?_
        obtain rfl := Option.some.inj h
        exact ex_res2 (.inl rfl) rfl (resV_tmp (v := .int .i64 y8) rfl) (resV_tmp (v := .int .i64 0) rfl) (fun W2 hW2 => ⟨rfl, hW2.none⟩)
    · rcases bool_cases (!y4) with hp6 | hp6
      · refine ox_skip (sees_f rfl rfl rfl rfl hp6) ?_
        refine ox_skip (sees_f rfl rfl rfl rfl hp6) ?_
        refine ox_y rfl (y_pick_tb (congrArg Value.bool hp6) rfl) ?_
        exact key _ _ (keep (keep (keep (keep (keep (keep (keep (keep (keep rfl rfl) rfl) rfl) rfl) rfl) rfl) rfl) rfl) (congrArg Value.bool (or_t hp6)))
      · refine ox_y (sees_t rfl rfl rfl rfl hp6) (y_move_int rfl) ?_
        refine ox_y (sees_t rfl rfl rfl rfl hp6) (y_lss rfl rfl) ?_
        refine ox_y rfl (y_pick_fb (congrArg Value.bool hp6) rfl) ?_
        exact key _ _ (keep (keep (keep (keep (keep (keep (keep (keep (keep rfl rfl) rfl) rfl) rfl) rfl) rfl) rfl) rfl) (congrArg Value.bool (or_f hp6)))

end Go.Proofs.Ytepfgdfahinpkaa
