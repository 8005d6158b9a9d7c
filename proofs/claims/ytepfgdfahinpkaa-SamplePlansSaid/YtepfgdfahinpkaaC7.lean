/- The calls hand back what the plain functions say. -/
import Derived.Test.YtepfgdfahinpkaaF
import Derived.Test.YtepfgdfahinpkaaC0
set_option linter.unusedVariables false
set_option maxHeartbeats 4000000
namespace Go.Proofs.Ytepfgdfahinpkaa
open Go.RowKit (Below)
attribute [local irreducible] OX QX CX EX OpY Calls CallsIn

/-! calx/sample.lot -/
set_option maxRecDepth 100000 in
theorem sample_lot_ok (p0_barrows : Int) (p1_bad : Int) (p2_most : Int) (res : Int) (h : sample_lot p0_barrows p1_bad p2_most = some res) (W : World)  :
    Calls Try.prog 114 [.int .i64 p0_barrows, .int .i64 p1_bad, .int .i64 p2_most].toArray W fun e W2 => e = .returned (.int .i64 res) ∧ Ext W W2 [] := by
  unfold sample_lot at h
  refine calls_enter (m := 17) Try.func114 rfl rfl (Nat.le_of_ble_eq_true rfl) ?_
  refine cx_seq ?_
  refine cx_region ?_
  refine ox_y rfl (y_assign_int rfl) ?_
  refine ox_nil ?_
  refine ex_then ?_
  refine cx_seq ?_
  refine cx_seq ?_
  refine cx_region ?_
  refine ox_y rfl (y_move_int rfl) ?_
  refine ox_y rfl (y_move_int rfl) ?_
  obtain ⟨y1, hy2, h⟩ := bind_some h
  refine ox_y rfl (y_call [.int .i64 p0_barrows, .int .i64 1, .int .i64 p2_most] go_74 rfl (fun W2 hW2 => sample_within_ok p0_barrows 1 p2_most y1 hy2 W2 ) rfl) ?_
  refine ox_y rfl (y_not rfl) ?_
  refine ox_y rfl (y_move_bool rfl) ?_
  obtain ⟨b4, hb5, h⟩ := bind_some h
  refine ox_join 5 (fun tm0 => (upd (upd (upd (upd (upd tm0 0 (.int .i64 p0_barrows)) 1 (.int .i64 p1_bad)) 2 (.int .i64 p2_most)) 6 (.int .i64 0)) 16 (.bool b4))) (fun tm0 => ?_) (fun key => ?_)
  · refine ox_nil ?_
    refine ex_then ?_
    rcases ite_some h with ⟨hp6, h⟩ | ⟨hp6, h⟩
    · refine cx_true (congrArg Value.bool hp6) ?_
      refine cx_seq ?_
      refine cx_region ?_
      refine ox_y rfl (y_assign_int rfl) ?_
      refine ox_nil ?_
      refine ex_then ?_
      refine cx_ret ?_
      refine ex_then_ret ?_
      obtain rfl := Option.some.inj h
      exact ex_res1 (.inl rfl) rfl (resV_tmp (v := .int .i64 1) rfl) (fun W2 hW2 => ⟨rfl, hW2.none⟩)
    · refine cx_false (congrArg Value.bool hp6) ?_
      refine cx_skip ?_
      refine ex_then ?_
      refine cx_seq ?_
      refine cx_region ?_
      refine ox_y rfl (y_assign_int rfl) ?_
      refine ox_nil ?_
      refine ex_then ?_
      refine cx_ret ?_
      obtain rfl := Option.some.inj h
      exact ex_res1 (.inl rfl) rfl (resV_tmp (v := .int .i64 0) rfl) (fun W2 hW2 => ⟨rfl, hW2.none⟩)
  · clear h; rcases ite_some hb5 with ⟨hp3, h⟩ | ⟨hp3, h⟩
    · refine ox_skip (sees_f rfl rfl rfl rfl hp3) ?_
      refine ox_skip (sees_f rfl rfl rfl rfl hp3) ?_
      refine ox_skip (sees_f rfl rfl rfl rfl hp3) ?_
      refine ox_skip (sees_f rfl rfl rfl rfl hp3) ?_
      refine ox_y rfl (y_pick_tb (congrArg Value.bool hp3) rfl) ?_
      obtain rfl := Option.some.inj h
      exact key _ _ (keep (keep (keep (keep (keep rfl rfl) rfl) rfl) rfl) rfl)
    · refine ox_y (sees_t rfl rfl rfl rfl hp3) (y_move_int rfl) ?_
      refine ox_y (sees_t rfl rfl rfl rfl hp3) (y_move_int rfl) ?_
      obtain ⟨y7, hy8, h⟩ := bind_some h
      refine ox_y (sees_t rfl rfl rfl rfl hp3) (y_call [.int .i64 p1_bad, .int .i64 0, .int .i64 p0_barrows] go_74 rfl (fun W2 hW2 => sample_within_ok p1_bad 0 p0_barrows y7 hy8 W2 ) rfl) ?_
      refine ox_y (sees_t rfl rfl rfl rfl hp3) (y_not rfl) ?_
      refine ox_y rfl (y_pick_fb (congrArg Value.bool hp3) rfl) ?_
      obtain rfl := Option.some.inj h
      exact key _ _ (keep (keep (keep (keep (keep rfl rfl) rfl) rfl) rfl) rfl)

end Go.Proofs.Ytepfgdfahinpkaa
