/- The calls hand back what the plain functions say. -/
import Derived.Test.YtepfgdfahinpkaaF
import Derived.Test.YtepfgdfahinpkaaC4
set_option linter.unusedVariables false
set_option maxHeartbeats 4000000
namespace Go.Proofs.Ytepfgdfahinpkaa
open Go.RowKit (Below)
attribute [local irreducible] OX QX CX EX OpY Calls CallsIn

/-! calx/calxref03.lot -/
set_option maxRecDepth 100000 in
theorem calxref03_lot_ok (p0_barrows : Int) (p1_bad : Int) (res : Bool) (h : calxref03_lot p0_barrows p1_bad = some res) (W : World)  :
    Calls Try.prog 115 [.int .i64 p0_barrows, .int .i64 p1_bad].toArray W fun e W2 => e = .returned (.bool res) ∧ Ext W W2 [] := by
  unfold calxref03_lot at h
  refine calls_enter (m := 12) Try.func115 rfl rfl (Nat.le_of_ble_eq_true rfl) ?_
  refine cx_seq ?_
  refine cx_region ?_
  refine ox_y rfl (y_assign_bool rfl) ?_
  refine ox_nil ?_
  refine ex_then ?_
  refine cx_seq ?_
  refine cx_region ?_
  refine ox_y rfl (y_move_int rfl) ?_
  obtain ⟨y1, hy2, h⟩ := bind_some h
  refine ox_y rfl (y_call [.int .i64 p0_barrows, .int .i64 1, .int .i64 50] go_79 rfl (fun W2 hW2 => calxref03_in_ok p0_barrows 1 50 y1 hy2 W2 ) rfl) ?_
  refine ox_y rfl (y_move_bool rfl) ?_
  obtain ⟨b4, hb5, h⟩ := bind_some h
  refine ox_join 4 (fun tm0 => (upd (upd (upd (upd tm0 0 (.int .i64 p0_barrows)) 1 (.int .i64 p1_bad)) 4 (.bool false)) 11 (.bool b4))) (fun tm0 => ?_) (fun key => ?_)
  · refine ox_y rfl (y_assign_bool rfl) ?_
    refine ox_nil ?_
    refine ex_then ?_
    refine cx_ret ?_
    obtain rfl := Option.some.inj h
    exact ex_res1 (.inl rfl) rfl (resV_tmp (v := .bool b4) rfl) (fun W2 hW2 => ⟨rfl, hW2.none⟩)
  · clear h; rcases ite_some hb5 with ⟨hp3, h⟩ | ⟨hp3, h⟩
    · refine ox_y (sees_t rfl rfl rfl rfl hp3) (y_move_int rfl) ?_
      refine ox_y (sees_t rfl rfl rfl rfl hp3) (y_move_int rfl) ?_
      obtain ⟨y6, hy7, h⟩ := bind_some h
      refine ox_y (sees_t rfl rfl rfl rfl hp3) (y_call [.int .i64 p1_bad, .int .i64 0, .int .i64 p0_barrows] go_79 rfl (fun W2 hW2 => calxref03_in_ok p1_bad 0 p0_barrows y6 hy7 W2 ) rfl) ?_
      refine ox_y rfl (y_pick_tb (congrArg Value.bool hp3) rfl) ?_
      obtain rfl := Option.some.inj h
      exact key _ _ (keep (keep (keep (keep rfl rfl) rfl) rfl) rfl)
    · refine ox_skip (sees_f rfl rfl rfl rfl hp3) ?_
      refine ox_skip (sees_f rfl rfl rfl rfl hp3) ?_
      refine ox_skip (sees_f rfl rfl rfl rfl hp3) ?_
      refine ox_y rfl (y_pick_fb (congrArg Value.bool hp3) rfl) ?_
      obtain rfl := Option.some.inj h
      exact key _ _ (keep (keep (keep (keep rfl rfl) rfl) rfl) rfl)

end Go.Proofs.Ytepfgdfahinpkaa
