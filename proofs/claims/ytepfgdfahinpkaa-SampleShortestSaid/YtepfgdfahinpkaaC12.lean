/- The calls hand back what the plain functions say. -/
import Derived.Test.YtepfgdfahinpkaaF
import Derived.Test.YtepfgdfahinpkaaC5
set_option linter.unusedVariables false
set_option maxHeartbeats 4000000
namespace Go.Proofs.Ytepfgdfahinpkaa
open Go.RowKit (Below)
attribute [local irreducible] OX QX CX EX OpY Calls CallsIn

/-! calx/calxref03.ways -/
set_option maxRecDepth 100000 in
theorem calxref03_ways_ok (p0_w : TKinds) (p1_s : TKinds) (res : Int) (h : calxref03_ways p0_w p1_s = some res) (W : World)  :
    Calls Try.prog 93 [.agg #[.int .i64 p0_w.x0, .int .i64 p0_w.x1, .int .i64 p0_w.x2], .agg #[.int .i64 p1_s.x0, .int .i64 p1_s.x1, .int .i64 p1_s.x2]].toArray W fun e W2 => e = .returned (.int .i64 res) ∧ Ext W W2 [] := by
  unfold calxref03_ways at h
  refine calls_enter (m := 21) Try.func93 rfl rfl (Nat.le_of_ble_eq_true rfl) ?_
  refine cx_seq ?_
  refine cx_region ?_
  refine ox_box [.int .i64 p0_w.x0, .int .i64 p0_w.x1, .int .i64 p0_w.x2] rfl rfl rfl (fun b1 => ?_)
  refine ox_box [.int .i64 p1_s.x0, .int .i64 p1_s.x1, .int .i64 p1_s.x2] rfl rfl rfl (fun b2 => ?_)
  refine ox_y rfl (y_assign_int rfl) ?_
  refine ox_nil ?_
  refine ex_then ?_
  refine cx_seq ?_
  refine cx_region ?_
  refine ox_y rfl (y_assign_int rfl) ?_
  refine ox_nil ?_
  refine ex_then ?_
  refine cx_seq ?_
  refine cx_seq ?_
  refine cx_region ?_
  refine ox_y rfl (y_assign_int rfl) ?_
  refine ox_nil ?_
  refine ex_then ?_
  refine cx_block ?_
  obtain ⟨u5, hl11, h⟩ := bind_some h
  refine cx_loop (fun (s : (Int × Int)) L tm => ∃ (tm0 : Nat → Value), L = [cellsR b1 43 [.int .i64 p0_w.x0, .int .i64 p0_w.x1, .int .i64 p0_w.x2], cellsR b2 43 [.int .i64 p1_s.x0, .int .i64 p1_s.x1, .int .i64 p1_s.x2]] ∧ tm = (upd (upd (upd (upd (upd (upd (upd tm0 0 (.agg #[.int .i64 p0_w.x0, .int .i64 p0_w.x1, .int .i64 p0_w.x2])) 1 (.agg #[.int .i64 p1_s.x0, .int .i64 p1_s.x1, .int .i64 p1_s.x2])) 2 (.pointer (some ⟨b1, 0, none⟩))) 3 (.pointer (some ⟨b2, 0, none⟩))) 4 (.int .i64 0)) 5 (.int .i64 s.1)) 6 (.int .i64 s.2))) (fun s e L tm => e = .exit 0 ∧ ∃ (tm0 : Nat → Value), L = [cellsR b1 43 [.int .i64 p0_w.x0, .int .i64 p0_w.x1, .int .i64 p0_w.x2], cellsR b2 43 [.int .i64 p1_s.x0, .int .i64 p1_s.x1, .int .i64 p1_s.x2]] ∧ tm = (upd (upd (upd (upd (upd (upd (upd tm0 0 (.agg #[.int .i64 p0_w.x0, .int .i64 p0_w.x1, .int .i64 p0_w.x2])) 1 (.agg #[.int .i64 p1_s.x0, .int .i64 p1_s.x1, .int .i64 p1_s.x2])) 2 (.pointer (some ⟨b1, 0, none⟩))) 3 (.pointer (some ⟨b2, 0, none⟩))) 4 (.int .i64 0)) 5 (.int .i64 s.1)) 6 (.int .i64 s.2))) hl11 ⟨_, rfl, (keep (keep (keep (keep (keep (keep (keep rfl rfl) rfl) rfl) rfl) rfl) rfl) rfl)⟩ ?_ ?_
  · rintro s4 L tm st ⟨tm0_s4, rfl, rfl⟩ h
    unfold calxref03_ways_l1 at h
    refine cx_seq ?_
    refine cx_seq ?_
    refine cx_region ?_
    refine ox_y rfl (y_move_int rfl) ?_
    refine ox_y rfl (y_lss rfl rfl) ?_
    refine ox_nil ?_
    refine ex_then ?_
    rcases ite_some h with ⟨hp6, h⟩ | ⟨hp6, h⟩
    · refine cx_true (congrArg Value.bool hp6) ?_
      refine cx_skip ?_
      refine ex_then ?_
      refine cx_seq ?_
      refine cx_block ?_
      refine cx_draws 10 mixed (by kernel_rfl) (by kernel_rfl) ?_
      refine qx_y rfl (y_move_int rfl) ?_
      refine qx_y rfl (y_move_int rfl) ?_
      obtain ⟨hg7, h⟩ := guardO_some h
      refine qx_y rfl (y_indexArr ar_43 hg7.1 hg7.2 rfl rfl) ?_
      refine qx_y rfl (y_load1 0 (v := .int .i64 (sel3 p0_w.x0 p0_w.x1 p0_w.x2 s4.2)) sc_3 rfl rfl (by rcases in3 hg7 with e | e | e <;> rw [e] <;> rfl)) ?_
      refine qx_y rfl (y_move_int rfl) ?_
      obtain ⟨hg8, h⟩ := guardO_some h
      refine qx_y rfl (y_indexArr ar_43 hg8.1 hg8.2 rfl rfl) ?_
      refine qx_y rfl (y_load1 1 (v := .int .i64 (sel3 p1_s.x0 p1_s.x1 p1_s.x2 s4.2)) sc_3 rfl rfl (by rcases in3 hg8 with e | e | e <;> rw [e] <;> rfl)) ?_
      obtain ⟨y9, hy10, h⟩ := bind_some h
      refine qx_y rfl (y_call [.int .i64 (sel3 p0_w.x0 p0_w.x1 p0_w.x2 s4.2), .int .i64 (sel3 p1_s.x0 p1_s.x1 p1_s.x2 s4.2)] go_81 rfl (fun W2 hW2 => calxref03_choose_ok (sel3 p0_w.x0 p0_w.x1 p0_w.x2 s4.2) (sel3 p1_s.x0 p1_s.x1 p1_s.x2 s4.2) y9 hy10 W2 ) rfl) ?_
      refine qx_y rfl (y_mul rfl rfl) ?_
      refine qx_y rfl (y_assign_int rfl) ?_
      refine qx_nil ?_
      refine ox_nil ?_
      refine ex_block ?_
      refine ex_then ?_
      refine cx_region ?_
      refine ox_y rfl (y_move_int rfl) ?_
      refine ox_y rfl (y_add rfl rfl) ?_
      refine ox_y rfl (y_assign_int rfl) ?_
      refine ox_nil ?_
      obtain rfl := Option.some.inj h
      exact ex_next ⟨_, rfl, (keep (keep (keep (keep (keep (keep (keep rfl rfl) rfl) rfl) rfl) rfl) rfl) rfl)⟩
    · refine cx_false (congrArg Value.bool hp6) ?_
      refine cx_exit ?_
      refine ex_then_exit ?_
      obtain rfl := Option.some.inj h
      exact ex_stop ⟨rfl, _, rfl, (keep (keep (keep (keep (keep (keep (keep rfl rfl) rfl) rfl) rfl) rfl) rfl) rfl)⟩
  · intro e L tm hJ
    obtain ⟨rfl, tm0_u5, rfl, rfl⟩ := hJ
    refine ⟨(by intro hc; cases hc), ?_⟩
    refine ex_block_here ?_
    refine ex_then ?_
    refine cx_seq ?_
    refine cx_region ?_
    refine ox_y rfl (y_move_int rfl) ?_
    refine ox_y rfl (y_assign_int rfl) ?_
    refine ox_nil ?_
    refine ex_then ?_
    refine cx_ret ?_
    obtain rfl := Option.some.inj h
    exact ex_res1 (.inl rfl) rfl (resV_tmp (v := .int .i64 u5.1) rfl) (fun W2 hW2 => ⟨rfl, hW2.none⟩)

end Go.Proofs.Ytepfgdfahinpkaa
