/- The calls hand back what the plain functions say. -/
import Derived.Test.YtepfgdfahinpkaaF
import Derived.Test.YtepfgdfahinpkaaC4
import Derived.Test.YtepfgdfahinpkaaC5
set_option linter.unusedVariables false
set_option maxHeartbeats 4000000
namespace Go.Proofs.Ytepfgdfahinpkaa
open Go.RowKit (Below)
attribute [local irreducible] OX QX CX EX OpY Calls CallsIn

/-! calx/calxref03.level -/
set_option maxRecDepth 100000 in
theorem calxref03_level_ok (p0_r : TRatio) (res : Bool) (h : calxref03_level p0_r = some res) (W : World)  :
    Calls Try.prog 80 [.agg #[.int .i64 p0_r.fNum, .int .i64 p0_r.fDen]].toArray W fun e W2 => e = .returned (.bool res) ∧ Ext W W2 [] := by
  unfold calxref03_level at h
  refine calls_enter (m := 22) Try.func80 rfl rfl (Nat.le_of_ble_eq_true rfl) ?_
  refine cx_seq ?_
  refine cx_region ?_
  refine ox_box [.int .i64 p0_r.fNum, .int .i64 p0_r.fDen] rfl rfl rfl (fun b1 => ?_)
  refine ox_y rfl (y_assign_bool rfl) ?_
  refine ox_nil ?_
  refine ex_then ?_
  refine cx_seq ?_
  refine cx_draws 20 mixed (by kernel_rfl) (by kernel_rfl) ?_
  refine qx_y rfl (y_fieldAddr fo_23_1 rfl) ?_
  refine qx_y rfl (y_load1 0 (v := .int .i64 p0_r.fDen) sc_3 rfl rfl rfl) ?_
  obtain ⟨y2, hy3, h⟩ := bind_some h
  refine qx_y rfl (y_call [.int .i64 p0_r.fDen, .int .i64 1, .int .i64 10000] go_79 rfl (fun W2 hW2 => calxref03_in_ok p0_r.fDen 1 10000 y2 hy3 W2 ) rfl) ?_
  refine qx_y rfl (y_move_bool rfl) ?_
  obtain ⟨b5, hb6, h⟩ := bind_some h
  refine qx_join 6 (fun tm0 => (upd (upd (upd (upd tm0 0 (.agg #[.int .i64 p0_r.fNum, .int .i64 p0_r.fDen])) 1 (.pointer (some ⟨b1, 0, none⟩))) 2 (.bool false)) 12 (.bool b5))) (fun tm0 => ?_) (fun key => ?_)
  · refine qx_y rfl (y_move_bool rfl) ?_
    obtain ⟨b8, hb9, h⟩ := bind_some h
    refine qx_join 8 (fun tm0 => (upd (upd (upd (upd tm0 0 (.agg #[.int .i64 p0_r.fNum, .int .i64 p0_r.fDen])) 1 (.pointer (some ⟨b1, 0, none⟩))) 2 (.bool false)) 21 (.bool b8))) (fun tm0 => ?_) (fun key => ?_)
    · refine qx_y rfl (y_assign_bool rfl) ?_
      refine qx_nil ?_
      refine ox_nil ?_
      refine ex_then ?_
      refine cx_ret ?_
      obtain rfl := Option.some.inj h
      exact ex_res1 (.inl rfl) rfl (resV_tmp (v := .bool b8) rfl) (fun W2 hW2 => ⟨rfl, hW2.none⟩)
    · clear h; rcases ite_some hb9 with ⟨hp7, h⟩ | ⟨hp7, h⟩
      · refine qx_y (sees_t rfl rfl rfl rfl hp7) (y_fieldAddr fo_23_0 rfl) ?_
        refine qx_y (sees_t rfl rfl rfl rfl hp7) (y_load1 0 (v := .int .i64 p0_r.fNum) sc_3 rfl rfl rfl) ?_
        refine qx_y (sees_t rfl rfl rfl rfl hp7) (y_fieldAddr fo_23_1 rfl) ?_
        refine qx_y (sees_t rfl rfl rfl rfl hp7) (y_load1 0 (v := .int .i64 p0_r.fDen) sc_3 rfl rfl rfl) ?_
        obtain ⟨y10, hy11, h⟩ := bind_some h
        refine qx_y (sees_t rfl rfl rfl rfl hp7) (y_call [.int .i64 p0_r.fNum, .int .i64 p0_r.fDen] go_97 rfl (fun W2 hW2 => calxref03_ratio_ok p0_r.fNum p0_r.fDen y10 hy11 W2 ) rfl) ?_
        refine qx_y (sees_t rfl rfl rfl rfl hp7) (y_loadN 0 [.int .i64 p0_r.fNum, .int .i64 p0_r.fDen] ag_23 rfl rfl rfl) ?_
        refine qx_y (sees_t rfl rfl rfl rfl hp7) (y_eqla (b := ((y10.fNum == p0_r.fNum) && (y10.fDen == p0_r.fDen))) eg_23 rfl rfl (fun _ => (eqS2 fl_23 (part1 sc_3 rfl) (part1 sc_3 rfl) (part1 sc_3 rfl) (part1 sc_3 rfl) (run_equalIn_int _ _ _ _ _ _ _ ui_3) (run_equalIn_int _ _ _ _ _ _ _ ui_3)))) ?_
        refine qx_y rfl (y_pick_tb (congrArg Value.bool hp7) rfl) ?_
        obtain rfl := Option.some.inj h
        exact key _ _ (keep (keep (keep (keep rfl rfl) rfl) rfl) rfl)
      · refine qx_skip (sees_f rfl rfl rfl rfl hp7) ?_
        refine qx_skip (sees_f rfl rfl rfl rfl hp7) ?_
        refine qx_skip (sees_f rfl rfl rfl rfl hp7) ?_
        refine qx_skip (sees_f rfl rfl rfl rfl hp7) ?_
        refine qx_skip (sees_f rfl rfl rfl rfl hp7) ?_
        refine qx_skip (sees_f rfl rfl rfl rfl hp7) ?_
        refine qx_skip (sees_f rfl rfl rfl rfl hp7) ?_
        refine qx_y rfl (y_pick_fb (congrArg Value.bool hp7) rfl) ?_
        obtain rfl := Option.some.inj h
        exact key _ _ (keep (keep (keep (keep rfl rfl) rfl) rfl) rfl)
  · clear h; rcases ite_some hb6 with ⟨hp4, h⟩ | ⟨hp4, h⟩
    · refine qx_y (sees_t rfl rfl rfl rfl hp4) (y_fieldAddr fo_23_0 rfl) ?_
      refine qx_y (sees_t rfl rfl rfl rfl hp4) (y_load1 0 (v := .int .i64 p0_r.fNum) sc_3 rfl rfl rfl) ?_
      refine qx_y (sees_t rfl rfl rfl rfl hp4) (y_fieldAddr fo_23_1 rfl) ?_
      refine qx_y (sees_t rfl rfl rfl rfl hp4) (y_load1 0 (v := .int .i64 p0_r.fDen) sc_3 rfl rfl rfl) ?_
      obtain ⟨y12, hy13, h⟩ := bind_some h
      refine qx_y (sees_t rfl rfl rfl rfl hp4) (y_call [.int .i64 p0_r.fNum, .int .i64 0, .int .i64 p0_r.fDen] go_79 rfl (fun W2 hW2 => calxref03_in_ok p0_r.fNum 0 p0_r.fDen y12 hy13 W2 ) rfl) ?_
      refine qx_y rfl (y_pick_tb (congrArg Value.bool hp4) rfl) ?_
      obtain rfl := Option.some.inj h
      exact key _ _ (keep (keep (keep (keep rfl rfl) rfl) rfl) rfl)
    · refine qx_skip (sees_f rfl rfl rfl rfl hp4) ?_
      refine qx_skip (sees_f rfl rfl rfl rfl hp4) ?_
      refine qx_skip (sees_f rfl rfl rfl rfl hp4) ?_
      refine qx_skip (sees_f rfl rfl rfl rfl hp4) ?_
      refine qx_skip (sees_f rfl rfl rfl rfl hp4) ?_
      refine qx_y rfl (y_pick_fb (congrArg Value.bool hp4) rfl) ?_
      obtain rfl := Option.some.inj h
      exact key _ _ (keep (keep (keep (keep rfl rfl) rfl) rfl) rfl)

end Go.Proofs.Ytepfgdfahinpkaa
