/- The calls hand back what the plain functions say. -/
import Derived.Test.YtepfgdfahinpkaaF
import Derived.Test.YtepfgdfahinpkaaC2
import Derived.Test.YtepfgdfahinpkaaC3
import Derived.Test.YtepfgdfahinpkaaC4
import Derived.Test.YtepfgdfahinpkaaC5
import Derived.Test.YtepfgdfahinpkaaC10
import Derived.Test.YtepfgdfahinpkaaC11
import Derived.Test.YtepfgdfahinpkaaC13
import Derived.Test.YtepfgdfahinpkaaC19
set_option linter.unusedVariables false
set_option maxHeartbeats 4000000
namespace Go.Proofs.Ytepfgdfahinpkaa
open Go.RowKit (Below)
attribute [local irreducible] OX QX CX EX OpY Calls CallsIn

/-! calx/calxref03.AtMost -/
set_option maxRecDepth 100000 in
theorem calxref03_AtMost_ok (p0_barrows : Int) (p1_bad : Int) (p2_taken : Int) (p3_most : Int) (res : (Int × Int)) (h : calxref03_AtMost p0_barrows p1_bad p2_taken p3_most = some res) (W : World)  :
    Calls Try.prog 55 [.int .i64 p0_barrows, .int .i64 p1_bad, .int .i64 p2_taken, .int .i64 p3_most].toArray W fun e W2 => e = .returned (.tuple #[.int .i64 res.1, .int .i64 res.2]) ∧ Ext W W2 [] := by
  unfold calxref03_AtMost at h
  refine calls_enter (m := 29) Try.func55 rfl rfl (Nat.le_of_ble_eq_true rfl) ?_
  refine cx_seq ?_
  refine cx_region ?_
  refine ox_y rfl (y_assign_int rfl) ?_
  refine ox_y rfl (y_assign_int rfl) ?_
  refine ox_nil ?_
  refine ex_then ?_
  refine cx_seq ?_
  refine cx_seq ?_
  refine cx_region ?_
  refine ox_y rfl (y_move_int rfl) ?_
  refine ox_y rfl (y_move_int rfl) ?_
  obtain ⟨y1, hy2, h⟩ := bind_some h
  refine ox_y rfl (y_call [.int .i64 p0_barrows, .int .i64 p1_bad] go_115 rfl (fun W2 hW2 => calxref03_lot_ok p0_barrows p1_bad y1 hy2 W2 ) rfl) ?_
  refine ox_y rfl (y_not rfl) ?_
  refine ox_y rfl (y_move_bool rfl) ?_
  obtain ⟨b4, hb5, h⟩ := bind_some h
  refine ox_join 5 (fun tm0 => (upd (upd (upd (upd (upd (upd (upd tm0 0 (.int .i64 p0_barrows)) 1 (.int .i64 p1_bad)) 2 (.int .i64 p2_taken)) 3 (.int .i64 p3_most)) 8 (.int .i64 0)) 9 (.int .i64 0)) 19 (.bool b4))) (fun tm0 => ?_) (fun key => ?_)
  · refine ox_y rfl (y_move_bool rfl) ?_
    refine ox_join 3 (fun tm0 => (upd (upd (upd (upd (upd (upd (upd tm0 0 (.int .i64 p0_barrows)) 1 (.int .i64 p1_bad)) 2 (.int .i64 p2_taken)) 3 (.int .i64 p3_most)) 8 (.int .i64 0)) 9 (.int .i64 0)) 23 (.bool (b4 || (decide (p3_most < 0)))))) (fun tm0 => ?_) (fun key => ?_)
    · refine ox_nil ?_
      refine ex_then ?_
      rcases ite_some h with ⟨hp7, h⟩ | ⟨hp7, h⟩
      · refine cx_true (congrArg Value.bool hp7) ?_
        refine cx_seq ?_
        refine cx_region ?_
        refine ox_y rfl (y_assign_int rfl) ?_
        refine ox_y rfl (y_assign_int rfl) ?_
        refine ox_nil ?_
        refine ex_then ?_
        refine cx_ret ?_
        refine ex_then_ret ?_
        obtain rfl := Option.some.inj h
        exact ex_res2 (.inl rfl) rfl (resV_tmp (v := .int .i64 0) rfl) (resV_tmp (v := .int .i64 1) rfl) (fun W2 hW2 => ⟨rfl, hW2.none⟩)
      · refine cx_false (congrArg Value.bool hp7) ?_
        refine cx_skip ?_
        refine ex_then ?_
        refine cx_seq ?_
        refine cx_region ?_
        refine ox_y rfl (y_move_int rfl) ?_
        refine ox_y rfl (y_move_int rfl) ?_
        refine ox_y rfl (y_move_int rfl) ?_
        refine ox_y rfl (y_move_int rfl) ?_
        obtain ⟨y8, hy9, h⟩ := bind_some h
        refine ox_y rfl (y_call [.int .i64 p0_barrows, .int .i64 p1_bad, .int .i64 p2_taken, .int .i64 p3_most] go_82 rfl (fun W2 hW2 => calxref03_atMost_ok p0_barrows p1_bad p2_taken p3_most y8 hy9 W2 ) rfl) ?_
        refine ox_y rfl (y_assign_int rfl) ?_
        refine ox_y rfl (y_assign_int rfl) ?_
        refine ox_nil ?_
        refine ex_then ?_
        refine cx_ret ?_
        obtain rfl := Option.some.inj h
        exact ex_res2 (.inl rfl) rfl (resV_tmp (v := .int .i64 y8) rfl) (resV_tmp (v := .int .i64 0) rfl) (fun W2 hW2 => ⟨rfl, hW2.none⟩)
    · rcases bool_cases b4 with hp6 | hp6
      · refine ox_skip (sees_f rfl rfl rfl rfl hp6) ?_
        refine ox_skip (sees_f rfl rfl rfl rfl hp6) ?_
        refine ox_y rfl (y_pick_tb (congrArg Value.bool hp6) rfl) ?_
        exact key _ _ (keep (keep (keep (keep (keep (keep (keep rfl rfl) rfl) rfl) rfl) rfl) rfl) (congrArg Value.bool (or_t hp6)))
      · refine ox_y (sees_t rfl rfl rfl rfl hp6) (y_move_int rfl) ?_
        refine ox_y (sees_t rfl rfl rfl rfl hp6) (y_lss rfl rfl) ?_
        refine ox_y rfl (y_pick_fb (congrArg Value.bool hp6) rfl) ?_
        exact key _ _ (keep (keep (keep (keep (keep (keep (keep rfl rfl) rfl) rfl) rfl) rfl) rfl) (congrArg Value.bool (or_f hp6)))
  · clear h; rcases ite_some hb5 with ⟨hp3, h⟩ | ⟨hp3, h⟩
    · refine ox_skip (sees_f rfl rfl rfl rfl hp3) ?_
      refine ox_skip (sees_f rfl rfl rfl rfl hp3) ?_
      refine ox_skip (sees_f rfl rfl rfl rfl hp3) ?_
      refine ox_skip (sees_f rfl rfl rfl rfl hp3) ?_
      refine ox_y rfl (y_pick_tb (congrArg Value.bool hp3) rfl) ?_
      obtain rfl := Option.some.inj h
      exact key _ _ (keep (keep (keep (keep (keep (keep (keep rfl rfl) rfl) rfl) rfl) rfl) rfl) rfl)
    · refine ox_y (sees_t rfl rfl rfl rfl hp3) (y_move_int rfl) ?_
      refine ox_y (sees_t rfl rfl rfl rfl hp3) (y_move_int rfl) ?_
      obtain ⟨y10, hy11, h⟩ := bind_some h
      refine ox_y (sees_t rfl rfl rfl rfl hp3) (y_call [.int .i64 p2_taken, .int .i64 0, .int .i64 p0_barrows] go_79 rfl (fun W2 hW2 => calxref03_in_ok p2_taken 0 p0_barrows y10 hy11 W2 ) rfl) ?_
      refine ox_y (sees_t rfl rfl rfl rfl hp3) (y_not rfl) ?_
      refine ox_y rfl (y_pick_fb (congrArg Value.bool hp3) rfl) ?_
      obtain rfl := Option.some.inj h
      exact key _ _ (keep (keep (keep (keep (keep (keep (keep rfl rfl) rfl) rfl) rfl) rfl) rfl) rfl)

/-! calx/calxref03.Upper -/
set_option maxRecDepth 100000 in
theorem calxref03_Upper_ok (p0_barrows : Int) (p1_taken : Int) (p2_seen : Int) (p3_at : TRatio) (res : (Int × Int)) (h : calxref03_Upper p0_barrows p1_taken p2_seen p3_at = some res) (W : World)  :
    Calls Try.prog 57 [.int .i64 p0_barrows, .int .i64 p1_taken, .int .i64 p2_seen, .agg #[.int .i64 p3_at.fNum, .int .i64 p3_at.fDen]].toArray W fun e W2 => e = .returned (.tuple #[.int .i64 res.1, .int .i64 res.2]) ∧ Ext W W2 [] := by
  unfold calxref03_Upper at h
  refine calls_enter (m := 54) Try.func57 rfl rfl (Nat.le_of_ble_eq_true rfl) ?_
  refine cx_seq ?_
  refine cx_region ?_
  refine ox_box [.int .i64 p3_at.fNum, .int .i64 p3_at.fDen] rfl rfl rfl (fun b1 => ?_)
  refine ox_y rfl (y_assign_int rfl) ?_
  refine ox_y rfl (y_assign_int rfl) ?_
  refine ox_nil ?_
  refine ex_then ?_
  refine cx_seq ?_
  refine cx_seq ?_
  refine cx_region ?_
  refine ox_y rfl (y_move_int rfl) ?_
  obtain ⟨y2, hy3, h⟩ := bind_some h
  refine ox_y rfl (y_call [.int .i64 p0_barrows, .int .i64 0] go_115 rfl (fun W2 hW2 => calxref03_lot_ok p0_barrows 0 y2 hy3 W2 ) rfl) ?_
  refine ox_y rfl (y_not rfl) ?_
  refine ox_y rfl (y_move_bool rfl) ?_
  obtain ⟨b5, hb6, h⟩ := bind_some h
  refine ox_join 5 (fun tm0 => (upd (upd (upd (upd (upd (upd (upd (upd tm0 0 (.int .i64 p0_barrows)) 1 (.int .i64 p1_taken)) 2 (.int .i64 p2_seen)) 3 (.agg #[.int .i64 p3_at.fNum, .int .i64 p3_at.fDen])) 7 (.pointer (some ⟨b1, 0, none⟩))) 8 (.int .i64 0)) 9 (.int .i64 0)) 20 (.bool b5))) (fun tm0 => ?_) (fun key => ?_)
  · refine ox_y rfl (y_move_bool rfl) ?_
    obtain ⟨b8, hb9, h⟩ := bind_some h
    refine ox_join 5 (fun tm0 => (upd (upd (upd (upd (upd (upd (upd (upd tm0 0 (.int .i64 p0_barrows)) 1 (.int .i64 p1_taken)) 2 (.int .i64 p2_seen)) 3 (.agg #[.int .i64 p3_at.fNum, .int .i64 p3_at.fDen])) 7 (.pointer (some ⟨b1, 0, none⟩))) 8 (.int .i64 0)) 9 (.int .i64 0)) 26 (.bool b8))) (fun tm0 => ?_) (fun key => ?_)
    · refine ox_y rfl (y_move_bool rfl) ?_
      obtain ⟨b11, hb12, h⟩ := bind_some h
      refine ox_join 4 (fun tm0 => (upd (upd (upd (upd (upd (upd (upd (upd tm0 0 (.int .i64 p0_barrows)) 1 (.int .i64 p1_taken)) 2 (.int .i64 p2_seen)) 3 (.agg #[.int .i64 p3_at.fNum, .int .i64 p3_at.fDen])) 7 (.pointer (some ⟨b1, 0, none⟩))) 8 (.int .i64 0)) 9 (.int .i64 0)) 31 (.bool b11))) (fun tm0 => ?_) (fun key => ?_)
      · refine ox_nil ?_
        refine ex_then ?_
        rcases ite_some h with ⟨hp13, h⟩ | ⟨hp13, h⟩
        · refine cx_true (congrArg Value.bool hp13) ?_
          refine cx_seq ?_
          refine cx_region ?_
          refine ox_y rfl (y_assign_int rfl) ?_
          refine ox_y rfl (y_assign_int rfl) ?_
          refine ox_nil ?_
          refine ex_then ?_
          refine cx_ret ?_
          refine ex_then_ret ?_
          obtain rfl := Option.some.inj h
          exact ex_res2 (.inl rfl) rfl (resV_tmp (v := .int .i64 0) rfl) (resV_tmp (v := .int .i64 1) rfl) (fun W2 hW2 => ⟨rfl, hW2.none⟩)
        · refine cx_false (congrArg Value.bool hp13) ?_
          refine cx_skip ?_
          refine ex_then ?_
          refine cx_seq ?_
          refine cx_region ?_
          refine ox_y rfl (y_move_int rfl) ?_
          refine ox_y rfl (y_move_int rfl) ?_
          obtain ⟨y14, hy15, h⟩ := bind_some h
          refine ox_y rfl (y_call [.int .i64 p0_barrows, .int .i64 p1_taken] go_81 rfl (fun W2 hW2 => calxref03_choose_ok p0_barrows p1_taken y14 hy15 W2 ) rfl) ?_
          refine ox_y rfl (y_assign_int rfl) ?_
          refine ox_nil ?_
          refine ex_then ?_
          refine cx_seq ?_
          refine cx_seq ?_
          refine cx_region ?_
          refine ox_y rfl (y_move_int rfl) ?_
          refine ox_y rfl (y_assign_int rfl) ?_
          refine ox_nil ?_
          refine ex_then ?_
          refine cx_block ?_
          obtain ⟨u18, hl23, h⟩ := bind_some h
          refine cx_loop (fun (s : (Int × Int × Int)) L tm => ∃ (tm0 : Nat → Value), L = [cellsR b1 23 [.int .i64 p3_at.fNum, .int .i64 p3_at.fDen]] ∧ tm = (upd (upd (upd (upd (upd (upd (upd (upd (upd (upd tm0 0 (.int .i64 p0_barrows)) 1 (.int .i64 p1_taken)) 2 (.int .i64 p2_seen)) 3 (.agg #[.int .i64 p3_at.fNum, .int .i64 p3_at.fDen])) 7 (.pointer (some ⟨b1, 0, none⟩))) 8 (.int .i64 s.1)) 9 (.int .i64 s.2.1)) 31 (.bool b11)) 10 (.int .i64 y14)) 11 (.int .i64 s.2.2))) (fun | (.inl s), e, L, tm => e = .ret ∧ ∃ (tm0 : Nat → Value), L = [cellsR b1 23 [.int .i64 p3_at.fNum, .int .i64 p3_at.fDen]] ∧ tm = (upd (upd (upd (upd (upd (upd (upd (upd (upd (upd tm0 0 (.int .i64 p0_barrows)) 1 (.int .i64 p1_taken)) 2 (.int .i64 p2_seen)) 3 (.agg #[.int .i64 p3_at.fNum, .int .i64 p3_at.fDen])) 7 (.pointer (some ⟨b1, 0, none⟩))) 8 (.int .i64 s.1)) 9 (.int .i64 s.2.1)) 31 (.bool b11)) 10 (.int .i64 y14)) 11 (.int .i64 s.2.2)) | (.inr s), e, L, tm => e = .exit 0 ∧ ∃ (tm0 : Nat → Value), L = [cellsR b1 23 [.int .i64 p3_at.fNum, .int .i64 p3_at.fDen]] ∧ tm = (upd (upd (upd (upd (upd (upd (upd (upd (upd (upd tm0 0 (.int .i64 p0_barrows)) 1 (.int .i64 p1_taken)) 2 (.int .i64 p2_seen)) 3 (.agg #[.int .i64 p3_at.fNum, .int .i64 p3_at.fDen])) 7 (.pointer (some ⟨b1, 0, none⟩))) 8 (.int .i64 s.1)) 9 (.int .i64 s.2.1)) 31 (.bool b11)) 10 (.int .i64 y14)) 11 (.int .i64 s.2.2))) hl23 ⟨_, rfl, (keep (keep (keep (keep (keep (keep (keep (keep (keep (keep rfl rfl) rfl) rfl) rfl) rfl) rfl) rfl) rfl) rfl) rfl)⟩ ?_ ?_
          · rintro s17 L tm st ⟨tm0_s17, rfl, rfl⟩ h
            unfold calxref03_Upper_l1 at h
            refine cx_seq ?_
            refine cx_seq ?_
            refine cx_region ?_
            refine ox_y rfl (y_move_int rfl) ?_
            refine ox_y rfl (y_gtr rfl rfl) ?_
            refine ox_nil ?_
            refine ex_then ?_
            rcases ite_some h with ⟨hp19, h⟩ | ⟨hp19, h⟩
            · refine cx_true (congrArg Value.bool hp19) ?_
              refine cx_skip ?_
              refine ex_then ?_
              refine cx_seq ?_
              refine cx_block ?_
              refine cx_seq ?_
              refine cx_draws 13 mixed (by kernel_rfl) (by kernel_rfl) ?_
              refine qx_y rfl (y_move_int rfl) ?_
              refine qx_y rfl (y_move_int rfl) ?_
              refine qx_y rfl (y_move_int rfl) ?_
              refine qx_y rfl (y_move_int rfl) ?_
              obtain ⟨y20, hy21, h⟩ := bind_some h
              refine qx_y rfl (y_call [.int .i64 p0_barrows, .int .i64 s17.2.2, .int .i64 p1_taken, .int .i64 p2_seen] go_82 rfl (fun W2 hW2 => calxref03_atMost_ok p0_barrows s17.2.2 p1_taken p2_seen y20 hy21 W2 ) rfl) ?_
              refine qx_y rfl (y_fieldAddr fo_23_1 rfl) ?_
              refine qx_y rfl (y_load1 0 (v := .int .i64 p3_at.fDen) sc_3 rfl rfl rfl) ?_
              refine qx_y rfl (y_mul rfl rfl) ?_
              refine qx_y rfl (y_move_int rfl) ?_
              refine qx_y rfl (y_fieldAddr fo_23_0 rfl) ?_
              refine qx_y rfl (y_load1 0 (v := .int .i64 p3_at.fNum) sc_3 rfl rfl rfl) ?_
              refine qx_y rfl (y_mul rfl rfl) ?_
              refine qx_y rfl (y_geq rfl rfl) ?_
              refine qx_nil ?_
              refine ox_nil ?_
              refine ex_then ?_
              rcases ite_some h with ⟨hp22, h⟩ | ⟨hp22, h⟩
              · refine cx_true (congrArg Value.bool hp22) ?_
                refine cx_seq ?_
                refine cx_region ?_
                refine ox_y rfl (y_move_int rfl) ?_
                refine ox_y rfl (y_assign_int rfl) ?_
                refine ox_y rfl (y_assign_int rfl) ?_
                refine ox_nil ?_
                refine ex_then ?_
                refine cx_ret ?_
                refine ex_block_ret ?_
                refine ex_then_ret ?_
                obtain rfl := Option.some.inj h
                exact ex_stop ⟨rfl, _, rfl, (keep (keep (keep (keep (keep (keep (keep (keep (keep (keep rfl rfl) rfl) rfl) rfl) rfl) rfl) rfl) rfl) rfl) rfl)⟩
              · refine cx_false (congrArg Value.bool hp22) ?_
                refine cx_skip ?_
                refine ex_block ?_
                refine ex_then ?_
                refine cx_region ?_
                refine ox_y rfl (y_move_int rfl) ?_
                refine ox_y rfl (y_sub rfl rfl) ?_
                refine ox_y rfl (y_assign_int rfl) ?_
                refine ox_nil ?_
                obtain rfl := Option.some.inj h
                exact ex_next ⟨_, rfl, (keep (keep (keep (keep (keep (keep (keep (keep (keep (keep rfl rfl) rfl) rfl) rfl) rfl) rfl) rfl) rfl) rfl) rfl)⟩
            · refine cx_false (congrArg Value.bool hp19) ?_
              refine cx_exit ?_
              refine ex_then_exit ?_
              obtain rfl := Option.some.inj h
              exact ex_stop ⟨rfl, _, rfl, (keep (keep (keep (keep (keep (keep (keep (keep (keep (keep rfl rfl) rfl) rfl) rfl) rfl) rfl) rfl) rfl) rfl) rfl)⟩
          · intro e L tm hJ
            rcases u18 with u24 | u25
            · dsimp only at h hJ
              obtain ⟨rfl, tm0_u24, rfl, rfl⟩ := hJ
              refine ⟨(by intro hc; cases hc), ?_⟩
              refine ex_block_ret ?_
              refine ex_then_ret ?_
              obtain rfl := Option.some.inj h
              exact ex_res2 (.inl rfl) rfl (resV_tmp (v := .int .i64 u24.1) rfl) (resV_tmp (v := .int .i64 u24.2.1) rfl) (fun W2 hW2 => ⟨rfl, hW2.none⟩)
            · dsimp only at h hJ
              obtain ⟨rfl, tm0_u25, rfl, rfl⟩ := hJ
              refine ⟨(by intro hc; cases hc), ?_⟩
              refine ex_block_here ?_
              refine ex_then ?_
              refine cx_seq ?_
              refine cx_region ?_
              refine ox_y rfl (y_assign_int rfl) ?_
              refine ox_y rfl (y_assign_int rfl) ?_
              refine ox_nil ?_
              refine ex_then ?_
              refine cx_ret ?_
              obtain rfl := Option.some.inj h
              exact ex_res2 (.inl rfl) rfl (resV_tmp (v := .int .i64 0) rfl) (resV_tmp (v := .int .i64 0) rfl) (fun W2 hW2 => ⟨rfl, hW2.none⟩)
      · clear h; rcases ite_some hb12 with ⟨hp10, h⟩ | ⟨hp10, h⟩
        · refine ox_skip (sees_f rfl rfl rfl rfl hp10) ?_
          refine ox_skip (sees_f rfl rfl rfl rfl hp10) ?_
          refine ox_skip (sees_f rfl rfl rfl rfl hp10) ?_
          refine ox_y rfl (y_pick_tb (congrArg Value.bool hp10) rfl) ?_
          obtain rfl := Option.some.inj h
          exact key _ _ (keep (keep (keep (keep (keep (keep (keep (keep rfl rfl) rfl) rfl) rfl) rfl) rfl) rfl) rfl)
        · refine ox_y (sees_t rfl rfl rfl rfl hp10) (y_loadN 0 [.int .i64 p3_at.fNum, .int .i64 p3_at.fDen] ag_23 rfl rfl rfl) ?_
          obtain ⟨y26, hy27, h⟩ := bind_some h
          refine ox_y (sees_t rfl rfl rfl rfl hp10) (y_call [.agg #[.int .i64 p3_at.fNum, .int .i64 p3_at.fDen]] go_80 rfl (fun W2 hW2 => calxref03_level_ok p3_at y26 hy27 W2 ) rfl) ?_
          refine ox_y (sees_t rfl rfl rfl rfl hp10) (y_not rfl) ?_
          refine ox_y rfl (y_pick_fb (congrArg Value.bool hp10) rfl) ?_
          obtain rfl := Option.some.inj h
          exact key _ _ (keep (keep (keep (keep (keep (keep (keep (keep rfl rfl) rfl) rfl) rfl) rfl) rfl) rfl) rfl)
    · clear h; rcases ite_some hb9 with ⟨hp7, h⟩ | ⟨hp7, h⟩
      · refine ox_skip (sees_f rfl rfl rfl rfl hp7) ?_
        refine ox_skip (sees_f rfl rfl rfl rfl hp7) ?_
        refine ox_skip (sees_f rfl rfl rfl rfl hp7) ?_
        refine ox_skip (sees_f rfl rfl rfl rfl hp7) ?_
        refine ox_y rfl (y_pick_tb (congrArg Value.bool hp7) rfl) ?_
        obtain rfl := Option.some.inj h
        exact key _ _ (keep (keep (keep (keep (keep (keep (keep (keep rfl rfl) rfl) rfl) rfl) rfl) rfl) rfl) rfl)
      · refine ox_y (sees_t rfl rfl rfl rfl hp7) (y_move_int rfl) ?_
        refine ox_y (sees_t rfl rfl rfl rfl hp7) (y_move_int rfl) ?_
        obtain ⟨y28, hy29, h⟩ := bind_some h
        refine ox_y (sees_t rfl rfl rfl rfl hp7) (y_call [.int .i64 p2_seen, .int .i64 0, .int .i64 p1_taken] go_79 rfl (fun W2 hW2 => calxref03_in_ok p2_seen 0 p1_taken y28 hy29 W2 ) rfl) ?_
        refine ox_y (sees_t rfl rfl rfl rfl hp7) (y_not rfl) ?_
        refine ox_y rfl (y_pick_fb (congrArg Value.bool hp7) rfl) ?_
        obtain rfl := Option.some.inj h
        exact key _ _ (keep (keep (keep (keep (keep (keep (keep (keep rfl rfl) rfl) rfl) rfl) rfl) rfl) rfl) rfl)
  · clear h; rcases ite_some hb6 with ⟨hp4, h⟩ | ⟨hp4, h⟩
    · refine ox_skip (sees_f rfl rfl rfl rfl hp4) ?_
      refine ox_skip (sees_f rfl rfl rfl rfl hp4) ?_
      refine ox_skip (sees_f rfl rfl rfl rfl hp4) ?_
      refine ox_skip (sees_f rfl rfl rfl rfl hp4) ?_
      refine ox_y rfl (y_pick_tb (congrArg Value.bool hp4) rfl) ?_
      obtain rfl := Option.some.inj h
      exact key _ _ (keep (keep (keep (keep (keep (keep (keep (keep rfl rfl) rfl) rfl) rfl) rfl) rfl) rfl) rfl)
    · refine ox_y (sees_t rfl rfl rfl rfl hp4) (y_move_int rfl) ?_
      refine ox_y (sees_t rfl rfl rfl rfl hp4) (y_move_int rfl) ?_
      obtain ⟨y30, hy31, h⟩ := bind_some h
      refine ox_y (sees_t rfl rfl rfl rfl hp4) (y_call [.int .i64 p1_taken, .int .i64 0, .int .i64 p0_barrows] go_79 rfl (fun W2 hW2 => calxref03_in_ok p1_taken 0 p0_barrows y30 hy31 W2 ) rfl) ?_
      refine ox_y (sees_t rfl rfl rfl rfl hp4) (y_not rfl) ?_
      refine ox_y rfl (y_pick_fb (congrArg Value.bool hp4) rfl) ?_
      obtain rfl := Option.some.inj h
      exact key _ _ (keep (keep (keep (keep (keep (keep (keep (keep rfl rfl) rfl) rfl) rfl) rfl) rfl) rfl) rfl)

/-! calx/calxref03.Lower -/
set_option maxRecDepth 100000 in
theorem calxref03_Lower_ok (p0_barrows : Int) (p1_taken : Int) (p2_seen : Int) (p3_at : TRatio) (res : (Int × Int)) (h : calxref03_Lower p0_barrows p1_taken p2_seen p3_at = some res) (W : World)  :
    Calls Try.prog 59 [.int .i64 p0_barrows, .int .i64 p1_taken, .int .i64 p2_seen, .agg #[.int .i64 p3_at.fNum, .int .i64 p3_at.fDen]].toArray W fun e W2 => e = .returned (.tuple #[.int .i64 res.1, .int .i64 res.2]) ∧ Ext W W2 [] := by
  unfold calxref03_Lower at h
  refine calls_enter (m := 58) Try.func59 rfl rfl (Nat.le_of_ble_eq_true rfl) ?_
  refine cx_seq ?_
  refine cx_region ?_
  refine ox_box [.int .i64 p3_at.fNum, .int .i64 p3_at.fDen] rfl rfl rfl (fun b1 => ?_)
  refine ox_y rfl (y_assign_int rfl) ?_
  refine ox_y rfl (y_assign_int rfl) ?_
  refine ox_nil ?_
  refine ex_then ?_
  refine cx_seq ?_
  refine cx_seq ?_
  refine cx_region ?_
  refine ox_y rfl (y_move_int rfl) ?_
  obtain ⟨y2, hy3, h⟩ := bind_some h
  refine ox_y rfl (y_call [.int .i64 p0_barrows, .int .i64 0] go_115 rfl (fun W2 hW2 => calxref03_lot_ok p0_barrows 0 y2 hy3 W2 ) rfl) ?_
  refine ox_y rfl (y_not rfl) ?_
  refine ox_y rfl (y_move_bool rfl) ?_
  obtain ⟨b5, hb6, h⟩ := bind_some h
  refine ox_join 5 (fun tm0 => (upd (upd (upd (upd (upd (upd (upd (upd tm0 0 (.int .i64 p0_barrows)) 1 (.int .i64 p1_taken)) 2 (.int .i64 p2_seen)) 3 (.agg #[.int .i64 p3_at.fNum, .int .i64 p3_at.fDen])) 7 (.pointer (some ⟨b1, 0, none⟩))) 8 (.int .i64 0)) 9 (.int .i64 0)) 20 (.bool b5))) (fun tm0 => ?_) (fun key => ?_)
  · refine ox_y rfl (y_move_bool rfl) ?_
    obtain ⟨b8, hb9, h⟩ := bind_some h
    refine ox_join 5 (fun tm0 => (upd (upd (upd (upd (upd (upd (upd (upd tm0 0 (.int .i64 p0_barrows)) 1 (.int .i64 p1_taken)) 2 (.int .i64 p2_seen)) 3 (.agg #[.int .i64 p3_at.fNum, .int .i64 p3_at.fDen])) 7 (.pointer (some ⟨b1, 0, none⟩))) 8 (.int .i64 0)) 9 (.int .i64 0)) 26 (.bool b8))) (fun tm0 => ?_) (fun key => ?_)
    · refine ox_y rfl (y_move_bool rfl) ?_
      obtain ⟨b11, hb12, h⟩ := bind_some h
      refine ox_join 4 (fun tm0 => (upd (upd (upd (upd (upd (upd (upd (upd tm0 0 (.int .i64 p0_barrows)) 1 (.int .i64 p1_taken)) 2 (.int .i64 p2_seen)) 3 (.agg #[.int .i64 p3_at.fNum, .int .i64 p3_at.fDen])) 7 (.pointer (some ⟨b1, 0, none⟩))) 8 (.int .i64 0)) 9 (.int .i64 0)) 31 (.bool b11))) (fun tm0 => ?_) (fun key => ?_)
      · refine ox_nil ?_
        refine ex_then ?_
        rcases ite_some h with ⟨hp13, h⟩ | ⟨hp13, h⟩
        · refine cx_true (congrArg Value.bool hp13) ?_
          refine cx_seq ?_
          refine cx_region ?_
          refine ox_y rfl (y_assign_int rfl) ?_
          refine ox_y rfl (y_assign_int rfl) ?_
          refine ox_nil ?_
          refine ex_then ?_
          refine cx_ret ?_
          refine ex_then_ret ?_
          obtain rfl := Option.some.inj h
          exact ex_res2 (.inl rfl) rfl (resV_tmp (v := .int .i64 0) rfl) (resV_tmp (v := .int .i64 1) rfl) (fun W2 hW2 => ⟨rfl, hW2.none⟩)
        · refine cx_false (congrArg Value.bool hp13) ?_
          refine cx_skip ?_
          refine ex_then ?_
          refine cx_seq ?_
          refine cx_region ?_
          refine ox_y rfl (y_move_int rfl) ?_
          refine ox_y rfl (y_move_int rfl) ?_
          obtain ⟨y14, hy15, h⟩ := bind_some h
          refine ox_y rfl (y_call [.int .i64 p0_barrows, .int .i64 p1_taken] go_81 rfl (fun W2 hW2 => calxref03_choose_ok p0_barrows p1_taken y14 hy15 W2 ) rfl) ?_
          refine ox_y rfl (y_assign_int rfl) ?_
          refine ox_nil ?_
          refine ex_then ?_
          refine cx_seq ?_
          refine cx_seq ?_
          refine cx_region ?_
          refine ox_y rfl (y_assign_int rfl) ?_
          refine ox_nil ?_
          refine ex_then ?_
          refine cx_block ?_
          obtain ⟨u18, hl23, h⟩ := bind_some h
          refine cx_loop (fun (s : (Int × Int × Int)) L tm => ∃ (tm0 : Nat → Value), L = [cellsR b1 23 [.int .i64 p3_at.fNum, .int .i64 p3_at.fDen]] ∧ tm = (upd (upd (upd (upd (upd (upd (upd (upd (upd (upd tm0 0 (.int .i64 p0_barrows)) 1 (.int .i64 p1_taken)) 2 (.int .i64 p2_seen)) 3 (.agg #[.int .i64 p3_at.fNum, .int .i64 p3_at.fDen])) 7 (.pointer (some ⟨b1, 0, none⟩))) 8 (.int .i64 s.1)) 9 (.int .i64 s.2.1)) 31 (.bool b11)) 10 (.int .i64 y14)) 11 (.int .i64 s.2.2))) (fun | (.inl s), e, L, tm => e = .ret ∧ ∃ (tm0 : Nat → Value), L = [cellsR b1 23 [.int .i64 p3_at.fNum, .int .i64 p3_at.fDen]] ∧ tm = (upd (upd (upd (upd (upd (upd (upd (upd (upd (upd tm0 0 (.int .i64 p0_barrows)) 1 (.int .i64 p1_taken)) 2 (.int .i64 p2_seen)) 3 (.agg #[.int .i64 p3_at.fNum, .int .i64 p3_at.fDen])) 7 (.pointer (some ⟨b1, 0, none⟩))) 8 (.int .i64 s.1)) 9 (.int .i64 s.2.1)) 31 (.bool b11)) 10 (.int .i64 y14)) 11 (.int .i64 s.2.2)) | (.inr s), e, L, tm => e = .exit 0 ∧ ∃ (tm0 : Nat → Value), L = [cellsR b1 23 [.int .i64 p3_at.fNum, .int .i64 p3_at.fDen]] ∧ tm = (upd (upd (upd (upd (upd (upd (upd (upd (upd (upd tm0 0 (.int .i64 p0_barrows)) 1 (.int .i64 p1_taken)) 2 (.int .i64 p2_seen)) 3 (.agg #[.int .i64 p3_at.fNum, .int .i64 p3_at.fDen])) 7 (.pointer (some ⟨b1, 0, none⟩))) 8 (.int .i64 s.1)) 9 (.int .i64 s.2.1)) 31 (.bool b11)) 10 (.int .i64 y14)) 11 (.int .i64 s.2.2))) hl23 ⟨_, rfl, (keep (keep (keep (keep (keep (keep (keep (keep (keep (keep rfl rfl) rfl) rfl) rfl) rfl) rfl) rfl) rfl) rfl) rfl)⟩ ?_ ?_
          · rintro s17 L tm st ⟨tm0_s17, rfl, rfl⟩ h
            unfold calxref03_Lower_l1 at h
            refine cx_seq ?_
            refine cx_seq ?_
            refine cx_region ?_
            refine ox_y rfl (y_move_int rfl) ?_
            refine ox_y rfl (y_move_int rfl) ?_
            refine ox_y rfl (y_lss rfl rfl) ?_
            refine ox_nil ?_
            refine ex_then ?_
            rcases ite_some h with ⟨hp19, h⟩ | ⟨hp19, h⟩
            · refine cx_true (congrArg Value.bool hp19) ?_
              refine cx_skip ?_
              refine ex_then ?_
              refine cx_seq ?_
              refine cx_block ?_
              refine cx_seq ?_
              refine cx_draws 16 mixed (by kernel_rfl) (by kernel_rfl) ?_
              refine qx_y rfl (y_move_int rfl) ?_
              refine qx_y rfl (y_move_int rfl) ?_
              refine qx_y rfl (y_move_int rfl) ?_
              refine qx_y rfl (y_move_int rfl) ?_
              refine qx_y rfl (y_move_int rfl) ?_
              refine qx_y rfl (y_sub rfl rfl) ?_
              obtain ⟨y20, hy21, h⟩ := bind_some h
              refine qx_y rfl (y_call [.int .i64 p0_barrows, .int .i64 s17.2.2, .int .i64 p1_taken, .int .i64 (w64 (p2_seen - 1))] go_82 rfl (fun W2 hW2 => calxref03_atMost_ok p0_barrows s17.2.2 p1_taken (w64 (p2_seen - 1)) y20 hy21 W2 ) rfl) ?_
              refine qx_y rfl (y_sub rfl rfl) ?_
              refine qx_y rfl (y_fieldAddr fo_23_1 rfl) ?_
              refine qx_y rfl (y_load1 0 (v := .int .i64 p3_at.fDen) sc_3 rfl rfl rfl) ?_
              refine qx_y rfl (y_mul rfl rfl) ?_
              refine qx_y rfl (y_move_int rfl) ?_
              refine qx_y rfl (y_fieldAddr fo_23_0 rfl) ?_
              refine qx_y rfl (y_load1 0 (v := .int .i64 p3_at.fNum) sc_3 rfl rfl rfl) ?_
              refine qx_y rfl (y_mul rfl rfl) ?_
              refine qx_y rfl (y_geq rfl rfl) ?_
              refine qx_nil ?_
              refine ox_nil ?_
              refine ex_then ?_
              rcases ite_some h with ⟨hp22, h⟩ | ⟨hp22, h⟩
              · refine cx_true (congrArg Value.bool hp22) ?_
                refine cx_seq ?_
                refine cx_region ?_
                refine ox_y rfl (y_move_int rfl) ?_
                refine ox_y rfl (y_assign_int rfl) ?_
                refine ox_y rfl (y_assign_int rfl) ?_
                refine ox_nil ?_
                refine ex_then ?_
                refine cx_ret ?_
                refine ex_block_ret ?_
                refine ex_then_ret ?_
                obtain rfl := Option.some.inj h
                exact ex_stop ⟨rfl, _, rfl, (keep (keep (keep (keep (keep (keep (keep (keep (keep (keep rfl rfl) rfl) rfl) rfl) rfl) rfl) rfl) rfl) rfl) rfl)⟩
              · refine cx_false (congrArg Value.bool hp22) ?_
                refine cx_skip ?_
                refine ex_block ?_
                refine ex_then ?_
                refine cx_region ?_
                refine ox_y rfl (y_move_int rfl) ?_
                refine ox_y rfl (y_add rfl rfl) ?_
                refine ox_y rfl (y_assign_int rfl) ?_
                refine ox_nil ?_
                obtain rfl := Option.some.inj h
                exact ex_next ⟨_, rfl, (keep (keep (keep (keep (keep (keep (keep (keep (keep (keep rfl rfl) rfl) rfl) rfl) rfl) rfl) rfl) rfl) rfl) rfl)⟩
            · refine cx_false (congrArg Value.bool hp19) ?_
              refine cx_exit ?_
              refine ex_then_exit ?_
              obtain rfl := Option.some.inj h
              exact ex_stop ⟨rfl, _, rfl, (keep (keep (keep (keep (keep (keep (keep (keep (keep (keep rfl rfl) rfl) rfl) rfl) rfl) rfl) rfl) rfl) rfl) rfl)⟩
          · intro e L tm hJ
            rcases u18 with u24 | u25
            · dsimp only at h hJ
              obtain ⟨rfl, tm0_u24, rfl, rfl⟩ := hJ
              refine ⟨(by intro hc; cases hc), ?_⟩
              refine ex_block_ret ?_
              refine ex_then_ret ?_
              obtain rfl := Option.some.inj h
              exact ex_res2 (.inl rfl) rfl (resV_tmp (v := .int .i64 u24.1) rfl) (resV_tmp (v := .int .i64 u24.2.1) rfl) (fun W2 hW2 => ⟨rfl, hW2.none⟩)
            · dsimp only at h hJ
              obtain ⟨rfl, tm0_u25, rfl, rfl⟩ := hJ
              refine ⟨(by intro hc; cases hc), ?_⟩
              refine ex_block_here ?_
              refine ex_then ?_
              refine cx_seq ?_
              refine cx_region ?_
              refine ox_y rfl (y_move_int rfl) ?_
              refine ox_y rfl (y_assign_int rfl) ?_
              refine ox_y rfl (y_assign_int rfl) ?_
              refine ox_nil ?_
              refine ex_then ?_
              refine cx_ret ?_
              obtain rfl := Option.some.inj h
              exact ex_res2 (.inl rfl) rfl (resV_tmp (v := .int .i64 p0_barrows) rfl) (resV_tmp (v := .int .i64 0) rfl) (fun W2 hW2 => ⟨rfl, hW2.none⟩)
      · clear h; rcases ite_some hb12 with ⟨hp10, h⟩ | ⟨hp10, h⟩
        · refine ox_skip (sees_f rfl rfl rfl rfl hp10) ?_
          refine ox_skip (sees_f rfl rfl rfl rfl hp10) ?_
          refine ox_skip (sees_f rfl rfl rfl rfl hp10) ?_
          refine ox_y rfl (y_pick_tb (congrArg Value.bool hp10) rfl) ?_
          obtain rfl := Option.some.inj h
          exact key _ _ (keep (keep (keep (keep (keep (keep (keep (keep rfl rfl) rfl) rfl) rfl) rfl) rfl) rfl) rfl)
        · refine ox_y (sees_t rfl rfl rfl rfl hp10) (y_loadN 0 [.int .i64 p3_at.fNum, .int .i64 p3_at.fDen] ag_23 rfl rfl rfl) ?_
          obtain ⟨y26, hy27, h⟩ := bind_some h
          refine ox_y (sees_t rfl rfl rfl rfl hp10) (y_call [.agg #[.int .i64 p3_at.fNum, .int .i64 p3_at.fDen]] go_80 rfl (fun W2 hW2 => calxref03_level_ok p3_at y26 hy27 W2 ) rfl) ?_
          refine ox_y (sees_t rfl rfl rfl rfl hp10) (y_not rfl) ?_
          refine ox_y rfl (y_pick_fb (congrArg Value.bool hp10) rfl) ?_
          obtain rfl := Option.some.inj h
          exact key _ _ (keep (keep (keep (keep (keep (keep (keep (keep rfl rfl) rfl) rfl) rfl) rfl) rfl) rfl) rfl)
    · clear h; rcases ite_some hb9 with ⟨hp7, h⟩ | ⟨hp7, h⟩
      · refine ox_skip (sees_f rfl rfl rfl rfl hp7) ?_
        refine ox_skip (sees_f rfl rfl rfl rfl hp7) ?_
        refine ox_skip (sees_f rfl rfl rfl rfl hp7) ?_
        refine ox_skip (sees_f rfl rfl rfl rfl hp7) ?_
        refine ox_y rfl (y_pick_tb (congrArg Value.bool hp7) rfl) ?_
        obtain rfl := Option.some.inj h
        exact key _ _ (keep (keep (keep (keep (keep (keep (keep (keep rfl rfl) rfl) rfl) rfl) rfl) rfl) rfl) rfl)
      · refine ox_y (sees_t rfl rfl rfl rfl hp7) (y_move_int rfl) ?_
        refine ox_y (sees_t rfl rfl rfl rfl hp7) (y_move_int rfl) ?_
        obtain ⟨y28, hy29, h⟩ := bind_some h
        refine ox_y (sees_t rfl rfl rfl rfl hp7) (y_call [.int .i64 p2_seen, .int .i64 0, .int .i64 p1_taken] go_79 rfl (fun W2 hW2 => calxref03_in_ok p2_seen 0 p1_taken y28 hy29 W2 ) rfl) ?_
        refine ox_y (sees_t rfl rfl rfl rfl hp7) (y_not rfl) ?_
        refine ox_y rfl (y_pick_fb (congrArg Value.bool hp7) rfl) ?_
        obtain rfl := Option.some.inj h
        exact key _ _ (keep (keep (keep (keep (keep (keep (keep (keep rfl rfl) rfl) rfl) rfl) rfl) rfl) rfl) rfl)
  · clear h; rcases ite_some hb6 with ⟨hp4, h⟩ | ⟨hp4, h⟩
    · refine ox_skip (sees_f rfl rfl rfl rfl hp4) ?_
      refine ox_skip (sees_f rfl rfl rfl rfl hp4) ?_
      refine ox_skip (sees_f rfl rfl rfl rfl hp4) ?_
      refine ox_skip (sees_f rfl rfl rfl rfl hp4) ?_
      refine ox_y rfl (y_pick_tb (congrArg Value.bool hp4) rfl) ?_
      obtain rfl := Option.some.inj h
      exact key _ _ (keep (keep (keep (keep (keep (keep (keep (keep rfl rfl) rfl) rfl) rfl) rfl) rfl) rfl) rfl)
    · refine ox_y (sees_t rfl rfl rfl rfl hp4) (y_move_int rfl) ?_
      refine ox_y (sees_t rfl rfl rfl rfl hp4) (y_move_int rfl) ?_
      obtain ⟨y30, hy31, h⟩ := bind_some h
      refine ox_y (sees_t rfl rfl rfl rfl hp4) (y_call [.int .i64 p1_taken, .int .i64 0, .int .i64 p0_barrows] go_79 rfl (fun W2 hW2 => calxref03_in_ok p1_taken 0 p0_barrows y30 hy31 W2 ) rfl) ?_
      refine ox_y (sees_t rfl rfl rfl rfl hp4) (y_not rfl) ?_
      refine ox_y rfl (y_pick_fb (congrArg Value.bool hp4) rfl) ?_
      obtain rfl := Option.some.inj h
      exact key _ _ (keep (keep (keep (keep (keep (keep (keep (keep rfl rfl) rfl) rfl) rfl) rfl) rfl) rfl) rfl)

/-! calx/calxlaw03.SampleLevels -/
set_option maxRecDepth 100000 in
theorem calxlaw03_SampleLevels_ok (p0 : Int) (p1 : Int) (p2 : Int) (p3 : Int) (p4 : TRatio) (res : Bool) (h : calxlaw03_SampleLevels p0 p1 p2 p3 p4 = some res) (W : World)  :
    Calls Try.prog 13 [.int .i64 p0, .int .i64 p1, .int .i64 p2, .int .i64 p3, .agg #[.int .i64 p4.fNum, .int .i64 p4.fDen]].toArray W fun e W2 => e = .returned (.bool res) ∧ Ext W W2 [] := by
  unfold calxlaw03_SampleLevels at h
  refine calls_enter (m := 104) Try.func13 rfl rfl (Nat.le_of_ble_eq_true rfl) ?_
  refine cx_seq ?_
  refine cx_region ?_
  refine ox_box [.int .i64 p4.fNum, .int .i64 p4.fDen] rfl rfl rfl (fun b1 => ?_)
  refine ox_y rfl (y_assign_bool rfl) ?_
  refine ox_nil ?_
  refine ex_then ?_
  refine cx_seq ?_
  refine cx_region ?_
  obtain ⟨y2, hy3, h⟩ := bind_some h
  refine ox_y rfl (y_call [] go_22 rfl (fun W2 hW2 => calxlaw03_head_ok  y2 hy3 W2 ) rfl) ?_
  refine ox_y rfl (y_assign_bool rfl) ?_
  refine ox_nil ?_
  refine ex_then ?_
  refine cx_seq ?_
  refine cx_region ?_
  refine ox_y rfl (y_move_int rfl) ?_
  refine ox_y rfl (y_move_int rfl) ?_
  refine ox_y rfl (y_move_int rfl) ?_
  refine ox_y rfl (y_move_int rfl) ?_
  obtain ⟨y4, hy5, h⟩ := bind_some h
  refine ox_y rfl (y_call [.int .i64 p0, .int .i64 p1, .int .i64 p2, .int .i64 p3] go_54 rfl (fun W2 hW2 => sample_AtMost_ok p0 p1 p2 p3 y4 hy5 W2 ) rfl) ?_
  refine ox_y rfl (y_move_tuple rfl) ?_
  refine ox_y rfl (y_extract (vs := [.int .i64 y4.1, .int .i64 y4.2]) (v := .int .i64 y4.1) rfl rfl) ?_
  refine ox_y rfl (y_extract (vs := [.int .i64 y4.1, .int .i64 y4.2]) (v := .int .i64 y4.2) rfl rfl) ?_
  refine ox_y rfl (y_assign_int rfl) ?_
  refine ox_y rfl (y_assign_int rfl) ?_
  refine ox_nil ?_
  refine ex_then ?_
  refine cx_seq ?_
  refine cx_region ?_
  refine ox_y rfl (y_move_int rfl) ?_
  refine ox_y rfl (y_move_int rfl) ?_
  refine ox_y rfl (y_move_int rfl) ?_
  refine ox_y rfl (y_move_int rfl) ?_
  obtain ⟨y6, hy7, h⟩ := bind_some h
  refine ox_y rfl (y_call [.int .i64 p0, .int .i64 p1, .int .i64 p2, .int .i64 p3] go_55 rfl (fun W2 hW2 => calxref03_AtMost_ok p0 p1 p2 p3 y6 hy7 W2 ) rfl) ?_
  refine ox_y rfl (y_move_tuple rfl) ?_
  refine ox_y rfl (y_extract (vs := [.int .i64 y6.1, .int .i64 y6.2]) (v := .int .i64 y6.1) rfl rfl) ?_
  refine ox_y rfl (y_extract (vs := [.int .i64 y6.1, .int .i64 y6.2]) (v := .int .i64 y6.2) rfl rfl) ?_
  refine ox_y rfl (y_assign_int rfl) ?_
  refine ox_y rfl (y_assign_int rfl) ?_
  refine ox_nil ?_
  refine ex_then ?_
  refine cx_seq ?_
  refine cx_region ?_
  refine ox_y rfl (y_move_int rfl) ?_
  refine ox_y rfl (y_move_int rfl) ?_
  refine ox_y rfl (y_move_int rfl) ?_
  refine ox_y rfl (y_loadN 0 [.int .i64 p4.fNum, .int .i64 p4.fDen] ag_23 rfl rfl rfl) ?_
  obtain ⟨y8, hy9, h⟩ := bind_some h
  refine ox_y rfl (y_call [.int .i64 p0, .int .i64 p2, .int .i64 p3, .agg #[.int .i64 p4.fNum, .int .i64 p4.fDen]] go_56 rfl (fun W2 hW2 => sample_Upper_ok p0 p2 p3 p4 y8 hy9 W2 ) rfl) ?_
  refine ox_y rfl (y_move_tuple rfl) ?_
  refine ox_y rfl (y_extract (vs := [.int .i64 y8.1, .int .i64 y8.2]) (v := .int .i64 y8.1) rfl rfl) ?_
  refine ox_y rfl (y_extract (vs := [.int .i64 y8.1, .int .i64 y8.2]) (v := .int .i64 y8.2) rfl rfl) ?_
  refine ox_y rfl (y_assign_int rfl) ?_
  refine ox_y rfl (y_assign_int rfl) ?_
  refine ox_nil ?_
  refine ex_then ?_
  refine cx_seq ?_
  refine cx_region ?_
  refine ox_y rfl (y_move_int rfl) ?_
  refine ox_y rfl (y_move_int rfl) ?_
  refine ox_y rfl (y_move_int rfl) ?_
  refine ox_y rfl (y_loadN 0 [.int .i64 p4.fNum, .int .i64 p4.fDen] ag_23 rfl rfl rfl) ?_
  obtain ⟨y10, hy11, h⟩ := bind_some h
  refine ox_y rfl (y_call [.int .i64 p0, .int .i64 p2, .int .i64 p3, .agg #[.int .i64 p4.fNum, .int .i64 p4.fDen]] go_57 rfl (fun W2 hW2 => calxref03_Upper_ok p0 p2 p3 p4 y10 hy11 W2 ) rfl) ?_
  refine ox_y rfl (y_move_tuple rfl) ?_
  refine ox_y rfl (y_extract (vs := [.int .i64 y10.1, .int .i64 y10.2]) (v := .int .i64 y10.1) rfl rfl) ?_
  refine ox_y rfl (y_extract (vs := [.int .i64 y10.1, .int .i64 y10.2]) (v := .int .i64 y10.2) rfl rfl) ?_
  refine ox_y rfl (y_assign_int rfl) ?_
  refine ox_y rfl (y_assign_int rfl) ?_
  refine ox_nil ?_
  refine ex_then ?_
  refine cx_seq ?_
  refine cx_region ?_
  refine ox_y rfl (y_move_int rfl) ?_
  refine ox_y rfl (y_move_int rfl) ?_
  refine ox_y rfl (y_move_int rfl) ?_
  refine ox_y rfl (y_loadN 0 [.int .i64 p4.fNum, .int .i64 p4.fDen] ag_23 rfl rfl rfl) ?_
  obtain ⟨y12, hy13, h⟩ := bind_some h
  refine ox_y rfl (y_call [.int .i64 p0, .int .i64 p2, .int .i64 p3, .agg #[.int .i64 p4.fNum, .int .i64 p4.fDen]] go_58 rfl (fun W2 hW2 => sample_Lower_ok p0 p2 p3 p4 y12 hy13 W2 ) rfl) ?_
  refine ox_y rfl (y_move_tuple rfl) ?_
  refine ox_y rfl (y_extract (vs := [.int .i64 y12.1, .int .i64 y12.2]) (v := .int .i64 y12.1) rfl rfl) ?_
  refine ox_y rfl (y_extract (vs := [.int .i64 y12.1, .int .i64 y12.2]) (v := .int .i64 y12.2) rfl rfl) ?_
  refine ox_y rfl (y_assign_int rfl) ?_
  refine ox_y rfl (y_assign_int rfl) ?_
  refine ox_nil ?_
  refine ex_then ?_
  refine cx_seq ?_
  refine cx_region ?_
  refine ox_y rfl (y_move_int rfl) ?_
  refine ox_y rfl (y_move_int rfl) ?_
  refine ox_y rfl (y_move_int rfl) ?_
  refine ox_y rfl (y_loadN 0 [.int .i64 p4.fNum, .int .i64 p4.fDen] ag_23 rfl rfl rfl) ?_
  obtain ⟨y14, hy15, h⟩ := bind_some h
  refine ox_y rfl (y_call [.int .i64 p0, .int .i64 p2, .int .i64 p3, .agg #[.int .i64 p4.fNum, .int .i64 p4.fDen]] go_59 rfl (fun W2 hW2 => calxref03_Lower_ok p0 p2 p3 p4 y14 hy15 W2 ) rfl) ?_
  refine ox_y rfl (y_move_tuple rfl) ?_
  refine ox_y rfl (y_extract (vs := [.int .i64 y14.1, .int .i64 y14.2]) (v := .int .i64 y14.1) rfl rfl) ?_
  refine ox_y rfl (y_extract (vs := [.int .i64 y14.1, .int .i64 y14.2]) (v := .int .i64 y14.2) rfl rfl) ?_
  refine ox_y rfl (y_assign_int rfl) ?_
  refine ox_y rfl (y_assign_int rfl) ?_
  refine ox_nil ?_
  refine ex_then ?_
  refine cx_seq ?_
  refine cx_region ?_
  refine ox_y rfl (y_move_bool rfl) ?_
  refine ox_y rfl (y_move_bool rfl) ?_
  refine ox_join 4 (fun tm0 => (upd (upd (upd (upd (upd (upd (upd (upd (upd (upd (upd (upd (upd (upd (upd (upd (upd (upd (upd (upd (upd tm0 0 (.int .i64 p0)) 1 (.int .i64 p1)) 2 (.int .i64 p2)) 3 (.int .i64 p3)) 4 (.agg #[.int .i64 p4.fNum, .int .i64 p4.fDen])) 9 (.pointer (some ⟨b1, 0, none⟩))) 10 (.bool false)) 11 (.bool y2)) 12 (.int .i64 y4.1)) 13 (.int .i64 y4.2)) 14 (.int .i64 y6.1)) 15 (.int .i64 y6.2)) 16 (.int .i64 y8.1)) 17 (.int .i64 y8.2)) 18 (.int .i64 y10.1)) 19 (.int .i64 y10.2)) 20 (.int .i64 y12.1)) 21 (.int .i64 y12.2)) 22 (.int .i64 y14.1)) 23 (.int .i64 y14.2)) 78 (.bool (y2 && (y4.1 == y6.1))))) (fun tm0 => ?_) (fun key => ?_)
  · refine ox_y rfl (y_move_bool rfl) ?_
    refine ox_join 4 (fun tm0 => (upd (upd (upd (upd (upd (upd (upd (upd (upd (upd (upd (upd (upd (upd (upd (upd (upd (upd (upd (upd (upd tm0 0 (.int .i64 p0)) 1 (.int .i64 p1)) 2 (.int .i64 p2)) 3 (.int .i64 p3)) 4 (.agg #[.int .i64 p4.fNum, .int .i64 p4.fDen])) 9 (.pointer (some ⟨b1, 0, none⟩))) 10 (.bool false)) 11 (.bool y2)) 12 (.int .i64 y4.1)) 13 (.int .i64 y4.2)) 14 (.int .i64 y6.1)) 15 (.int .i64 y6.2)) 16 (.int .i64 y8.1)) 17 (.int .i64 y8.2)) 18 (.int .i64 y10.1)) 19 (.int .i64 y10.2)) 20 (.int .i64 y12.1)) 21 (.int .i64 y12.2)) 22 (.int .i64 y14.1)) 23 (.int .i64 y14.2)) 83 (.bool ((y2 && (y4.1 == y6.1)) && (y4.2 == y6.2))))) (fun tm0 => ?_) (fun key => ?_)
    · refine ox_y rfl (y_move_bool rfl) ?_
      refine ox_join 4 (fun tm0 => (upd (upd (upd (upd (upd (upd (upd (upd (upd (upd (upd (upd (upd (upd (upd (upd (upd (upd (upd (upd (upd tm0 0 (.int .i64 p0)) 1 (.int .i64 p1)) 2 (.int .i64 p2)) 3 (.int .i64 p3)) 4 (.agg #[.int .i64 p4.fNum, .int .i64 p4.fDen])) 9 (.pointer (some ⟨b1, 0, none⟩))) 10 (.bool false)) 11 (.bool y2)) 12 (.int .i64 y4.1)) 13 (.int .i64 y4.2)) 14 (.int .i64 y6.1)) 15 (.int .i64 y6.2)) 16 (.int .i64 y8.1)) 17 (.int .i64 y8.2)) 18 (.int .i64 y10.1)) 19 (.int .i64 y10.2)) 20 (.int .i64 y12.1)) 21 (.int .i64 y12.2)) 22 (.int .i64 y14.1)) 23 (.int .i64 y14.2)) 88 (.bool (((y2 && (y4.1 == y6.1)) && (y4.2 == y6.2)) && (y8.1 == y10.1))))) (fun tm0 => ?_) (fun key => ?_)
      · refine ox_y rfl (y_move_bool rfl) ?_
        refine ox_join 4 (fun tm0 => (upd (upd (upd (upd (upd (upd (upd (upd (upd (upd (upd (upd (upd (upd (upd (upd (upd (upd (upd (upd (upd tm0 0 (.int .i64 p0)) 1 (.int .i64 p1)) 2 (.int .i64 p2)) 3 (.int .i64 p3)) 4 (.agg #[.int .i64 p4.fNum, .int .i64 p4.fDen])) 9 (.pointer (some ⟨b1, 0, none⟩))) 10 (.bool false)) 11 (.bool y2)) 12 (.int .i64 y4.1)) 13 (.int .i64 y4.2)) 14 (.int .i64 y6.1)) 15 (.int .i64 y6.2)) 16 (.int .i64 y8.1)) 17 (.int .i64 y8.2)) 18 (.int .i64 y10.1)) 19 (.int .i64 y10.2)) 20 (.int .i64 y12.1)) 21 (.int .i64 y12.2)) 22 (.int .i64 y14.1)) 23 (.int .i64 y14.2)) 93 (.bool ((((y2 && (y4.1 == y6.1)) && (y4.2 == y6.2)) && (y8.1 == y10.1)) && (y8.2 == y10.2))))) (fun tm0 => ?_) (fun key => ?_)
        · refine ox_y rfl (y_move_bool rfl) ?_
          refine ox_join 4 (fun tm0 => (upd (upd (upd (upd (upd (upd (upd (upd (upd (upd (upd (upd (upd (upd (upd (upd (upd (upd (upd (upd (upd tm0 0 (.int .i64 p0)) 1 (.int .i64 p1)) 2 (.int .i64 p2)) 3 (.int .i64 p3)) 4 (.agg #[.int .i64 p4.fNum, .int .i64 p4.fDen])) 9 (.pointer (some ⟨b1, 0, none⟩))) 10 (.bool false)) 11 (.bool y2)) 12 (.int .i64 y4.1)) 13 (.int .i64 y4.2)) 14 (.int .i64 y6.1)) 15 (.int .i64 y6.2)) 16 (.int .i64 y8.1)) 17 (.int .i64 y8.2)) 18 (.int .i64 y10.1)) 19 (.int .i64 y10.2)) 20 (.int .i64 y12.1)) 21 (.int .i64 y12.2)) 22 (.int .i64 y14.1)) 23 (.int .i64 y14.2)) 98 (.bool (((((y2 && (y4.1 == y6.1)) && (y4.2 == y6.2)) && (y8.1 == y10.1)) && (y8.2 == y10.2)) && (y12.1 == y14.1))))) (fun tm0 => ?_) (fun key => ?_)
          · refine ox_y rfl (y_move_bool rfl) ?_
            refine ox_join 4 (fun tm0 => (upd (upd (upd (upd (upd (upd (upd (upd (upd (upd (upd (upd (upd (upd (upd (upd (upd (upd (upd (upd (upd tm0 0 (.int .i64 p0)) 1 (.int .i64 p1)) 2 (.int .i64 p2)) 3 (.int .i64 p3)) 4 (.agg #[.int .i64 p4.fNum, .int .i64 p4.fDen])) 9 (.pointer (some ⟨b1, 0, none⟩))) 10 (.bool false)) 11 (.bool y2)) 12 (.int .i64 y4.1)) 13 (.int .i64 y4.2)) 14 (.int .i64 y6.1)) 15 (.int .i64 y6.2)) 16 (.int .i64 y8.1)) 17 (.int .i64 y8.2)) 18 (.int .i64 y10.1)) 19 (.int .i64 y10.2)) 20 (.int .i64 y12.1)) 21 (.int .i64 y12.2)) 22 (.int .i64 y14.1)) 23 (.int .i64 y14.2)) 103 (.bool ((((((y2 && (y4.1 == y6.1)) && (y4.2 == y6.2)) && (y8.1 == y10.1)) && (y8.2 == y10.2)) && (y12.1 == y14.1)) && (y12.2 == y14.2))))) (fun tm0 => ?_) (fun key => ?_)
            · refine ox_y rfl (y_assign_bool rfl) ?_
              refine ox_nil ?_
              refine ex_then ?_
              refine cx_ret ?_
              obtain rfl := Option.some.inj h
              exact ex_res1 (.inl rfl) rfl (resV_tmp (v := .bool ((((((y2 && (y4.1 == y6.1)) && (y4.2 == y6.2)) && (y8.1 == y10.1)) && (y8.2 == y10.2)) && (y12.1 == y14.1)) && (y12.2 == y14.2))) rfl) (fun W2 hW2 => ⟨rfl, hW2.none⟩)
            · rcases bool_cases (((((y2 && (y4.1 == y6.1)) && (y4.2 == y6.2)) && (y8.1 == y10.1)) && (y8.2 == y10.2)) && (y12.1 == y14.1)) with hp21 | hp21
              · refine ox_y (sees_t rfl rfl rfl rfl hp21) (y_move_int rfl) ?_
                refine ox_y (sees_t rfl rfl rfl rfl hp21) (y_move_int rfl) ?_
                refine ox_y (sees_t rfl rfl rfl rfl hp21) (y_eql rfl rfl) ?_
                refine ox_y rfl (y_pick_tb (congrArg Value.bool hp21) rfl) ?_
                exact key _ _ (keep (keep (keep (keep (keep (keep (keep (keep (keep (keep (keep (keep (keep (keep (keep (keep (keep (keep (keep (keep (keep rfl rfl) rfl) rfl) rfl) rfl) rfl) rfl) rfl) rfl) rfl) rfl) rfl) rfl) rfl) rfl) rfl) rfl) rfl) rfl) rfl) (congrArg Value.bool (and_t hp21)))
              · refine ox_skip (sees_f rfl rfl rfl rfl hp21) ?_
                refine ox_skip (sees_f rfl rfl rfl rfl hp21) ?_
                refine ox_skip (sees_f rfl rfl rfl rfl hp21) ?_
                refine ox_y rfl (y_pick_fb (congrArg Value.bool hp21) rfl) ?_
                exact key _ _ (keep (keep (keep (keep (keep (keep (keep (keep (keep (keep (keep (keep (keep (keep (keep (keep (keep (keep (keep (keep (keep rfl rfl) rfl) rfl) rfl) rfl) rfl) rfl) rfl) rfl) rfl) rfl) rfl) rfl) rfl) rfl) rfl) rfl) rfl) rfl) rfl) (congrArg Value.bool (and_f hp21)))
          · rcases bool_cases ((((y2 && (y4.1 == y6.1)) && (y4.2 == y6.2)) && (y8.1 == y10.1)) && (y8.2 == y10.2)) with hp20 | hp20
            · refine ox_y (sees_t rfl rfl rfl rfl hp20) (y_move_int rfl) ?_
              refine ox_y (sees_t rfl rfl rfl rfl hp20) (y_move_int rfl) ?_
              refine ox_y (sees_t rfl rfl rfl rfl hp20) (y_eql rfl rfl) ?_
              refine ox_y rfl (y_pick_tb (congrArg Value.bool hp20) rfl) ?_
              exact key _ _ (keep (keep (keep (keep (keep (keep (keep (keep (keep (keep (keep (keep (keep (keep (keep (keep (keep (keep (keep (keep (keep rfl rfl) rfl) rfl) rfl) rfl) rfl) rfl) rfl) rfl) rfl) rfl) rfl) rfl) rfl) rfl) rfl) rfl) rfl) rfl) rfl) (congrArg Value.bool (and_t hp20)))
            · refine ox_skip (sees_f rfl rfl rfl rfl hp20) ?_
              refine ox_skip (sees_f rfl rfl rfl rfl hp20) ?_
              refine ox_skip (sees_f rfl rfl rfl rfl hp20) ?_
              refine ox_y rfl (y_pick_fb (congrArg Value.bool hp20) rfl) ?_
              exact key _ _ (keep (keep (keep (keep (keep (keep (keep (keep (keep (keep (keep (keep (keep (keep (keep (keep (keep (keep (keep (keep (keep rfl rfl) rfl) rfl) rfl) rfl) rfl) rfl) rfl) rfl) rfl) rfl) rfl) rfl) rfl) rfl) rfl) rfl) rfl) rfl) rfl) (congrArg Value.bool (and_f hp20)))
        · rcases bool_cases (((y2 && (y4.1 == y6.1)) && (y4.2 == y6.2)) && (y8.1 == y10.1)) with hp19 | hp19
          · refine ox_y (sees_t rfl rfl rfl rfl hp19) (y_move_int rfl) ?_
            refine ox_y (sees_t rfl rfl rfl rfl hp19) (y_move_int rfl) ?_
            refine ox_y (sees_t rfl rfl rfl rfl hp19) (y_eql rfl rfl) ?_
            refine ox_y rfl (y_pick_tb (congrArg Value.bool hp19) rfl) ?_
            exact key _ _ (keep (keep (keep (keep (keep (keep (keep (keep (keep (keep (keep (keep (keep (keep (keep (keep (keep (keep (keep (keep (keep rfl rfl) rfl) rfl) rfl) rfl) rfl) rfl) rfl) rfl) rfl) rfl) rfl) rfl) rfl) rfl) rfl) rfl) rfl) rfl) rfl) (congrArg Value.bool (and_t hp19)))
          · refine ox_skip (sees_f rfl rfl rfl rfl hp19) ?_
            refine ox_skip (sees_f rfl rfl rfl rfl hp19) ?_
            refine ox_skip (sees_f rfl rfl rfl rfl hp19) ?_
            refine ox_y rfl (y_pick_fb (congrArg Value.bool hp19) rfl) ?_
            exact key _ _ (keep (keep (keep (keep (keep (keep (keep (keep (keep (keep (keep (keep (keep (keep (keep (keep (keep (keep (keep (keep (keep rfl rfl) rfl) rfl) rfl) rfl) rfl) rfl) rfl) rfl) rfl) rfl) rfl) rfl) rfl) rfl) rfl) rfl) rfl) rfl) rfl) (congrArg Value.bool (and_f hp19)))
      · rcases bool_cases ((y2 && (y4.1 == y6.1)) && (y4.2 == y6.2)) with hp18 | hp18
        · refine ox_y (sees_t rfl rfl rfl rfl hp18) (y_move_int rfl) ?_
          refine ox_y (sees_t rfl rfl rfl rfl hp18) (y_move_int rfl) ?_
          refine ox_y (sees_t rfl rfl rfl rfl hp18) (y_eql rfl rfl) ?_
          refine ox_y rfl (y_pick_tb (congrArg Value.bool hp18) rfl) ?_
          exact key _ _ (keep (keep (keep (keep (keep (keep (keep (keep (keep (keep (keep (keep (keep (keep (keep (keep (keep (keep (keep (keep (keep rfl rfl) rfl) rfl) rfl) rfl) rfl) rfl) rfl) rfl) rfl) rfl) rfl) rfl) rfl) rfl) rfl) rfl) rfl) rfl) rfl) (congrArg Value.bool (and_t hp18)))
        · refine ox_skip (sees_f rfl rfl rfl rfl hp18) ?_
          refine ox_skip (sees_f rfl rfl rfl rfl hp18) ?_
          refine ox_skip (sees_f rfl rfl rfl rfl hp18) ?_
          refine ox_y rfl (y_pick_fb (congrArg Value.bool hp18) rfl) ?_
          exact key _ _ (keep (keep (keep (keep (keep (keep (keep (keep (keep (keep (keep (keep (keep (keep (keep (keep (keep (keep (keep (keep (keep rfl rfl) rfl) rfl) rfl) rfl) rfl) rfl) rfl) rfl) rfl) rfl) rfl) rfl) rfl) rfl) rfl) rfl) rfl) rfl) rfl) (congrArg Value.bool (and_f hp18)))
    · rcases bool_cases (y2 && (y4.1 == y6.1)) with hp17 | hp17
      · refine ox_y (sees_t rfl rfl rfl rfl hp17) (y_move_int rfl) ?_
        refine ox_y (sees_t rfl rfl rfl rfl hp17) (y_move_int rfl) ?_
        refine ox_y (sees_t rfl rfl rfl rfl hp17) (y_eql rfl rfl) ?_
        refine ox_y rfl (y_pick_tb (congrArg Value.bool hp17) rfl) ?_
        exact key _ _ (keep (keep (keep (keep (keep (keep (keep (keep (keep (keep (keep (keep (keep (keep (keep (keep (keep (keep (keep (keep (keep rfl rfl) rfl) rfl) rfl) rfl) rfl) rfl) rfl) rfl) rfl) rfl) rfl) rfl) rfl) rfl) rfl) rfl) rfl) rfl) rfl) (congrArg Value.bool (and_t hp17)))
      · refine ox_skip (sees_f rfl rfl rfl rfl hp17) ?_
        refine ox_skip (sees_f rfl rfl rfl rfl hp17) ?_
        refine ox_skip (sees_f rfl rfl rfl rfl hp17) ?_
        refine ox_y rfl (y_pick_fb (congrArg Value.bool hp17) rfl) ?_
        exact key _ _ (keep (keep (keep (keep (keep (keep (keep (keep (keep (keep (keep (keep (keep (keep (keep (keep (keep (keep (keep (keep (keep rfl rfl) rfl) rfl) rfl) rfl) rfl) rfl) rfl) rfl) rfl) rfl) rfl) rfl) rfl) rfl) rfl) rfl) rfl) rfl) rfl) (congrArg Value.bool (and_f hp17)))
  · rcases bool_cases y2 with hp16 | hp16
    · refine ox_y (sees_t rfl rfl rfl rfl hp16) (y_move_int rfl) ?_
      refine ox_y (sees_t rfl rfl rfl rfl hp16) (y_move_int rfl) ?_
      refine ox_y (sees_t rfl rfl rfl rfl hp16) (y_eql rfl rfl) ?_
      refine ox_y rfl (y_pick_tb (congrArg Value.bool hp16) rfl) ?_
      exact key _ _ (keep (keep (keep (keep (keep (keep (keep (keep (keep (keep (keep (keep (keep (keep (keep (keep (keep (keep (keep (keep (keep rfl rfl) rfl) rfl) rfl) rfl) rfl) rfl) rfl) rfl) rfl) rfl) rfl) rfl) rfl) rfl) rfl) rfl) rfl) rfl) rfl) (congrArg Value.bool (and_t hp16)))
    · refine ox_skip (sees_f rfl rfl rfl rfl hp16) ?_
      refine ox_skip (sees_f rfl rfl rfl rfl hp16) ?_
      refine ox_skip (sees_f rfl rfl rfl rfl hp16) ?_
      refine ox_y rfl (y_pick_fb (congrArg Value.bool hp16) rfl) ?_
      exact key _ _ (keep (keep (keep (keep (keep (keep (keep (keep (keep (keep (keep (keep (keep (keep (keep (keep (keep (keep (keep (keep (keep rfl rfl) rfl) rfl) rfl) rfl) rfl) rfl) rfl) rfl) rfl) rfl) rfl) rfl) rfl) rfl) rfl) rfl) rfl) rfl) rfl) (congrArg Value.bool (and_f hp16)))

end Go.Proofs.Ytepfgdfahinpkaa
