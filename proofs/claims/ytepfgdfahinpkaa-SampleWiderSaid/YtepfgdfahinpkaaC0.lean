/- The calls hand back what the plain functions say. -/
import Derived.Test.YtepfgdfahinpkaaF
set_option linter.unusedVariables false
set_option maxHeartbeats 4000000
namespace Go.Proofs.Ytepfgdfahinpkaa
open Go.RowKit (Below)
attribute [local irreducible] OX QX CX EX OpY Calls CallsIn

/-! calx/sample.within -/
set_option maxRecDepth 100000 in
theorem sample_within_ok (p0_n : Int) (p1_lo : Int) (p2_hi : Int) (res : Bool) (h : sample_within p0_n p1_lo p2_hi = some res) (W : World)  :
    Calls Try.prog 74 [.int .i64 p0_n, .int .i64 p1_lo, .int .i64 p2_hi].toArray W fun e W2 => e = .returned (.bool res) ∧ Ext W W2 [] := by
  unfold sample_within at h
  refine calls_enter (m := 15) Try.func74 rfl rfl (Nat.le_of_ble_eq_true rfl) ?_
  refine cx_seq ?_
  refine cx_region ?_
  refine ox_y rfl (y_assign_bool rfl) ?_
  refine ox_nil ?_
  refine ex_then ?_
  refine cx_seq ?_
  refine cx_region ?_
  refine ox_y rfl (y_move_int rfl) ?_
  refine ox_y rfl (y_move_int rfl) ?_
  refine ox_y rfl (y_leq rfl rfl) ?_
  refine ox_y rfl (y_move_bool rfl) ?_
  refine ox_join 4 (fun tm0 => (upd (upd (upd (upd (upd tm0 0 (.int .i64 p0_n)) 1 (.int .i64 p1_lo)) 2 (.int .i64 p2_hi)) 6 (.bool false)) 14 (.bool ((decide (p1_lo ≤ p0_n)) && (decide (p0_n ≤ p2_hi)))))) (fun tm0 => ?_) (fun key => ?_)
  · refine ox_y rfl (y_assign_bool rfl) ?_
    refine ox_nil ?_
    refine ex_then ?_
    refine cx_ret ?_
    obtain rfl := Option.some.inj h
    exact ex_res1 (.inl rfl) rfl (resV_tmp (v := .bool ((decide (p1_lo ≤ p0_n)) && (decide (p0_n ≤ p2_hi)))) rfl) (fun W2 hW2 => ⟨rfl, hW2.none⟩)
  · rcases bool_cases (decide (p1_lo ≤ p0_n)) with hp1 | hp1
    · refine ox_y (sees_t rfl rfl rfl rfl hp1) (y_move_int rfl) ?_
      refine ox_y (sees_t rfl rfl rfl rfl hp1) (y_move_int rfl) ?_
      refine ox_y (sees_t rfl rfl rfl rfl hp1) (y_leq rfl rfl) ?_
      refine ox_y rfl (y_pick_tb (congrArg Value.bool hp1) rfl) ?_
      exact key _ _ (keep (keep (keep (keep (keep rfl rfl) rfl) rfl) rfl) (congrArg Value.bool (and_t hp1)))
    · refine ox_skip (sees_f rfl rfl rfl rfl hp1) ?_
      refine ox_skip (sees_f rfl rfl rfl rfl hp1) ?_
      refine ox_skip (sees_f rfl rfl rfl rfl hp1) ?_
      refine ox_y rfl (y_pick_fb (congrArg Value.bool hp1) rfl) ?_
      exact key _ _ (keep (keep (keep (keep (keep rfl rfl) rfl) rfl) rfl) (congrArg Value.bool (and_f hp1)))

/-! calx/sample.ratio -/
set_option maxRecDepth 100000 in
theorem sample_ratio_ok (p0_num : Int) (p1_den : Int) (res : TRatio) (h : sample_ratio p0_num p1_den = some res) (W : World)  :
    Calls Try.prog 95 [.int .i64 p0_num, .int .i64 p1_den].toArray W fun e W2 => e = .returned (.agg #[.int .i64 res.fNum, .int .i64 res.fDen]) ∧ Ext W W2 [] := by
  unfold sample_ratio at h
  refine calls_enter (m := 22) Try.func95 rfl rfl (Nat.le_of_ble_eq_true rfl) ?_
  refine cx_seq ?_
  refine cx_region ?_
  refine ox_alloc ze_23 rfl (fun b1 => ?_)
  refine ox_nil ?_
  refine ex_then ?_
  refine cx_seq ?_
  refine cx_region ?_
  refine ox_y rfl (y_move_int rfl) ?_
  refine ox_y rfl (y_move_int rfl) ?_
  refine ox_y rfl (y_assign_int rfl) ?_
  refine ox_y rfl (y_assign_int rfl) ?_
  refine ox_nil ?_
  refine ex_then ?_
  refine cx_seq ?_
  refine cx_block ?_
  obtain ⟨u4, hl7, h⟩ := bind_some h
  refine cx_loop (fun (s : (Int × Int)) L tm => ∃ (tm0 : Nat → Value), L = [cellsR b1 23 [.int .i64 0, .int .i64 0]] ∧ tm = (upd (upd (upd (upd (upd tm0 0 (.int .i64 p0_num)) 1 (.int .i64 p1_den)) 4 (.pointer (some ⟨b1, 0, none⟩))) 5 (.int .i64 s.1)) 6 (.int .i64 s.2))) (fun s e L tm => e = .exit 0 ∧ ∃ (tm0 : Nat → Value), L = [cellsR b1 23 [.int .i64 0, .int .i64 0]] ∧ tm = (upd (upd (upd (upd (upd tm0 0 (.int .i64 p0_num)) 1 (.int .i64 p1_den)) 4 (.pointer (some ⟨b1, 0, none⟩))) 5 (.int .i64 s.1)) 6 (.int .i64 s.2))) hl7 ⟨_, rfl, (keep (keep (keep (keep (keep rfl rfl) rfl) rfl) rfl) rfl)⟩ ?_ ?_
  · rintro s3 L tm st ⟨tm0_s3, rfl, rfl⟩ h
    unfold sample_ratio_l1 at h
    refine cx_seq ?_
    refine cx_seq ?_
    refine cx_region ?_
    refine ox_y rfl (y_move_int rfl) ?_
    refine ox_y rfl (y_gtr rfl rfl) ?_
    refine ox_nil ?_
    refine ex_then ?_
    rcases ite_some h with ⟨hp5, h⟩ | ⟨hp5, h⟩
    · refine cx_true (congrArg Value.bool hp5) ?_
      refine cx_skip ?_
      refine ex_then ?_
      refine cx_block ?_
      refine cx_draws 6 mixed (by kernel_rfl) (by kernel_rfl) ?_
      refine qx_y rfl (y_move_int rfl) ?_
      refine qx_y rfl (y_move_int rfl) ?_
      refine qx_y rfl (y_move_int rfl) ?_
      obtain ⟨hg6, h⟩ := guardO_some h
      refine qx_y rfl (y_rem hg6 rfl rfl) ?_
      refine qx_y rfl (y_assign_int rfl) ?_
      refine qx_y rfl (y_assign_int rfl) ?_
      refine qx_nil ?_
      refine ox_nil ?_
      refine ex_block ?_
      obtain rfl := Option.some.inj h
      exact ex_next ⟨_, rfl, (keep (keep (keep (keep (keep rfl rfl) rfl) rfl) rfl) rfl)⟩
    · refine cx_false (congrArg Value.bool hp5) ?_
      refine cx_exit ?_
      refine ex_then_exit ?_
      obtain rfl := Option.some.inj h
      exact ex_stop ⟨rfl, _, rfl, (keep (keep (keep (keep (keep rfl rfl) rfl) rfl) rfl) rfl)⟩
  · intro e L tm hJ
    obtain ⟨rfl, tm0_u4, rfl, rfl⟩ := hJ
    refine ⟨(by intro hc; cases hc), ?_⟩
    refine ex_block_here ?_
    refine ex_then ?_
    refine cx_seq ?_
    refine cx_draws 7 mixed (by kernel_rfl) (by kernel_rfl) ?_
    refine qx_y rfl (y_move_int rfl) ?_
    refine qx_y rfl (y_move_int rfl) ?_
    obtain ⟨hg8, h⟩ := guardO_some h
    refine qx_y rfl (y_quo hg8 rfl rfl) ?_
    refine qx_y rfl (y_move_int rfl) ?_
    refine qx_y rfl (y_move_int rfl) ?_
    obtain ⟨hg9, h⟩ := guardO_some h
    refine qx_y rfl (y_quo hg9 rfl rfl) ?_
    refine qx_y rfl (y_buildS [.int .i64 (w64 (Int.tdiv p0_num u4.1)), .int .i64 (w64 (Int.tdiv p1_den u4.1))] [(0, 1), (1, 1)] ust_23 ze_23 (by kernel_rfl)) ?_
    refine qx_nil ?_
    refine ox_n rfl (y_storeN 0 [.int .i64 (w64 (Int.tdiv p0_num u4.1)), .int .i64 (w64 (Int.tdiv p1_den u4.1))] sz_23 rfl (Nat.le_of_ble_eq_true rfl) rfl rfl rfl) ?_
    refine ox_nil ?_
    refine ex_then ?_
    refine cx_ret ?_
    obtain rfl := Option.some.inj h
    exact ex_res1 (.inl rfl) rfl (resV_cellN 0 [.int .i64 (w64 (Int.tdiv p0_num u4.1)), .int .i64 (w64 (Int.tdiv p1_den u4.1))] ag_23 rfl rfl rfl) (fun W2 hW2 => ⟨rfl, hW2.none⟩)

/-! calx/sample.isLevel -/
set_option maxRecDepth 100000 in
theorem sample_isLevel_ok (p0_r : TRatio) (res : Bool) (h : sample_isLevel p0_r = some res) (W : World)  :
    Calls Try.prog 75 [.agg #[.int .i64 p0_r.fNum, .int .i64 p0_r.fDen]].toArray W fun e W2 => e = .returned (.bool res) ∧ Ext W W2 [] := by
  unfold sample_isLevel at h
  refine calls_enter (m := 22) Try.func75 rfl rfl (Nat.le_of_ble_eq_true rfl) ?_
  refine cx_seq ?_
  refine cx_region ?_
  refine ox_box [.int .i64 p0_r.fNum, .int .i64 p0_r.fDen] rfl rfl rfl (fun b1 => ?_)
  refine ox_y rfl (y_assign_bool rfl) ?_
  refine ox_nil ?_
  refine ex_then ?_
  refine cx_seq ?_
  refine cx_draws 20 mixed (by kernel_rfl) (by kernel_rfl) ?_
  refine qx_y rfl (y_fieldAddr fo_23_1 rfl) ?_
  refine qx_y rfl (y_load1 0 (v := .int .i64 p0_r.fDen) sc_3 rfl rfl rfl) ?_
  obtain ⟨y2, hy3, h⟩ := bind_some h
  refine qx_y rfl (y_call [.int .i64 p0_r.fDen, .int .i64 1, .int .i64 10000] go_74 rfl (fun W2 hW2 => sample_within_ok p0_r.fDen 1 10000 y2 hy3 W2 ) rfl) ?_
  refine qx_y rfl (y_move_bool rfl) ?_
  obtain ⟨b5, hb6, h⟩ := bind_some h
  refine qx_join 6 (fun tm0 => (upd (upd (upd (upd tm0 0 (.agg #[.int .i64 p0_r.fNum, .int .i64 p0_r.fDen])) 1 (.pointer (some ⟨b1, 0, none⟩))) 2 (.bool false)) 12 (.bool b5))) (fun tm0 => ?_) (fun key => ?_)
  · refine qx_y rfl (y_move_bool rfl) ?_
    obtain ⟨b8, hb9, h⟩ := bind_some h
    refine qx_join 8 (fun tm0 => (upd (upd (upd (upd tm0 0 (.agg #[.int .i64 p0_r.fNum, .int .i64 p0_r.fDen])) 1 (.pointer (some ⟨b1, 0, none⟩))) 2 (.bool false)) 21 (.bool b8))) (fun tm0 => ?_) (fun key => ?_)
    · refine qx_y rfl (y_assign_bool rfl) ?_
      refine qx_nil ?_
      refine ox_nil ?_
      refine ex_then ?_
      refine cx_ret ?_
      obtain rfl := Option.some.inj h
      exact ex_res1 (.inl rfl) rfl (resV_tmp (v := .bool b8) rfl) (fun W2 hW2 => ⟨rfl, hW2.none⟩)
    · clear h; rcases ite_some hb9 with ⟨hp7, h⟩ | ⟨hp7, h⟩
      · refine qx_y (sees_t rfl rfl rfl rfl hp7) (y_fieldAddr fo_23_0 rfl) ?_
        refine qx_y (sees_t rfl rfl rfl rfl hp7) (y_load1 0 (v := .int .i64 p0_r.fNum) sc_3 rfl rfl rfl) ?_
        refine qx_y (sees_t rfl rfl rfl rfl hp7) (y_fieldAddr fo_23_1 rfl) ?_
        refine qx_y (sees_t rfl rfl rfl rfl hp7) (y_load1 0 (v := .int .i64 p0_r.fDen) sc_3 rfl rfl rfl) ?_
        obtain ⟨y10, hy11, h⟩ := bind_some h
        refine qx_y (sees_t rfl rfl rfl rfl hp7) (y_call [.int .i64 p0_r.fNum, .int .i64 p0_r.fDen] go_95 rfl (fun W2 hW2 => sample_ratio_ok p0_r.fNum p0_r.fDen y10 hy11 W2 ) rfl) ?_
        refine qx_y (sees_t rfl rfl rfl rfl hp7) (y_loadN 0 [.int .i64 p0_r.fNum, .int .i64 p0_r.fDen] ag_23 rfl rfl rfl) ?_
        refine qx_y (sees_t rfl rfl rfl rfl hp7) (y_eqla (b := ((y10.fNum == p0_r.fNum) && (y10.fDen == p0_r.fDen))) eg_23 rfl rfl (fun _ => (eqS2 fl_23 (part1 sc_3 rfl) (part1 sc_3 rfl) (part1 sc_3 rfl) (part1 sc_3 rfl) (run_equalIn_int _ _ _ _ _ _ _ ui_3) (run_equalIn_int _ _ _ _ _ _ _ ui_3)))) ?_
        refine qx_y rfl (y_pick_tb (congrArg Value.bool hp7) rfl) ?_
        obtain rfl := Option.some.inj h
        exact key _ _ (keep (keep (keep (keep rfl rfl) rfl) rfl) rfl)
      · refine qx_skip (sees_f rfl rfl rfl rfl hp7) ?_
        refine qx_skip (sees_f rfl rfl rfl rfl hp7) ?_
        refine qx_skip (sees_f rfl rfl rfl rfl hp7) ?_
        refine qx_skip (sees_f rfl rfl rfl rfl hp7) ?_
        refine qx_skip (sees_f rfl rfl rfl rfl hp7) ?_
        refine qx_skip (sees_f rfl rfl rfl rfl hp7) ?_
        refine qx_skip (sees_f rfl rfl rfl rfl hp7) ?_
        refine qx_y rfl (y_pick_fb (congrArg Value.bool hp7) rfl) ?_
        obtain rfl := Option.some.inj h
        exact key _ _ (keep (keep (keep (keep rfl rfl) rfl) rfl) rfl)
  · clear h; rcases ite_some hb6 with ⟨hp4, h⟩ | ⟨hp4, h⟩
    · refine qx_y (sees_t rfl rfl rfl rfl hp4) (y_fieldAddr fo_23_0 rfl) ?_
      refine qx_y (sees_t rfl rfl rfl rfl hp4) (y_load1 0 (v := .int .i64 p0_r.fNum) sc_3 rfl rfl rfl) ?_
      refine qx_y (sees_t rfl rfl rfl rfl hp4) (y_fieldAddr fo_23_1 rfl) ?_
      refine qx_y (sees_t rfl rfl rfl rfl hp4) (y_load1 0 (v := .int .i64 p0_r.fDen) sc_3 rfl rfl rfl) ?_
      obtain ⟨y12, hy13, h⟩ := bind_some h
      refine qx_y (sees_t rfl rfl rfl rfl hp4) (y_call [.int .i64 p0_r.fNum, .int .i64 0, .int .i64 p0_r.fDen] go_74 rfl (fun W2 hW2 => sample_within_ok p0_r.fNum 0 p0_r.fDen y12 hy13 W2 ) rfl) ?_
      refine qx_y rfl (y_pick_tb (congrArg Value.bool hp4) rfl) ?_
      obtain rfl := Option.some.inj h
      exact key _ _ (keep (keep (keep (keep rfl rfl) rfl) rfl) rfl)
    · refine qx_skip (sees_f rfl rfl rfl rfl hp4) ?_
      refine qx_skip (sees_f rfl rfl rfl rfl hp4) ?_
      refine qx_skip (sees_f rfl rfl rfl rfl hp4) ?_
      refine qx_skip (sees_f rfl rfl rfl rfl hp4) ?_
      refine qx_skip (sees_f rfl rfl rfl rfl hp4) ?_
      refine qx_y rfl (y_pick_fb (congrArg Value.bool hp4) rfl) ?_
      obtain rfl := Option.some.inj h
      exact key _ _ (keep (keep (keep (keep rfl rfl) rfl) rfl) rfl)

/-! calx/sample.choose -/
set_option maxRecDepth 100000 in
theorem sample_choose_ok (p0_n : Int) (p1_k : Int) (res : Int) (h : sample_choose p0_n p1_k = some res) (W : World)  :
    Calls Try.prog 76 [.int .i64 p0_n, .int .i64 p1_k].toArray W fun e W2 => e = .returned (.int .i64 res) ∧ Ext W W2 [] := by
  unfold sample_choose at h
  refine calls_enter (m := 30) Try.func76 rfl rfl (Nat.le_of_ble_eq_true rfl) ?_
  refine cx_seq ?_
  refine cx_region ?_
  refine ox_y rfl (y_assign_int rfl) ?_
  refine ox_nil ?_
  refine ex_then ?_
  refine cx_seq ?_
  refine cx_seq ?_
  refine cx_region ?_
  refine ox_y rfl (y_move_int rfl) ?_
  refine ox_y rfl (y_move_int rfl) ?_
  refine ox_y rfl (y_gtr rfl rfl) ?_
  refine ox_nil ?_
  refine ex_then ?_
  rcases ite_some h with ⟨hp1, h⟩ | ⟨hp1, h⟩
  · refine cx_true (congrArg Value.bool hp1) ?_
    refine cx_seq ?_
    refine cx_region ?_
    refine ox_y rfl (y_assign_int rfl) ?_
    refine ox_nil ?_
    refine ex_then ?_
    refine cx_ret ?_
    refine ex_then_ret ?_
    obtain rfl := Option.some.inj h
    exact ex_res1 (.inl rfl) rfl (resV_tmp (v := .int .i64 0) rfl) (fun W2 hW2 => ⟨rfl, hW2.none⟩)
  · refine cx_false (congrArg Value.bool hp1) ?_
    refine cx_skip ?_
    refine ex_then ?_
    refine cx_seq ?_
    refine cx_region ?_
    refine ox_y rfl (y_move_int rfl) ?_
    refine ox_y rfl (y_move_int rfl) ?_
    refine ox_y rfl (y_move_int rfl) ?_
    refine ox_y rfl (y_sub rfl rfl) ?_
    refine ox_y rfl (y_min rfl rfl) ?_
    refine ox_y rfl (y_assign_int rfl) ?_
    refine ox_nil ?_
    refine ex_then ?_
    refine cx_seq ?_
    refine cx_region ?_
    refine ox_y rfl (y_assign_int rfl) ?_
    refine ox_nil ?_
    refine ex_then ?_
    refine cx_seq ?_
    refine cx_seq ?_
    refine cx_region ?_
    refine ox_y rfl (y_assign_int rfl) ?_
    refine ox_nil ?_
    refine ex_then ?_
    refine cx_block ?_
    obtain ⟨u4, hl7, h⟩ := bind_some h
    refine cx_loop (fun (s : (Int × Int)) L tm => ∃ (tm0 : Nat → Value), L = [] ∧ tm = (upd (upd (upd (upd (upd (upd tm0 0 (.int .i64 p0_n)) 1 (.int .i64 (min p1_k (w64 (p0_n - p1_k))))) 4 (.int .i64 0)) 9 (.bool (decide (p0_n < p1_k)))) 5 (.int .i64 s.1)) 6 (.int .i64 s.2))) (fun s e L tm => e = .exit 0 ∧ ∃ (tm0 : Nat → Value), L = [] ∧ tm = (upd (upd (upd (upd (upd (upd tm0 0 (.int .i64 p0_n)) 1 (.int .i64 (min p1_k (w64 (p0_n - p1_k))))) 4 (.int .i64 0)) 9 (.bool (decide (p0_n < p1_k)))) 5 (.int .i64 s.1)) 6 (.int .i64 s.2))) hl7 ⟨_, rfl, (keep (keep (keep (keep (keep (keep rfl rfl) rfl) rfl) rfl) rfl) rfl)⟩ ?_ ?_
    · rintro s3 L tm st ⟨tm0_s3, rfl, rfl⟩ h
      unfold sample_choose_l1 at h
      refine cx_seq ?_
      refine cx_seq ?_
      refine cx_region ?_
      refine ox_y rfl (y_move_int rfl) ?_
      refine ox_y rfl (y_move_int rfl) ?_
      refine ox_y rfl (y_leq rfl rfl) ?_
      refine ox_nil ?_
      refine ex_then ?_
      rcases ite_some h with ⟨hp5, h⟩ | ⟨hp5, h⟩
      · refine cx_true (congrArg Value.bool hp5) ?_
        refine cx_skip ?_
        refine ex_then ?_
        refine cx_seq ?_
        refine cx_block ?_
        refine cx_region ?_
        refine ox_y rfl (y_move_int rfl) ?_
        refine ox_y rfl (y_move_int rfl) ?_
        refine ox_y rfl (y_move_int rfl) ?_
        refine ox_y rfl (y_sub rfl rfl) ?_
        refine ox_y rfl (y_move_int rfl) ?_
        refine ox_y rfl (y_add rfl rfl) ?_
        refine ox_y rfl (y_mul rfl rfl) ?_
        refine ox_y rfl (y_move_int rfl) ?_
        obtain ⟨hg6, h⟩ := guardO_some h
        refine ox_y rfl (y_quo hg6 rfl rfl) ?_
        refine ox_y rfl (y_assign_int rfl) ?_
        refine ox_nil ?_
        refine ex_block ?_
        refine ex_then ?_
        refine cx_region ?_
        refine ox_y rfl (y_move_int rfl) ?_
        refine ox_y rfl (y_add rfl rfl) ?_
        refine ox_y rfl (y_assign_int rfl) ?_
        refine ox_nil ?_
        obtain rfl := Option.some.inj h
        exact ex_next ⟨_, rfl, (keep (keep (keep (keep (keep (keep rfl rfl) rfl) rfl) rfl) rfl) rfl)⟩
      · refine cx_false (congrArg Value.bool hp5) ?_
        refine cx_exit ?_
        refine ex_then_exit ?_
        obtain rfl := Option.some.inj h
        exact ex_stop ⟨rfl, _, rfl, (keep (keep (keep (keep (keep (keep rfl rfl) rfl) rfl) rfl) rfl) rfl)⟩
    · intro e L tm hJ
      obtain ⟨rfl, tm0_u4, rfl, rfl⟩ := hJ
      refine ⟨(by intro hc; cases hc), ?_⟩
      refine ex_block_here ?_
      refine ex_then ?_
      refine cx_seq ?_
      refine cx_region ?_
      refine ox_y rfl (y_move_int rfl) ?_
      refine ox_y rfl (y_assign_int rfl) ?_
      refine ox_nil ?_
      refine ex_then ?_
      refine cx_ret ?_
      obtain rfl := Option.some.inj h
      exact ex_res1 (.inl rfl) rfl (resV_tmp (v := .int .i64 u4.1) rfl) (fun W2 hW2 => ⟨rfl, hW2.none⟩)

/-! calx/sample.atMost -/
set_option maxRecDepth 100000 in
theorem sample_atMost_ok (p0_barrows : Int) (p1_bad : Int) (p2_taken : Int) (p3_most : Int) (res : Int) (h : sample_atMost p0_barrows p1_bad p2_taken p3_most = some res) (W : World)  :
    Calls Try.prog 77 [.int .i64 p0_barrows, .int .i64 p1_bad, .int .i64 p2_taken, .int .i64 p3_most].toArray W fun e W2 => e = .returned (.int .i64 res) ∧ Ext W W2 [] := by
  unfold sample_atMost at h
  refine calls_enter (m := 34) Try.func77 rfl rfl (Nat.le_of_ble_eq_true rfl) ?_
  refine cx_seq ?_
  refine cx_region ?_
  refine ox_y rfl (y_assign_int rfl) ?_
  refine ox_nil ?_
  refine ex_then ?_
  refine cx_seq ?_
  refine cx_region ?_
  refine ox_y rfl (y_assign_int rfl) ?_
  refine ox_nil ?_
  refine ex_then ?_
  refine cx_seq ?_
  refine cx_seq ?_
  refine cx_region ?_
  refine ox_y rfl (y_move_int rfl) ?_
  refine ox_y rfl (y_move_int rfl) ?_
  refine ox_y rfl (y_move_int rfl) ?_
  refine ox_y rfl (y_min3 rfl rfl rfl) ?_
  refine ox_y rfl (y_add rfl rfl) ?_
  refine ox_y rfl (y_move_int rfl) ?_
  refine ox_nil ?_
  refine ex_then ?_
  refine cx_block ?_
  obtain ⟨u3, hl9, h⟩ := bind_some h
  refine cx_loop (fun (s : (Int × Int)) L tm => ∃ (tm0 : Nat → Value), L = [] ∧ tm = (upd (upd (upd (upd (upd (upd (upd (upd tm0 0 (.int .i64 p0_barrows)) 1 (.int .i64 p1_bad)) 2 (.int .i64 p2_taken)) 3 (.int .i64 p3_most)) 8 (.int .i64 0)) 9 (.int .i64 s.1)) 15 (.int .i64 (w64 ((min (min p3_most p1_bad) p2_taken) + 1)))) 16 (.int .i64 s.2))) (fun s e L tm => e = .exit 0 ∧ ∃ (tm0 : Nat → Value), L = [] ∧ tm = (upd (upd (upd (upd (upd (upd (upd (upd tm0 0 (.int .i64 p0_barrows)) 1 (.int .i64 p1_bad)) 2 (.int .i64 p2_taken)) 3 (.int .i64 p3_most)) 8 (.int .i64 0)) 9 (.int .i64 s.1)) 15 (.int .i64 (w64 ((min (min p3_most p1_bad) p2_taken) + 1)))) 16 (.int .i64 s.2))) hl9 ⟨_, rfl, (keep (keep (keep (keep (keep (keep (keep (keep rfl rfl) rfl) rfl) rfl) rfl) rfl) rfl) rfl)⟩ ?_ ?_
  · rintro s2 L tm st ⟨tm0_s2, rfl, rfl⟩ h
    unfold sample_atMost_l1 at h
    refine cx_seq ?_
    refine cx_region ?_
    refine ox_y rfl (y_lss rfl rfl) ?_
    refine ox_nil ?_
    refine ex_then ?_
    refine cx_seq ?_
    rcases ite_some h with ⟨hp4, h⟩ | ⟨hp4, h⟩
    · refine cx_true (congrArg Value.bool hp4) ?_
      refine cx_skip ?_
      refine ex_then ?_
      refine cx_seq ?_
      refine cx_block ?_
      refine cx_seq ?_
      refine cx_region ?_
      refine ox_y rfl (y_move_int rfl) ?_
      refine ox_y rfl (y_assign_int rfl) ?_
      refine ox_nil ?_
      refine ex_then ?_
      refine cx_region ?_
      refine ox_y rfl (y_move_int rfl) ?_
      refine ox_y rfl (y_move_int rfl) ?_
      refine ox_y rfl (y_move_int rfl) ?_
      obtain ⟨y5, hy6, h⟩ := bind_some h
      refine ox_y rfl (y_call [.int .i64 p1_bad, .int .i64 s2.2] go_76 rfl (fun W2 hW2 => sample_choose_ok p1_bad s2.2 y5 hy6 W2 ) rfl) ?_
      refine ox_y rfl (y_move_int rfl) ?_
      refine ox_y rfl (y_move_int rfl) ?_
      refine ox_y rfl (y_sub rfl rfl) ?_
      refine ox_y rfl (y_move_int rfl) ?_
      refine ox_y rfl (y_move_int rfl) ?_
      refine ox_y rfl (y_sub rfl rfl) ?_
      obtain ⟨y7, hy8, h⟩ := bind_some h
      refine ox_y rfl (y_call [.int .i64 (w64 (p0_barrows - p1_bad)), .int .i64 (w64 (p2_taken - s2.2))] go_76 rfl (fun W2 hW2 => sample_choose_ok (w64 (p0_barrows - p1_bad)) (w64 (p2_taken - s2.2)) y7 hy8 W2 ) rfl) ?_
      refine ox_y rfl (y_mul rfl rfl) ?_
      refine ox_y rfl (y_add rfl rfl) ?_
      refine ox_y rfl (y_assign_int rfl) ?_
      refine ox_nil ?_
      refine ex_block ?_
      refine ex_then ?_
      refine cx_region ?_
      refine ox_y rfl (y_add rfl rfl) ?_
      refine ox_y rfl (y_move_int rfl) ?_
      refine ox_nil ?_
      obtain rfl := Option.some.inj h
      exact ex_next ⟨_, rfl, (keep (keep (keep (keep (keep (keep (keep (keep rfl rfl) rfl) rfl) rfl) rfl) rfl) rfl) rfl)⟩
    · refine cx_false (congrArg Value.bool hp4) ?_
      refine cx_exit ?_
      refine ex_then_exit ?_
      obtain rfl := Option.some.inj h
      exact ex_stop ⟨rfl, _, rfl, (keep (keep (keep (keep (keep (keep (keep (keep rfl rfl) rfl) rfl) rfl) rfl) rfl) rfl) rfl)⟩
  · intro e L tm hJ
    obtain ⟨rfl, tm0_u3, rfl, rfl⟩ := hJ
    refine ⟨(by intro hc; cases hc), ?_⟩
    refine ex_block_here ?_
    refine ex_then ?_
    refine cx_seq ?_
    refine cx_region ?_
    refine ox_y rfl (y_move_int rfl) ?_
    refine ox_y rfl (y_assign_int rfl) ?_
    refine ox_nil ?_
    refine ex_then ?_
    refine cx_ret ?_
    obtain rfl := Option.some.inj h
    exact ex_res1 (.inl rfl) rfl (resV_tmp (v := .int .i64 u3.1) rfl) (fun W2 hW2 => ⟨rfl, hW2.none⟩)

/-! calx/sample.reaches$1 -/
set_option maxRecDepth 100000 in
theorem sample_reaches_1_ok (p0_n : Int) (cap0 : TRatio) (cap1 : Int) (res : Bool) (h : sample_reaches_1 p0_n cap0 cap1 = some res) (W : World) (bc0 : Nat) (hcap0 : Rd W (some ⟨bc0, 0, none⟩) 1 1 (TRatio_cells cap0)) (bc1 : Nat) (hcap1 : Rd W (some ⟨bc1, 0, none⟩) 1 1 (cI cap1)) :
    Calls Try.prog 120 [.int .i64 p0_n, .pointer (some ⟨bc0, 0, none⟩), .pointer (some ⟨bc1, 0, none⟩)].toArray W fun e W2 => e = .returned (.bool res) ∧ Ext W W2 [] := by
  unfold sample_reaches_1 at h
  refine calls_enter (m := 14) Try.func120 rfl rfl (Nat.le_of_ble_eq_true rfl) ?_
  refine cx_seq ?_
  refine cx_region ?_
  refine ox_y rfl (y_assign_bool rfl) ?_
  refine ox_nil ?_
  refine ex_then ?_
  refine cx_seq ?_
  refine cx_region ?_
  refine ox_y rfl (y_move_int rfl) ?_
  refine ox_y rfl (y_fieldAddrR (A := (some ⟨bc0, 0, none⟩)) (j := 0) fo_23_1 rfl) ?_
  refine ox_y rfl (y_loadR1 (A := (some ⟨bc0, 0, none⟩)) (j := (0 + 1)) (v := .int .i64 cap0.fDen) sc_3 (RdL.arg hcap0) rfl rfl) ?_
  refine ox_y rfl (y_mul rfl rfl) ?_
  refine ox_y rfl (y_fieldAddrR (A := (some ⟨bc0, 0, none⟩)) (j := 0) fo_23_0 rfl) ?_
  refine ox_y rfl (y_loadR1 (A := (some ⟨bc0, 0, none⟩)) (j := (0 + 0)) (v := .int .i64 cap0.fNum) sc_3 (RdL.arg hcap0) rfl rfl) ?_
  refine ox_y rfl (y_loadR1 (A := (some ⟨bc1, 0, none⟩)) (j := 0) (v := .int .i64 cap1) sc_3 (RdL.arg hcap1) rfl rfl) ?_
  refine ox_y rfl (y_mul rfl rfl) ?_
  refine ox_y rfl (y_geq rfl rfl) ?_
  refine ox_y rfl (y_assign_bool rfl) ?_
  refine ox_nil ?_
  refine ex_then ?_
  refine cx_ret ?_
  obtain rfl := Option.some.inj h
  exact ex_res1 (.inl rfl) rfl (resV_tmp (v := .bool (decide (w64 (cap0.fNum * cap1) ≤ w64 (p0_n * cap0.fDen)))) rfl) (fun W2 hW2 => ⟨rfl, hW2.none⟩)

/-! calx/sample.reaches -/
set_option maxRecDepth 100000 in
theorem sample_reaches_ok (p0_level : TRatio) (p1_all : Int) (res : (TRatio × Int)) (h : sample_reaches p0_level p1_all = some res) (W : World)  :
    Calls Try.prog 78 [.agg #[.int .i64 p0_level.fNum, .int .i64 p0_level.fDen], .int .i64 p1_all].toArray W fun e W2 => ∃ x : (Nat × Nat), e = .returned (.func (.func 120) #[] #[.pointer (some ⟨x.1, 0, none⟩), .pointer (some ⟨x.2, 0, none⟩)]) ∧ Ext W W2 [cellsR x.1 23 [.int .i64 res.1.fNum, .int .i64 res.1.fDen], cellsR x.2 3 [.int .i64 res.2]] := by
  unfold sample_reaches at h
  refine calls_enter (m := 6) Try.func78 rfl rfl (Nat.le_of_ble_eq_true rfl) ?_
  refine cx_seq ?_
  refine cx_region ?_
  refine ox_box [.int .i64 p0_level.fNum, .int .i64 p0_level.fDen] rfl rfl rfl (fun b1 => ?_)
  refine ox_box [.int .i64 p1_all] rfl rfl rfl (fun b2 => ?_)
  refine ox_y rfl (y_assign_nilFunc rfl) ?_
  refine ox_nil ?_
  refine ex_then ?_
  refine cx_seq ?_
  refine cx_region ?_
  refine ox_y rfl (y_makeFunc [.pointer (some ⟨b1, 0, none⟩), .pointer (some ⟨b2, 0, none⟩)] rfl rfl) ?_
  refine ox_y rfl (y_assign_func rfl) ?_
  refine ox_nil ?_
  refine ex_then ?_
  refine cx_ret ?_
  obtain rfl := Option.some.inj h
  exact ex_res1 (.inl rfl) rfl (resV_tmp (v := .func (.func 120) #[] #[.pointer (some ⟨b1, 0, none⟩), .pointer (some ⟨b2, 0, none⟩)]) rfl) (fun W2 hW2 => ⟨(b1, b2), rfl, hW2⟩)

/-! calx/sample.Smallest -/
set_option maxRecDepth 100000 in
theorem sample_Smallest_ok (p0 : Int) (p1 : Int) (p2 : Int) (p3 : TRatio) (p4 : TRatio) (res : (TTrial × Int)) (h : sample_Smallest p0 p1 p2 p3 p4 = some res) (W : World)  :
    Calls Try.prog 23 [.int .i64 p0, .int .i64 p1, .int .i64 p2, .agg #[.int .i64 p3.fNum, .int .i64 p3.fDen], .agg #[.int .i64 p4.fNum, .int .i64 p4.fDen]].toArray W fun e W2 => e = .returned (.tuple #[.agg #[.int .i64 res.1.fSample, .int .i64 res.1.fAccept], .int .i64 res.2]) ∧ Ext W W2 [] := by
  unfold sample_Smallest at h
  refine calls_enter (m := 93) Try.func23 rfl rfl (Nat.le_of_ble_eq_true rfl) ?_
  refine cx_seq ?_
  refine cx_region ?_
  refine ox_box [.int .i64 p3.fNum, .int .i64 p3.fDen] rfl rfl rfl (fun b1 => ?_)
  refine ox_box [.int .i64 p4.fNum, .int .i64 p4.fDen] rfl rfl rfl (fun b2 => ?_)
  refine ox_alloc ze_26 rfl (fun b3 => ?_)
  refine ox_y rfl (y_assign_int rfl) ?_
  refine ox_nil ?_
  refine ex_then ?_
  refine cx_scope ?_
  refine cx_seq ?_
  refine cx_seq ?_
  refine cx_region ?_
  refine ox_y rfl (y_move_int rfl) ?_
  obtain ⟨y4, hy5, h⟩ := bind_some h
  refine ox_y rfl (y_call [.int .i64 p0, .int .i64 1, .int .i64 50] go_74 rfl (fun W2 hW2 => sample_within_ok p0 1 50 y4 hy5 W2 ) rfl) ?_
  refine ox_y rfl (y_not rfl) ?_
  refine ox_y rfl (y_move_bool rfl) ?_
  refine ox_join 3 (fun tm0 => (upd (upd (upd (upd (upd (upd (upd (upd (upd (upd tm0 0 (.int .i64 p0)) 1 (.int .i64 p1)) 2 (.int .i64 p2)) 3 (.agg #[.int .i64 p3.fNum, .int .i64 p3.fDen])) 4 (.agg #[.int .i64 p4.fNum, .int .i64 p4.fDen])) 8 (.pointer (some ⟨b1, 0, none⟩))) 9 (.pointer (some ⟨b2, 0, none⟩))) 10 (.pointer (some ⟨b3, 0, none⟩))) 11 (.int .i64 0)) 24 (.bool ((!y4) || (decide (p1 < 0)))))) (fun tm0 => ?_) (fun key => ?_)
  · refine ox_y rfl (y_move_bool rfl) ?_
    refine ox_join 4 (fun tm0 => (upd (upd (upd (upd (upd (upd (upd (upd (upd (upd tm0 0 (.int .i64 p0)) 1 (.int .i64 p1)) 2 (.int .i64 p2)) 3 (.agg #[.int .i64 p3.fNum, .int .i64 p3.fDen])) 4 (.agg #[.int .i64 p4.fNum, .int .i64 p4.fDen])) 8 (.pointer (some ⟨b1, 0, none⟩))) 9 (.pointer (some ⟨b2, 0, none⟩))) 10 (.pointer (some ⟨b3, 0, none⟩))) 11 (.int .i64 0)) 29 (.bool (((!y4) || (decide (p1 < 0))) || (decide (p2 ≤ p1)))))) (fun tm0 => ?_) (fun key => ?_)
    · refine ox_y rfl (y_move_bool rfl) ?_
      refine ox_join 4 (fun tm0 => (upd (upd (upd (upd (upd (upd (upd (upd (upd (upd tm0 0 (.int .i64 p0)) 1 (.int .i64 p1)) 2 (.int .i64 p2)) 3 (.agg #[.int .i64 p3.fNum, .int .i64 p3.fDen])) 4 (.agg #[.int .i64 p4.fNum, .int .i64 p4.fDen])) 8 (.pointer (some ⟨b1, 0, none⟩))) 9 (.pointer (some ⟨b2, 0, none⟩))) 10 (.pointer (some ⟨b3, 0, none⟩))) 11 (.int .i64 0)) 34 (.bool ((((!y4) || (decide (p1 < 0))) || (decide (p2 ≤ p1))) || (decide (p0 < p2)))))) (fun tm0 => ?_) (fun key => ?_)
      · refine ox_y rfl (y_move_bool rfl) ?_
        obtain ⟨b10, hb11, h⟩ := bind_some h
        refine ox_join 4 (fun tm0 => (upd (upd (upd (upd (upd (upd (upd (upd (upd (upd tm0 0 (.int .i64 p0)) 1 (.int .i64 p1)) 2 (.int .i64 p2)) 3 (.agg #[.int .i64 p3.fNum, .int .i64 p3.fDen])) 4 (.agg #[.int .i64 p4.fNum, .int .i64 p4.fDen])) 8 (.pointer (some ⟨b1, 0, none⟩))) 9 (.pointer (some ⟨b2, 0, none⟩))) 10 (.pointer (some ⟨b3, 0, none⟩))) 11 (.int .i64 0)) 39 (.bool b10))) (fun tm0 => ?_) (fun key => ?_)
        · refine ox_y rfl (y_move_bool rfl) ?_
          obtain ⟨b13, hb14, h⟩ := bind_some h
          refine ox_join 4 (fun tm0 => (upd (upd (upd (upd (upd (upd (upd (upd (upd (upd tm0 0 (.int .i64 p0)) 1 (.int .i64 p1)) 2 (.int .i64 p2)) 3 (.agg #[.int .i64 p3.fNum, .int .i64 p3.fDen])) 4 (.agg #[.int .i64 p4.fNum, .int .i64 p4.fDen])) 8 (.pointer (some ⟨b1, 0, none⟩))) 9 (.pointer (some ⟨b2, 0, none⟩))) 10 (.pointer (some ⟨b3, 0, none⟩))) 11 (.int .i64 0)) 44 (.bool b13))) (fun tm0 => ?_) (fun key => ?_)
          · refine ox_nil ?_
            refine ex_then ?_
            rcases ite_some h with ⟨hp15, h⟩ | ⟨hp15, h⟩
            · refine cx_true (congrArg Value.bool hp15) ?_
              refine cx_seq ?_
              refine cx_region ?_
              refine ox_y rfl (y_buildS [.int .i64 0, .int .i64 0] [(0, 1), (1, 1)] ust_26 ze_26 (by kernel_rfl)) ?_
              refine ox_n rfl (y_storeN 2 [.int .i64 0, .int .i64 0] sz_26 rfl (Nat.le_of_ble_eq_true rfl) rfl rfl rfl) ?_
              refine ox_y rfl (y_assign_int rfl) ?_
              refine ox_nil ?_
              refine ex_then ?_
              refine cx_ret ?_
              refine ex_then_ret ?_
              refine ex_scope_ret ?_
              obtain rfl := Option.some.inj h
              exact ex_res2 (.inl rfl) rfl (resV_cellN 2 [.int .i64 0, .int .i64 0] ag_26 rfl rfl rfl) (resV_tmp (v := .int .i64 1) rfl) (fun W2 hW2 => ⟨rfl, hW2.none⟩)
            · refine cx_false (congrArg Value.bool hp15) ?_
              refine cx_skip ?_
              refine ex_then ?_
              refine cx_seq ?_
              refine cx_region ?_
              refine ox_alloc ze_26 rfl (fun b16 => ?_)
              refine ox_nil ?_
              refine ex_then ?_
              refine cx_seq ?_
              refine cx_region ?_
              refine ox_y rfl (y_assign_bool rfl) ?_
              refine ox_nil ?_
              refine ex_then ?_
              refine cx_seq ?_
              refine cx_label ?_
              refine ex_then ?_
              refine cx_seq ?_
              refine cx_seq ?_
              refine cx_region ?_
              refine ox_y rfl (y_move_int rfl) ?_
              refine ox_y rfl (y_add rfl rfl) ?_
              refine ox_y rfl (y_move_int rfl) ?_
              refine ox_nil ?_
              refine ex_then ?_
              refine cx_block ?_
              obtain ⟨u20, hl44, h⟩ := bind_some h
              refine cx_loop (fun (s : (Bool × Int × Int × Int)) L tm => ∃ (tm0 : Nat → Value), L = [cellsR b1 23 [.int .i64 p3.fNum, .int .i64 p3.fDen], cellsR b2 23 [.int .i64 p4.fNum, .int .i64 p4.fDen], cellsR b3 26 [.int .i64 0, .int .i64 0], cellsR b16 26 [.int .i64 s.2.2.1, .int .i64 s.2.2.2]] ∧ tm = (upd (upd (upd (upd (upd (upd (upd (upd (upd (upd (upd (upd (upd (upd tm0 0 (.int .i64 p0)) 1 (.int .i64 p1)) 2 (.int .i64 p2)) 3 (.agg #[.int .i64 p3.fNum, .int .i64 p3.fDen])) 4 (.agg #[.int .i64 p4.fNum, .int .i64 p4.fDen])) 8 (.pointer (some ⟨b1, 0, none⟩))) 9 (.pointer (some ⟨b2, 0, none⟩))) 10 (.pointer (some ⟨b3, 0, none⟩))) 11 (.int .i64 0)) 44 (.bool b13)) 12 (.pointer (some ⟨b16, 0, none⟩))) 13 (.bool s.1)) 47 (.int .i64 (w64 (p0 + 1)))) 48 (.int .i64 s.2.1))) (fun s e L tm => e = .exit 0 ∧ ∃ (tm0 : Nat → Value), L = [cellsR b1 23 [.int .i64 p3.fNum, .int .i64 p3.fDen], cellsR b2 23 [.int .i64 p4.fNum, .int .i64 p4.fDen], cellsR b3 26 [.int .i64 0, .int .i64 0], cellsR b16 26 [.int .i64 s.2.2.1, .int .i64 s.2.2.2]] ∧ tm = (upd (upd (upd (upd (upd (upd (upd (upd (upd (upd (upd (upd (upd (upd tm0 0 (.int .i64 p0)) 1 (.int .i64 p1)) 2 (.int .i64 p2)) 3 (.agg #[.int .i64 p3.fNum, .int .i64 p3.fDen])) 4 (.agg #[.int .i64 p4.fNum, .int .i64 p4.fDen])) 8 (.pointer (some ⟨b1, 0, none⟩))) 9 (.pointer (some ⟨b2, 0, none⟩))) 10 (.pointer (some ⟨b3, 0, none⟩))) 11 (.int .i64 0)) 44 (.bool b13)) 12 (.pointer (some ⟨b16, 0, none⟩))) 13 (.bool s.1)) 47 (.int .i64 (w64 (p0 + 1)))) 48 (.int .i64 s.2.1))) hl44 ⟨_, rfl, (keep (keep (keep (keep (keep (keep (keep (keep (keep (keep (keep (keep (keep (keep rfl rfl) rfl) rfl) rfl) rfl) rfl) rfl) rfl) rfl) rfl) rfl) rfl) rfl) rfl)⟩ ?_ ?_
              · rintro s19 L tm st ⟨tm0_s19, rfl, rfl⟩ h
                unfold sample_Smallest_l1 at h
                refine cx_seq ?_
                refine cx_region ?_
                refine ox_y rfl (y_lss rfl rfl) ?_
                refine ox_nil ?_
                refine ex_then ?_
                refine cx_seq ?_
                rcases ite_some h with ⟨hp21, h⟩ | ⟨hp21, h⟩
                · refine cx_true (congrArg Value.bool hp21) ?_
                  refine cx_skip ?_
                  refine ex_then ?_
                  refine cx_seq ?_
                  refine cx_block ?_
                  refine cx_seq ?_
                  refine cx_region ?_
                  refine ox_y rfl (y_move_int rfl) ?_
                  refine ox_y rfl (y_assign_int rfl) ?_
                  refine ox_nil ?_
                  refine ex_then ?_
                  refine cx_seq ?_
                  refine cx_region ?_
                  refine ox_y rfl (y_move_int rfl) ?_
                  refine ox_y rfl (y_move_int rfl) ?_
                  obtain ⟨y22, hy23, h⟩ := bind_some h
                  refine ox_y rfl (y_call [.int .i64 p0, .int .i64 s19.2.1] go_76 rfl (fun W2 hW2 => sample_choose_ok p0 s19.2.1 y22 hy23 W2 ) rfl) ?_
                  refine ox_y rfl (y_assign_int rfl) ?_
                  refine ox_nil ?_
                  refine ex_then ?_
                  refine cx_seq ?_
                  refine cx_region ?_
                  refine ox_y rfl (y_move_int rfl) ?_
                  refine ox_y rfl (y_add rfl rfl) ?_
                  refine ox_y rfl (y_move_int rfl) ?_
                  refine ox_nil ?_
                  refine ex_then ?_
                  refine cx_block ?_
                  obtain ⟨u27, hl41, h⟩ := bind_some h
                  refine cx_loop (fun (s : (Bool × Int × Int × Int)) L tm => ∃ (tm0 : Nat → Value), L = [cellsR b1 23 [.int .i64 p3.fNum, .int .i64 p3.fDen], cellsR b2 23 [.int .i64 p4.fNum, .int .i64 p4.fDen], cellsR b3 26 [.int .i64 0, .int .i64 0], cellsR b16 26 [.int .i64 s.2.2.1, .int .i64 s.2.2.2]] ∧ tm = (upd (upd (upd (upd (upd (upd (upd (upd (upd (upd (upd (upd (upd (upd (upd (upd (upd (upd (upd tm0 0 (.int .i64 p0)) 1 (.int .i64 p1)) 2 (.int .i64 p2)) 3 (.agg #[.int .i64 p3.fNum, .int .i64 p3.fDen])) 4 (.agg #[.int .i64 p4.fNum, .int .i64 p4.fDen])) 8 (.pointer (some ⟨b1, 0, none⟩))) 9 (.pointer (some ⟨b2, 0, none⟩))) 10 (.pointer (some ⟨b3, 0, none⟩))) 11 (.int .i64 0)) 44 (.bool b13)) 12 (.pointer (some ⟨b16, 0, none⟩))) 13 (.bool s.1)) 47 (.int .i64 (w64 (p0 + 1)))) 48 (.int .i64 s19.2.1)) 49 (.bool (decide (s19.2.1 < w64 (p0 + 1))))) 14 (.int .i64 s19.2.1)) 15 (.int .i64 y22)) 55 (.int .i64 (w64 (s19.2.1 + 1)))) 56 (.int .i64 s.2.1))) (fun | (.inl s), e, L, tm => e = .exit 0 ∧ ∃ (tm0 : Nat → Value), L = [cellsR b1 23 [.int .i64 p3.fNum, .int .i64 p3.fDen], cellsR b2 23 [.int .i64 p4.fNum, .int .i64 p4.fDen], cellsR b3 26 [.int .i64 0, .int .i64 0], cellsR b16 26 [.int .i64 s.2.2.1, .int .i64 s.2.2.2]] ∧ tm = (upd (upd (upd (upd (upd (upd (upd (upd (upd (upd (upd (upd (upd (upd (upd (upd (upd (upd (upd tm0 0 (.int .i64 p0)) 1 (.int .i64 p1)) 2 (.int .i64 p2)) 3 (.agg #[.int .i64 p3.fNum, .int .i64 p3.fDen])) 4 (.agg #[.int .i64 p4.fNum, .int .i64 p4.fDen])) 8 (.pointer (some ⟨b1, 0, none⟩))) 9 (.pointer (some ⟨b2, 0, none⟩))) 10 (.pointer (some ⟨b3, 0, none⟩))) 11 (.int .i64 0)) 44 (.bool b13)) 12 (.pointer (some ⟨b16, 0, none⟩))) 13 (.bool s.1)) 47 (.int .i64 (w64 (p0 + 1)))) 48 (.int .i64 s19.2.1)) 49 (.bool (decide (s19.2.1 < w64 (p0 + 1))))) 14 (.int .i64 s19.2.1)) 15 (.int .i64 y22)) 55 (.int .i64 (w64 (s19.2.1 + 1)))) 56 (.int .i64 s.2.1)) | (.inr s), e, L, tm => e = .exit 2 ∧ ∃ (tm0 : Nat → Value), L = [cellsR b1 23 [.int .i64 p3.fNum, .int .i64 p3.fDen], cellsR b2 23 [.int .i64 p4.fNum, .int .i64 p4.fDen], cellsR b3 26 [.int .i64 0, .int .i64 0], cellsR b16 26 [.int .i64 s.2.2.1, .int .i64 s.2.2.2]] ∧ tm = (upd (upd (upd (upd (upd (upd (upd (upd (upd (upd (upd (upd (upd (upd (upd (upd (upd (upd (upd tm0 0 (.int .i64 p0)) 1 (.int .i64 p1)) 2 (.int .i64 p2)) 3 (.agg #[.int .i64 p3.fNum, .int .i64 p3.fDen])) 4 (.agg #[.int .i64 p4.fNum, .int .i64 p4.fDen])) 8 (.pointer (some ⟨b1, 0, none⟩))) 9 (.pointer (some ⟨b2, 0, none⟩))) 10 (.pointer (some ⟨b3, 0, none⟩))) 11 (.int .i64 0)) 44 (.bool b13)) 12 (.pointer (some ⟨b16, 0, none⟩))) 13 (.bool s.1)) 47 (.int .i64 (w64 (p0 + 1)))) 48 (.int .i64 s19.2.1)) 49 (.bool (decide (s19.2.1 < w64 (p0 + 1))))) 14 (.int .i64 s19.2.1)) 15 (.int .i64 y22)) 55 (.int .i64 (w64 (s19.2.1 + 1)))) 56 (.int .i64 s.2.1))) hl41 ⟨_, rfl, (keep (keep (keep (keep (keep (keep (keep (keep (keep (keep (keep (keep (keep (keep (keep (keep (keep (keep (keep rfl rfl) rfl) rfl) rfl) rfl) rfl) rfl) rfl) rfl) rfl) rfl) rfl) rfl) rfl) rfl) rfl) rfl) rfl) rfl)⟩ ?_ ?_
                  · rintro s26 L tm st ⟨tm0_s26, rfl, rfl⟩ h
                    unfold sample_Smallest_l2 at h
                    refine cx_seq ?_
                    refine cx_region ?_
                    refine ox_y rfl (y_lss rfl rfl) ?_
                    refine ox_nil ?_
                    refine ex_then ?_
                    refine cx_seq ?_
                    rcases ite_some h with ⟨hp28, h⟩ | ⟨hp28, h⟩
                    · refine cx_true (congrArg Value.bool hp28) ?_
                      refine cx_skip ?_
                      refine ex_then ?_
                      refine cx_seq ?_
                      refine cx_block ?_
                      refine cx_seq ?_
                      refine cx_region ?_
                      refine ox_y rfl (y_move_int rfl) ?_
                      refine ox_y rfl (y_assign_int rfl) ?_
                      refine ox_nil ?_
                      refine ex_then ?_
                      refine cx_seq ?_
                      refine cx_region ?_
                      refine ox_y rfl (y_move_int rfl) ?_
                      refine ox_y rfl (y_move_int rfl) ?_
                      refine ox_y rfl (y_move_int rfl) ?_
                      refine ox_y rfl (y_move_int rfl) ?_
                      obtain ⟨y29, hy30, h⟩ := bind_some h
                      refine ox_y rfl (y_call [.int .i64 p0, .int .i64 p2, .int .i64 s19.2.1, .int .i64 s26.2.1] go_77 rfl (fun W2 hW2 => sample_atMost_ok p0 p2 s19.2.1 s26.2.1 y29 hy30 W2 ) rfl) ?_
                      refine ox_y rfl (y_assign_int rfl) ?_
                      refine ox_nil ?_
                      refine ex_then ?_
                      refine cx_seq ?_
                      refine cx_region ?_
                      refine ox_y rfl (y_loadN 0 [.int .i64 p3.fNum, .int .i64 p3.fDen] ag_23 rfl rfl rfl) ?_
                      refine ox_y rfl (y_move_int rfl) ?_
                      obtain ⟨y31, hy32, h⟩ := bind_some h
                      refine ox_call1 [.agg #[.int .i64 p3.fNum, .int .i64 p3.fDen], .int .i64 y22] _ _ rfl go_78 rfl (fun W2 hW2 => sample_reaches_ok p3 y22 y31 hy32 W2 ) ?_
                      rintro ⟨b33, b34⟩
                      try dsimp only [List.nil_append, List.cons_append, List.set_cons_zero, List.set_cons_succ]
                      refine ox_y rfl (y_move_int rfl) ?_
                      refine ox_y rfl (y_move_int rfl) ?_
                      refine ox_y rfl (y_move_int rfl) ?_
                      refine ox_y rfl (y_move_int rfl) ?_
                      obtain ⟨y35, hy36, h⟩ := bind_some h
                      refine ox_y rfl (y_call [.int .i64 p0, .int .i64 p1, .int .i64 s19.2.1, .int .i64 s26.2.1] go_77 rfl (fun W2 hW2 => sample_atMost_ok p0 p1 s19.2.1 s26.2.1 y35 hy36 W2 ) rfl) ?_
                      obtain ⟨y37, hy38, h⟩ := bind_some h
                      refine ox_y rfl (y_callv (caps := [.pointer (some ⟨b33, 0, none⟩), .pointer (some ⟨b34, 0, none⟩)]) [.int .i64 y35] go_120 rfl rfl (fun W2 hW2 => sample_reaches_1_ok y35 y31.1 y31.2 y37 hy38 W2 b33 ((RdL.cells 4 rfl) W2 hW2) b34 ((RdL.cells 5 rfl) W2 hW2))) ?_
                      refine ox_y rfl (y_move_bool rfl) ?_
                      refine ox_join 10 (fun tm0 => (upd (upd (upd (upd (upd (upd (upd (upd (upd (upd (upd (upd (upd (upd (upd (upd (upd (upd (upd (upd (upd (upd (upd tm0 0 (.int .i64 p0)) 1 (.int .i64 p1)) 2 (.int .i64 p2)) 3 (.agg #[.int .i64 p3.fNum, .int .i64 p3.fDen])) 4 (.agg #[.int .i64 p4.fNum, .int .i64 p4.fDen])) 8 (.pointer (some ⟨b1, 0, none⟩))) 9 (.pointer (some ⟨b2, 0, none⟩))) 10 (.pointer (some ⟨b3, 0, none⟩))) 11 (.int .i64 0)) 44 (.bool b13)) 12 (.pointer (some ⟨b16, 0, none⟩))) 13 (.bool s26.1)) 47 (.int .i64 (w64 (p0 + 1)))) 48 (.int .i64 s19.2.1)) 49 (.bool (decide (s19.2.1 < w64 (p0 + 1))))) 14 (.int .i64 s19.2.1)) 15 (.int .i64 y22)) 55 (.int .i64 (w64 (s19.2.1 + 1)))) 56 (.int .i64 s26.2.1)) 57 (.bool (decide (s26.2.1 < w64 (s19.2.1 + 1))))) 16 (.int .i64 s26.2.1)) 17 (.int .i64 y29)) 83 (.bool (y37 && (decide (w64 (y29 * p4.fDen) ≤ w64 (p4.fNum * y22))))))) (fun tm0 => ?_) (fun key => ?_)
                      · refine ox_nil ?_
                        refine ex_then ?_
                        rcases ite_some h with ⟨hp40, h⟩ | ⟨hp40, h⟩
                        · refine cx_true (congrArg Value.bool hp40) ?_
                          refine cx_seq ?_
                          refine cx_region ?_
                          refine ox_y rfl (y_move_int rfl) ?_
                          refine ox_y rfl (y_move_int rfl) ?_
                          refine ox_y rfl (y_buildS [.int .i64 s19.2.1, .int .i64 s26.2.1] [(0, 1), (1, 1)] ust_26 ze_26 (by kernel_rfl)) ?_
                          refine ox_n rfl (y_storeN 3 [.int .i64 s19.2.1, .int .i64 s26.2.1] sz_26 rfl (Nat.le_of_ble_eq_true rfl) rfl rfl rfl) ?_
                          refine ox_y rfl (y_assign_bool rfl) ?_
                          refine ox_nil ?_
                          refine ex_then ?_
                          refine cx_exit ?_
                          refine ex_block_past rfl ?_
                          refine ex_then_exit ?_
                          refine ex_take 4 ?_
                          obtain rfl := Option.some.inj h
                          exact ex_stop ⟨rfl, _, rfl, (keep (keep (keep (keep (keep (keep (keep (keep (keep (keep (keep (keep (keep (keep (keep (keep (keep (keep (keep rfl rfl) rfl) rfl) rfl) rfl) rfl) rfl) rfl) rfl) rfl) rfl) rfl) rfl) rfl) rfl) rfl) rfl) rfl) rfl)⟩
                        · refine cx_false (congrArg Value.bool hp40) ?_
                          refine cx_skip ?_
                          refine ex_block ?_
                          refine ex_then ?_
                          refine cx_region ?_
                          refine ox_y rfl (y_add rfl rfl) ?_
                          refine ox_y rfl (y_move_int rfl) ?_
                          refine ox_nil ?_
                          refine ex_take 4 ?_
                          obtain rfl := Option.some.inj h
                          exact ex_next ⟨_, rfl, (keep (keep (keep (keep (keep (keep (keep (keep (keep (keep (keep (keep (keep (keep (keep (keep (keep (keep (keep rfl rfl) rfl) rfl) rfl) rfl) rfl) rfl) rfl) rfl) rfl) rfl) rfl) rfl) rfl) rfl) rfl) rfl) rfl) rfl)⟩
                      · rcases bool_cases y37 with hp39 | hp39
                        · refine ox_y (sees_t rfl rfl rfl rfl hp39) (y_move_int rfl) ?_
                          refine ox_y (sees_t rfl rfl rfl rfl hp39) (y_fieldAddr fo_23_1 rfl) ?_
                          refine ox_y (sees_t rfl rfl rfl rfl hp39) (y_load1 1 (v := .int .i64 p4.fDen) sc_3 rfl rfl rfl) ?_
                          refine ox_y (sees_t rfl rfl rfl rfl hp39) (y_mul rfl rfl) ?_
                          refine ox_y (sees_t rfl rfl rfl rfl hp39) (y_fieldAddr fo_23_0 rfl) ?_
                          refine ox_y (sees_t rfl rfl rfl rfl hp39) (y_load1 1 (v := .int .i64 p4.fNum) sc_3 rfl rfl rfl) ?_
                          refine ox_y (sees_t rfl rfl rfl rfl hp39) (y_move_int rfl) ?_
                          refine ox_y (sees_t rfl rfl rfl rfl hp39) (y_mul rfl rfl) ?_
                          refine ox_y (sees_t rfl rfl rfl rfl hp39) (y_leq rfl rfl) ?_
                          refine ox_y rfl (y_pick_tb (congrArg Value.bool hp39) rfl) ?_
                          exact key _ _ (keep (keep (keep (keep (keep (keep (keep (keep (keep (keep (keep (keep (keep (keep (keep (keep (keep (keep (keep (keep (keep (keep (keep rfl rfl) rfl) rfl) rfl) rfl) rfl) rfl) rfl) rfl) rfl) rfl) rfl) rfl) rfl) rfl) rfl) rfl) rfl) rfl) rfl) rfl) rfl) (congrArg Value.bool (and_t hp39)))
                        · refine ox_skip (sees_f rfl rfl rfl rfl hp39) ?_
                          refine ox_skip (sees_f rfl rfl rfl rfl hp39) ?_
                          refine ox_skip (sees_f rfl rfl rfl rfl hp39) ?_
                          refine ox_skip (sees_f rfl rfl rfl rfl hp39) ?_
                          refine ox_skip (sees_f rfl rfl rfl rfl hp39) ?_
                          refine ox_skip (sees_f rfl rfl rfl rfl hp39) ?_
                          refine ox_skip (sees_f rfl rfl rfl rfl hp39) ?_
                          refine ox_skip (sees_f rfl rfl rfl rfl hp39) ?_
                          refine ox_skip (sees_f rfl rfl rfl rfl hp39) ?_
                          refine ox_y rfl (y_pick_fb (congrArg Value.bool hp39) rfl) ?_
                          exact key _ _ (keep (keep (keep (keep (keep (keep (keep (keep (keep (keep (keep (keep (keep (keep (keep (keep (keep (keep (keep (keep (keep (keep (keep rfl rfl) rfl) rfl) rfl) rfl) rfl) rfl) rfl) rfl) rfl) rfl) rfl) rfl) rfl) rfl) rfl) rfl) rfl) rfl) rfl) rfl) rfl) (congrArg Value.bool (and_f hp39)))
                    · refine cx_false (congrArg Value.bool hp28) ?_
                      refine cx_exit ?_
                      refine ex_then_exit ?_
                      obtain rfl := Option.some.inj h
                      exact ex_stop ⟨rfl, _, rfl, (keep (keep (keep (keep (keep (keep (keep (keep (keep (keep (keep (keep (keep (keep (keep (keep (keep (keep (keep rfl rfl) rfl) rfl) rfl) rfl) rfl) rfl) rfl) rfl) rfl) rfl) rfl) rfl) rfl) rfl) rfl) rfl) rfl) rfl)⟩
                  · intro e L tm hJ
                    rcases u27 with u42 | u43
                    · dsimp only at h hJ
                      obtain ⟨rfl, tm0_u42, rfl, rfl⟩ := hJ
                      refine ⟨(by intro hc; cases hc), ?_⟩
                      refine ex_block_past rfl ?_
                      refine ex_block_past rfl ?_
                      refine ex_then_exit ?_
                      obtain rfl := Option.some.inj h
                      exact ex_stop ⟨rfl, _, rfl, (keep (keep (keep (keep (keep (keep (keep (keep (keep (keep (keep (keep (keep (keep rfl rfl) rfl) rfl) rfl) rfl) rfl) rfl) rfl) rfl) rfl) rfl) rfl) rfl) rfl)⟩
                    · dsimp only at h hJ
                      obtain ⟨rfl, tm0_u43, rfl, rfl⟩ := hJ
                      refine ⟨(by intro hc; cases hc), ?_⟩
                      refine ex_block_here ?_
                      refine ex_block ?_
                      refine ex_then ?_
                      refine cx_region ?_
                      refine ox_y rfl (y_add rfl rfl) ?_
                      refine ox_y rfl (y_move_int rfl) ?_
                      refine ox_nil ?_
                      obtain rfl := Option.some.inj h
                      exact ex_next ⟨_, rfl, (keep (keep (keep (keep (keep (keep (keep (keep (keep (keep (keep (keep (keep (keep rfl rfl) rfl) rfl) rfl) rfl) rfl) rfl) rfl) rfl) rfl) rfl) rfl) rfl) rfl)⟩
                · refine cx_false (congrArg Value.bool hp21) ?_
                  refine cx_exit ?_
                  refine ex_then_exit ?_
                  obtain rfl := Option.some.inj h
                  exact ex_stop ⟨rfl, _, rfl, (keep (keep (keep (keep (keep (keep (keep (keep (keep (keep (keep (keep (keep (keep rfl rfl) rfl) rfl) rfl) rfl) rfl) rfl) rfl) rfl) rfl) rfl) rfl) rfl) rfl)⟩
              · intro e L tm hJ
                obtain ⟨rfl, tm0_u20, rfl, rfl⟩ := hJ
                refine ⟨(by intro hc; cases hc), ?_⟩
                refine ex_block_here ?_
                refine ex_then ?_
                refine cx_seq ?_
                refine cx_seq ?_
                refine cx_region ?_
                refine ox_y rfl (y_move_bool rfl) ?_
                refine ox_y rfl (y_not rfl) ?_
                refine ox_nil ?_
                refine ex_then ?_
                rcases ite_some h with ⟨hp45, h⟩ | ⟨hp45, h⟩
                · refine cx_true (congrArg Value.bool hp45) ?_
                  refine cx_seq ?_
                  refine cx_region ?_
                  refine ox_y rfl (y_buildS [.int .i64 0, .int .i64 0] [(0, 1), (1, 1)] ust_26 ze_26 (by kernel_rfl)) ?_
                  refine ox_n rfl (y_storeN 2 [.int .i64 0, .int .i64 0] sz_26 rfl (Nat.le_of_ble_eq_true rfl) rfl rfl rfl) ?_
                  refine ox_y rfl (y_assign_int rfl) ?_
                  refine ox_nil ?_
                  refine ex_then ?_
                  refine cx_ret ?_
                  refine ex_then_ret ?_
                  refine ex_scope_ret ?_
                  obtain rfl := Option.some.inj h
                  exact ex_res2 (.inl rfl) rfl (resV_cellN 2 [.int .i64 0, .int .i64 0] ag_26 rfl rfl rfl) (resV_tmp (v := .int .i64 5) rfl) (fun W2 hW2 => ⟨rfl, hW2.none⟩)
                · refine cx_false (congrArg Value.bool hp45) ?_
                  refine cx_skip ?_
                  refine ex_then ?_
                  refine cx_seq ?_
                  refine cx_region ?_
                  refine ox_y rfl (y_loadN 3 [.int .i64 u20.2.2.1, .int .i64 u20.2.2.2] ag_26 rfl rfl rfl) ?_
                  refine ox_n rfl (y_storeN 2 [.int .i64 u20.2.2.1, .int .i64 u20.2.2.2] sz_26 rfl (Nat.le_of_ble_eq_true rfl) rfl rfl rfl) ?_
                  refine ox_y rfl (y_assign_int rfl) ?_
                  refine ox_nil ?_
                  refine ex_then ?_
                  refine cx_ret ?_
                  refine ex_scope_ret ?_
                  obtain rfl := Option.some.inj h
                  exact ex_res2 (.inl rfl) rfl (resV_cellN 2 [.int .i64 u20.2.2.1, .int .i64 u20.2.2.2] ag_26 rfl rfl rfl) (resV_tmp (v := .int .i64 0) rfl) (fun W2 hW2 => ⟨rfl, hW2.none⟩)
          · clear h; rcases ite_some hb14 with ⟨hp12, h⟩ | ⟨hp12, h⟩
            · refine ox_skip (sees_f rfl rfl rfl rfl hp12) ?_
              refine ox_skip (sees_f rfl rfl rfl rfl hp12) ?_
              refine ox_skip (sees_f rfl rfl rfl rfl hp12) ?_
              refine ox_y rfl (y_pick_tb (congrArg Value.bool hp12) rfl) ?_
              obtain rfl := Option.some.inj h
              exact key _ _ (keep (keep (keep (keep (keep (keep (keep (keep (keep (keep rfl rfl) rfl) rfl) rfl) rfl) rfl) rfl) rfl) rfl) rfl)
            · refine ox_y (sees_t rfl rfl rfl rfl hp12) (y_loadN 1 [.int .i64 p4.fNum, .int .i64 p4.fDen] ag_23 rfl rfl rfl) ?_
              obtain ⟨y46, hy47, h⟩ := bind_some h
              refine ox_y (sees_t rfl rfl rfl rfl hp12) (y_call [.agg #[.int .i64 p4.fNum, .int .i64 p4.fDen]] go_75 rfl (fun W2 hW2 => sample_isLevel_ok p4 y46 hy47 W2 ) rfl) ?_
              refine ox_y (sees_t rfl rfl rfl rfl hp12) (y_not rfl) ?_
              refine ox_y rfl (y_pick_fb (congrArg Value.bool hp12) rfl) ?_
              obtain rfl := Option.some.inj h
              exact key _ _ (keep (keep (keep (keep (keep (keep (keep (keep (keep (keep rfl rfl) rfl) rfl) rfl) rfl) rfl) rfl) rfl) rfl) rfl)
        · clear h; rcases ite_some hb11 with ⟨hp9, h⟩ | ⟨hp9, h⟩
          · refine ox_skip (sees_f rfl rfl rfl rfl hp9) ?_
            refine ox_skip (sees_f rfl rfl rfl rfl hp9) ?_
            refine ox_skip (sees_f rfl rfl rfl rfl hp9) ?_
            refine ox_y rfl (y_pick_tb (congrArg Value.bool hp9) rfl) ?_
            obtain rfl := Option.some.inj h
            exact key _ _ (keep (keep (keep (keep (keep (keep (keep (keep (keep (keep rfl rfl) rfl) rfl) rfl) rfl) rfl) rfl) rfl) rfl) rfl)
          · refine ox_y (sees_t rfl rfl rfl rfl hp9) (y_loadN 0 [.int .i64 p3.fNum, .int .i64 p3.fDen] ag_23 rfl rfl rfl) ?_
            obtain ⟨y48, hy49, h⟩ := bind_some h
            refine ox_y (sees_t rfl rfl rfl rfl hp9) (y_call [.agg #[.int .i64 p3.fNum, .int .i64 p3.fDen]] go_75 rfl (fun W2 hW2 => sample_isLevel_ok p3 y48 hy49 W2 ) rfl) ?_
            refine ox_y (sees_t rfl rfl rfl rfl hp9) (y_not rfl) ?_
            refine ox_y rfl (y_pick_fb (congrArg Value.bool hp9) rfl) ?_
            obtain rfl := Option.some.inj h
            exact key _ _ (keep (keep (keep (keep (keep (keep (keep (keep (keep (keep rfl rfl) rfl) rfl) rfl) rfl) rfl) rfl) rfl) rfl) rfl)
      · rcases bool_cases (((!y4) || (decide (p1 < 0))) || (decide (p2 ≤ p1))) with hp8 | hp8
        · refine ox_skip (sees_f rfl rfl rfl rfl hp8) ?_
          refine ox_skip (sees_f rfl rfl rfl rfl hp8) ?_
          refine ox_skip (sees_f rfl rfl rfl rfl hp8) ?_
          refine ox_y rfl (y_pick_tb (congrArg Value.bool hp8) rfl) ?_
          exact key _ _ (keep (keep (keep (keep (keep (keep (keep (keep (keep (keep rfl rfl) rfl) rfl) rfl) rfl) rfl) rfl) rfl) rfl) (congrArg Value.bool (or_t hp8)))
        · refine ox_y (sees_t rfl rfl rfl rfl hp8) (y_move_int rfl) ?_
          refine ox_y (sees_t rfl rfl rfl rfl hp8) (y_move_int rfl) ?_
          refine ox_y (sees_t rfl rfl rfl rfl hp8) (y_gtr rfl rfl) ?_
          refine ox_y rfl (y_pick_fb (congrArg Value.bool hp8) rfl) ?_
          exact key _ _ (keep (keep (keep (keep (keep (keep (keep (keep (keep (keep rfl rfl) rfl) rfl) rfl) rfl) rfl) rfl) rfl) rfl) (congrArg Value.bool (or_f hp8)))
    · rcases bool_cases ((!y4) || (decide (p1 < 0))) with hp7 | hp7
      · refine ox_skip (sees_f rfl rfl rfl rfl hp7) ?_
        refine ox_skip (sees_f rfl rfl rfl rfl hp7) ?_
        refine ox_skip (sees_f rfl rfl rfl rfl hp7) ?_
        refine ox_y rfl (y_pick_tb (congrArg Value.bool hp7) rfl) ?_
        exact key _ _ (keep (keep (keep (keep (keep (keep (keep (keep (keep (keep rfl rfl) rfl) rfl) rfl) rfl) rfl) rfl) rfl) rfl) (congrArg Value.bool (or_t hp7)))
      · refine ox_y (sees_t rfl rfl rfl rfl hp7) (y_move_int rfl) ?_
        refine ox_y (sees_t rfl rfl rfl rfl hp7) (y_move_int rfl) ?_
        refine ox_y (sees_t rfl rfl rfl rfl hp7) (y_geq rfl rfl) ?_
        refine ox_y rfl (y_pick_fb (congrArg Value.bool hp7) rfl) ?_
        exact key _ _ (keep (keep (keep (keep (keep (keep (keep (keep (keep (keep rfl rfl) rfl) rfl) rfl) rfl) rfl) rfl) rfl) rfl) (congrArg Value.bool (or_f hp7)))
  · rcases bool_cases (!y4) with hp6 | hp6
    · refine ox_skip (sees_f rfl rfl rfl rfl hp6) ?_
      refine ox_skip (sees_f rfl rfl rfl rfl hp6) ?_
      refine ox_y rfl (y_pick_tb (congrArg Value.bool hp6) rfl) ?_
      exact key _ _ (keep (keep (keep (keep (keep (keep (keep (keep (keep (keep rfl rfl) rfl) rfl) rfl) rfl) rfl) rfl) rfl) rfl) (congrArg Value.bool (or_t hp6)))
    · refine ox_y (sees_t rfl rfl rfl rfl hp6) (y_move_int rfl) ?_
      refine ox_y (sees_t rfl rfl rfl rfl hp6) (y_lss rfl rfl) ?_
      refine ox_y rfl (y_pick_fb (congrArg Value.bool hp6) rfl) ?_
      exact key _ _ (keep (keep (keep (keep (keep (keep (keep (keep (keep (keep rfl rfl) rfl) rfl) rfl) rfl) rfl) rfl) rfl) rfl) (congrArg Value.bool (or_f hp6)))

/-! calx/sample.sum[int] -/
set_option maxRecDepth 100000 in
theorem sample_sum_int_ok (p0_l : (List Int)) (p1_of : Int → Option Int) (res : Int) (h : sample_sum_int p0_l p1_of = some res) (W : World) (A0_0 : Option Addr) (n0_0 c0_0 : Nat) (hn0_0 : n0_0 = p0_l.length) (hr0_0 : Rd W A0_0 n0_0 c0_0 (encL cI p0_l)) (fid1 : Nat) (caps1 : List Value) (hgo1 : goes Try.prog fid1 = true) (hof1 : ∀ W2, Below W.heap.size W W2 → ∀ x y, p1_of x = some y → Calls Try.prog fid1 (([.int .i64 x] : List Value) ++ caps1).toArray W2 fun e W3 => e = .returned (.int .i64 y) ∧ Ext W2 W3 []) :
    Calls Try.prog 106 [.slice A0_0 n0_0 c0_0, .func (.func fid1) #[] caps1.toArray].toArray W fun e W2 => e = .returned (.int .i64 res) ∧ Ext W W2 [] := by
  subst hn0_0
  unfold sample_sum_int at h
  refine calls_enter (m := 21) Try.func106 rfl rfl (Nat.le_of_ble_eq_true rfl) ?_
  refine cx_seq ?_
  refine cx_region ?_
  refine ox_y rfl (y_assign_int rfl) ?_
  refine ox_nil ?_
  refine ex_then ?_
  refine cx_seq ?_
  refine cx_region ?_
  refine ox_y rfl (y_assign_int rfl) ?_
  refine ox_nil ?_
  refine ex_then ?_
  refine cx_seq ?_
  refine cx_seq ?_
  refine cx_region ?_
  refine ox_y rfl (y_move_slice rfl) ?_
  refine ox_y rfl (y_len (us := []) us_66 rfl) ?_
  refine ox_y rfl (y_move_int rfl) ?_
  refine ox_nil ?_
  refine ex_then ?_
  refine cx_block ?_
  obtain ⟨u3, hl8, h⟩ := bind_some h
  refine cx_loop (fun (s : (Int × Int)) L tm => ∃ (tm0 : Nat → Value), L = [] ∧ tm = (upd (upd (upd (upd (upd (upd (upd tm0 0 (.slice A0_0 p0_l.length c0_0)) 1 (.func (.func fid1) #[] caps1.toArray)) 4 (.int .i64 0)) 5 (.int .i64 s.1)) 8 (.slice A0_0 p0_l.length c0_0)) 9 (.int .i64 ((p0_l.length : Nat) : Int))) 10 (.int .i64 s.2))) (fun s e L tm => e = .exit 0 ∧ ∃ (tm0 : Nat → Value), L = [] ∧ tm = (upd (upd (upd (upd (upd (upd (upd tm0 0 (.slice A0_0 p0_l.length c0_0)) 1 (.func (.func fid1) #[] caps1.toArray)) 4 (.int .i64 0)) 5 (.int .i64 s.1)) 8 (.slice A0_0 p0_l.length c0_0)) 9 (.int .i64 ((p0_l.length : Nat) : Int))) 10 (.int .i64 s.2))) hl8 ⟨_, rfl, (keep (keep (keep (keep (keep (keep (keep rfl rfl) rfl) rfl) rfl) rfl) rfl) rfl)⟩ ?_ ?_
  · rintro s2 L tm st ⟨tm0_s2, rfl, rfl⟩ h
    unfold sample_sum_int_l1 at h
    refine cx_seq ?_
    refine cx_region ?_
    refine ox_y rfl (y_lss rfl rfl) ?_
    refine ox_nil ?_
    refine ex_then ?_
    refine cx_seq ?_
    rcases ite_some h with ⟨hp4, h⟩ | ⟨hp4, h⟩
    · refine cx_true (congrArg Value.bool hp4) ?_
      refine cx_skip ?_
      refine ex_then ?_
      refine cx_seq ?_
      refine cx_block ?_
      refine cx_seq ?_
      refine cx_region ?_
      obtain ⟨hg5, h⟩ := guardO_some h
      refine ox_y rfl (y_indexR sl_66 (by decide) hg5.1 hg5.2 (RdL.arg hr0_0) (encL_len cI_len rfl) rfl rfl) ?_
      refine ox_y rfl (y_loadR1 (A := A0_0) (j := (Int.toNat s2.2 * 1)) (v := .int .i64 (rdL p0_l s2.2)) sc_3 (RdL.arg hr0_0) rfl (encL_get0 cI_len hg5.1 (lt_nat hg5.2 rfl) rfl)) ?_
      refine ox_y rfl (y_assign_int rfl) ?_
      refine ox_nil ?_
      refine ex_then ?_
      refine cx_region ?_
      refine ox_y rfl (y_move_int rfl) ?_
      refine ox_y rfl (y_move (v := .func (.func fid1) #[] caps1.toArray) rfl) ?_
      refine ox_y rfl (y_move_int rfl) ?_
      obtain ⟨y6, hy7, h⟩ := bind_some h
      refine ox_y rfl (y_callv [.int .i64 (rdL p0_l s2.2)] hgo1 rfl rfl (fun W2 hW2 => hof1 W2 hW2.below (rdL p0_l s2.2) y6 hy7)) ?_
      refine ox_y rfl (y_add rfl rfl) ?_
      refine ox_y rfl (y_assign_int rfl) ?_
      refine ox_nil ?_
      refine ex_block ?_
      refine ex_then ?_
      refine cx_region ?_
      refine ox_y rfl (y_add rfl rfl) ?_
      refine ox_y rfl (y_move_int rfl) ?_
      refine ox_nil ?_
      obtain rfl := Option.some.inj h
      exact ex_next ⟨_, rfl, (keep (keep (keep (keep (keep (keep (keep rfl rfl) rfl) rfl) rfl) rfl) rfl) rfl)⟩
    · refine cx_false (congrArg Value.bool hp4) ?_
      refine cx_exit ?_
      refine ex_then_exit ?_
      obtain rfl := Option.some.inj h
      exact ex_stop ⟨rfl, _, rfl, (keep (keep (keep (keep (keep (keep (keep rfl rfl) rfl) rfl) rfl) rfl) rfl) rfl)⟩
  · intro e L tm hJ
    obtain ⟨rfl, tm0_u3, rfl, rfl⟩ := hJ
    refine ⟨(by intro hc; cases hc), ?_⟩
    refine ex_block_here ?_
    refine ex_then ?_
    refine cx_seq ?_
    refine cx_region ?_
    refine ox_y rfl (y_move_int rfl) ?_
    refine ox_y rfl (y_assign_int rfl) ?_
    refine ox_nil ?_
    refine ex_then ?_
    refine cx_ret ?_
    obtain rfl := Option.some.inj h
    exact ex_res1 (.inl rfl) rfl (resV_tmp (v := .int .i64 u3.1) rfl) (fun W2 hW2 => ⟨rfl, hW2.none⟩)

/-! calx/sample.size$1 -/
set_option maxRecDepth 100000 in
theorem sample_size_1_ok (p0_n : Int) (res : Int) (h : sample_size_1 p0_n = some res) (W : World)  :
    Calls Try.prog 122 [.int .i64 p0_n].toArray W fun e W2 => e = .returned (.int .i64 res) ∧ Ext W W2 [] := by
  unfold sample_size_1 at h
  refine calls_enter (m := 5) Try.func122 rfl rfl (Nat.le_of_ble_eq_true rfl) ?_
  refine cx_seq ?_
  refine cx_region ?_
  refine ox_y rfl (y_assign_int rfl) ?_
  refine ox_nil ?_
  refine ex_then ?_
  refine cx_seq ?_
  refine cx_region ?_
  refine ox_y rfl (y_move_int rfl) ?_
  refine ox_y rfl (y_min rfl rfl) ?_
  refine ox_y rfl (y_assign_int rfl) ?_
  refine ox_nil ?_
  refine ex_then ?_
  refine cx_ret ?_
  obtain rfl := Option.some.inj h
  exact ex_res1 (.inl rfl) rfl (resV_tmp (v := .int .i64 (min p0_n 51)) rfl) (fun W2 hW2 => ⟨rfl, hW2.none⟩)

/-! calx/sample.size -/
set_option maxRecDepth 100000 in
theorem sample_size_ok (p0_k : TKinds) (res : Int) (h : sample_size p0_k = some res) (W : World)  :
    Calls Try.prog 94 [.agg #[.int .i64 p0_k.x0, .int .i64 p0_k.x1, .int .i64 p0_k.x2]].toArray W fun e W2 => e = .returned (.int .i64 res) ∧ Ext W W2 [] := by
  unfold sample_size at h
  refine calls_enter (m := 5) Try.func94 rfl rfl (Nat.le_of_ble_eq_true rfl) ?_
  refine cx_seq ?_
  refine cx_region ?_
  refine ox_box [.int .i64 p0_k.x0, .int .i64 p0_k.x1, .int .i64 p0_k.x2] rfl rfl rfl (fun b1 => ?_)
  refine ox_y rfl (y_assign_int rfl) ?_
  refine ox_nil ?_
  refine ex_then ?_
  refine cx_seq ?_
  refine cx_region ?_
  refine ox_y rfl (y_sliceArr ua_43 sz_3 rfl) ?_
  obtain ⟨y3, hy4, h⟩ := bind_some h
  refine ox_y rfl (y_call [.slice (some ⟨b1, 0, none⟩) 3 3, .func (.func 122) #[] #[]] go_106 rfl (fun W2 hW2 => sample_sum_int_ok [p0_k.x0, p0_k.x1, p0_k.x2] (fun x2 => sample_size_1 x2) y3 hy4 W2 (some ⟨b1, 0, none⟩) 3 3 rfl ((RdL.cellsAs 0 3 rfl) W2 hW2) 122 [] go_122 (fun W3 hb x y hxy => sample_size_1_ok x  y hxy W3 )) rfl) ?_
  refine ox_y rfl (y_assign_int rfl) ?_
  refine ox_nil ?_
  refine ex_then ?_
  refine cx_ret ?_
  obtain rfl := Option.some.inj h
  exact ex_res1 (.inl rfl) rfl (resV_tmp (v := .int .i64 y3) rfl) (fun W2 hW2 => ⟨rfl, hW2.none⟩)

/-! calx/sample.wholes$1 -/
set_option maxRecDepth 100000 in
theorem sample_wholes_1_ok (p0_i : Int) (cap0 : TBatch) (res : Int) (h : sample_wholes_1 p0_i cap0 = some res) (W : World) (bc0 : Nat) (hcap0 : Rd W (some ⟨bc0, 0, none⟩) 1 1 (TBatch_cells cap0)) :
    Calls Try.prog 124 [.int .i64 p0_i, .pointer (some ⟨bc0, 0, none⟩)].toArray W fun e W2 => e = .returned (.int .i64 res) ∧ Ext W W2 [] := by
  unfold sample_wholes_1 at h
  refine calls_enter (m := 14) Try.func124 rfl rfl (Nat.le_of_ble_eq_true rfl) ?_
  refine cx_seq ?_
  refine cx_region ?_
  refine ox_y rfl (y_assign_int rfl) ?_
  refine ox_nil ?_
  refine ex_then ?_
  refine cx_seq ?_
  refine cx_draws 11 mixed (by kernel_rfl) (by kernel_rfl) ?_
  refine qx_y rfl (y_move_int rfl) ?_
  refine qx_y rfl (y_fieldAddrR (A := (some ⟨bc0, 0, none⟩)) (j := 0) fo_52_1 rfl) ?_
  obtain ⟨hg1, h⟩ := guardO_some h
  refine qx_y rfl (y_indexArrR (A := (some ⟨bc0, 0, none⟩)) (j := (0 + 1)) ar_43 hg1.1 hg1.2 rfl rfl) ?_
  refine qx_y rfl (y_loadR1 (A := (some ⟨bc0, 0, none⟩)) (j := ((0 + 1) + Int.toNat p0_i * 1)) (v := .int .i64 (sel3 cap0.fSeen.x0 cap0.fSeen.x1 cap0.fSeen.x2 p0_i)) sc_3 (RdL.arg hcap0) rfl (by rcases in3 hg1 with e | e | e <;> rw [e] <;> rfl)) ?_
  refine qx_y rfl (y_move_int rfl) ?_
  refine qx_y rfl (y_fieldAddrR (A := (some ⟨bc0, 0, none⟩)) (j := 0) fo_52_2 rfl) ?_
  obtain ⟨hg2, h⟩ := guardO_some h
  refine qx_y rfl (y_indexArrR (A := (some ⟨bc0, 0, none⟩)) (j := (0 + 4)) ar_50 hg2.1 hg2.2 rfl rfl) ?_
  refine qx_y rfl (y_fieldAddrR (A := (some ⟨bc0, 0, none⟩)) (j := ((0 + 4) + Int.toNat p0_i * 2)) fo_33_0 rfl) ?_
  refine qx_y rfl (y_loadR1 (A := (some ⟨bc0, 0, none⟩)) (j := (((0 + 4) + Int.toNat p0_i * 2) + 0)) (v := .int .i64 (sel3 cap0.fKnown.x0.fLo cap0.fKnown.x1.fLo cap0.fKnown.x2.fLo p0_i)) sc_3 (RdL.arg hcap0) rfl (by rcases in3 hg2 with e | e | e <;> rw [e] <;> rfl)) ?_
  refine qx_y rfl (y_max rfl rfl) ?_
  refine qx_y rfl (y_assign_int rfl) ?_
  refine qx_nil ?_
  refine ox_nil ?_
  refine ex_then ?_
  refine cx_ret ?_
  obtain rfl := Option.some.inj h
  exact ex_res1 (.inl rfl) rfl (resV_tmp (v := .int .i64 (max (sel3 cap0.fSeen.x0 cap0.fSeen.x1 cap0.fSeen.x2 p0_i) (sel3 cap0.fKnown.x0.fLo cap0.fKnown.x1.fLo cap0.fKnown.x2.fLo p0_i))) rfl) (fun W2 hW2 => ⟨rfl, hW2.none⟩)

/-! calx/sample.wholes$2 -/
set_option maxRecDepth 100000 in
theorem sample_wholes_2_seq (b : TBatch) (hok : sample_okB b) (w : World) (bl bb : Nat) (h1 : w.heap[bl]? = some (.cells #[.func (.func 124) #[] #[.pointer (some ⟨bb, 0, none⟩)]] 136 (0, 0))) (h2 : w.heap[bb]? = some (.cells (TBatch_cells b).toArray 52 (0, 0))) :
    SeqX Try.prog 125 [.pointer (some ⟨bl, 0, none⟩), .pointer (some ⟨bb, 0, none⟩)] (fun x : TKinds => [.agg #[.int .i64 x.x0, .int .i64 x.x1, .int .i64 x.x2]]) [bl, bb] (sample_wh b) w := by
  intro l J Jx W hb hJ hJx hy h0
  obtain ⟨xs, hxs⟩ : ∃ xs, xs = sample_wh b := ⟨_, rfl⟩
  rw [← hxs] at hy ⊢
  let H : World → Prop := fun W => W.heap[bl]? = some (.cells #[.func (.func 124) #[] #[.pointer (some ⟨bb, 0, none⟩)]] 136 (0, 0)) ∧ W.heap[bb]? = some (.cells (TBatch_cells b).toArray 52 (0, 0))
  have hHE : ∀ {A B : World}, H A → Ext A B [] → H B := fun {A B} hA hE => ⟨(hE.below.block bl (lt_of_block hA.1)).trans hA.1, (hE.below.block bb (lt_of_block hA.2)).trans hA.2⟩
  have hH : H W := ⟨(hb.block bl (lt_of_block h1)).trans h1, (hb.block bb (lt_of_block h2)).trans h2⟩
  have hJE : ∀ {i : Nat} {A B : World}, J i A → Ext A B [] → J i B := fun {i A B} hA hE => AbidesFrom.ext hJ hA hE
  have hxE : ∀ {A B : World}, Jx A → Ext A B [] → Jx B := fun {A B} hA hE => AbidesFrom.ext (J := fun (_ : Unit) => Jx) hJx (s := ()) hA hE
  unfold sample_okB at hok
  have lo : ∀ (i : Int), 0 ≤ i ∧ i < 3 → sample_wholes_1 i b = some (max (sel3 b.fSeen.x0 b.fSeen.x1 b.fSeen.x2 i) (sel3 b.fKnown.x0.fLo b.fKnown.x1.fLo b.fKnown.x2.fLo i)) := fun i hi => by
    unfold sample_wholes_1
    rw [guardO_pos hi, guardO_pos hi]
  refine callsIn_enter (vs := [.func (.yield l) #[] #[], .pointer (some ⟨bl, 0, none⟩), .pointer (some ⟨bb, 0, none⟩)]) (m := 50) Try.func125 rfl rfl (Nat.le_of_ble_eq_true rfl) ?_
  refine cx_seq ?_
  refine cx_region ?_
  refine ox_y rfl (y_loadR1 (A := (some ⟨bl, 0, none⟩)) (j := 0) (v := .func (.func 124) #[] #[.pointer (some ⟨bb, 0, none⟩)]) sc_136 (RdL.arg (Rd.blk hH.1)) rfl rfl) ?_
  refine ox_y rfl (y_callv (caps := [.pointer (some ⟨bb, 0, none⟩)]) [.int .i64 0] go_124 rfl rfl (fun W2 hW2 => sample_wholes_1_ok 0 b _ (lo 0 (by decide)) W2 bb (Rd.blk (hHE hH hW2).2))) ?_
  refine ox_y rfl (y_assign_int rfl) ?_
  refine ox_nil ?_
  refine ex_then ?_
  refine cx_block ?_
  let hi0 := b.fKnown.x0.fHi
  let lo1 := max b.fSeen.x1 b.fKnown.x1.fLo
  let hi1 := b.fKnown.x1.fHi
  refine cx_loopS (S := Int × Nat) (fun s tm0 => upd (upd (upd (upd tm0 0 (.func (.yield l) #[] #[])) 1 (.pointer (some ⟨bl, 0, none⟩))) 2 (.pointer (some ⟨bb, 0, none⟩))) 4 (.int .i64 s.1))
    (fun s W => H W ∧ J s.2 W ∧ s.2 ≤ xs.length ∧ 0 ≤ s.1 ∧ s.1 ≤ 51 ∧ xs.drop s.2 = sample_whX b (hi0 + 1 - s.1).toNat s.1) (fun s => (hi0 + 1 - s.1).toNat) (max b.fSeen.x0 b.fKnown.x0.fLo, 0) _ (keep (keep (keep (keep rfl rfl) rfl) rfl) rfl)
    (fun W' hW' => ⟨hHE hH hW', hJE h0 hW', Nat.zero_le _, (by simp only []; omega), (by simp only []; omega), (by rw [List.drop_zero, hxs]; rfl)⟩) ?_
  rintro ⟨x, i⟩ tm0 W1 ⟨hH1, hJ1, hi1', hx0, hx1, hdr⟩
  simp only [] at hJ1 hi1' hx0 hx1 hdr
  refine cx_seq ?_
  refine cx_seq ?_
  refine cx_region ?_
  refine ox_y rfl (y_move_int rfl) ?_
  refine ox_y rfl (y_fieldAddrR (A := (some ⟨bb, 0, none⟩)) (j := 0) fo_52_2 rfl) ?_
  refine ox_y rfl (y_indexArrR (A := (some ⟨bb, 0, none⟩)) (j := 0 + 4) ar_50 (by decide) (by decide) rfl rfl) ?_
  refine ox_y rfl (y_fieldAddrR (A := (some ⟨bb, 0, none⟩)) (j := 0 + 4 + Int.toNat 0 * 2) fo_33_1 rfl) ?_
  refine ox_y rfl (y_loadR1 (A := (some ⟨bb, 0, none⟩)) (j := 0 + 4 + Int.toNat 0 * 2 + 1) (v := .int .i64 b.fKnown.x0.fHi) sc_3 (RdL.arg (Rd.blk hH1.2)) rfl rfl) ?_
  refine ox_y rfl (y_leq rfl rfl) ?_
  refine ox_nil ?_
  refine ex_then ?_
  rcases bool_cases (decide (x ≤ hi0)) with hp | hp
  · have hxh : x ≤ hi0 := of_decide_eq_true hp
    obtain ⟨c, hc⟩ : ∃ c, (hi0 + 1 - x).toNat = c + 1 := ⟨(hi0 + 1 - x).toNat - 1, by omega⟩
    have hc' : (hi0 + 1 - (x + 1)).toNat = c := by omega
    rw [hc] at hdr
    refine cx_true (congrArg Value.bool hp) ?_
    refine cx_skip ?_
    refine ex_then ?_
    refine cx_seq ?_
    refine cx_block ?_
    refine cx_seq ?_
    refine cx_region ?_
    refine ox_y rfl (y_loadR1 (A := (some ⟨bl, 0, none⟩)) (j := 0) (v := .func (.func 124) #[] #[.pointer (some ⟨bb, 0, none⟩)]) sc_136 (RdL.arg (Rd.blk hH1.1)) rfl rfl) ?_
    refine ox_y rfl (y_callv (caps := [.pointer (some ⟨bb, 0, none⟩)]) [.int .i64 1] go_124 rfl rfl (fun W2 hW2 => sample_wholes_1_ok 1 b _ (lo 1 (by decide)) W2 bb (Rd.blk (hHE hH1 hW2).2))) ?_
    refine ox_y rfl (y_assign_int rfl) ?_
    refine ox_nil ?_
    refine ex_then ?_
    refine cx_block ?_
    refine cx_loopS (S := Int × Nat) (fun s tm0 => upd (upd (upd (upd (upd tm0 0 (.func (.yield l) #[] #[])) 1 (.pointer (some ⟨bl, 0, none⟩))) 2 (.pointer (some ⟨bb, 0, none⟩))) 4 (.int .i64 x)) 5 (.int .i64 s.1))
      (fun s W => H W ∧ J s.2 W ∧ s.2 ≤ xs.length ∧ 0 ≤ s.1 ∧ s.1 ≤ 51 ∧ xs.drop s.2 = sample_whY b x (hi1 + 1 - s.1).toNat s.1 ++ sample_whX b c (x + 1)) (fun s => (hi1 + 1 - s.1).toNat) (lo1, i) _ (keep (keep (keep (keep (keep rfl rfl) rfl) rfl) rfl) rfl)
      (fun W' hW' => ⟨hHE hH1 hW', hJE hJ1 hW', hi1', (by simp only [lo1]; omega), (by simp only [lo1]; omega), hdr⟩) ?_
    rintro ⟨y, j⟩ tm1 W2 ⟨hH2, hJ2, hj1, hy0, hy1, hdy⟩
    simp only [] at hJ2 hj1 hy0 hy1 hdy
    refine cx_seq ?_
    refine cx_seq ?_
    refine cx_region ?_
    refine ox_y rfl (y_move_int rfl) ?_
    refine ox_y rfl (y_fieldAddrR (A := (some ⟨bb, 0, none⟩)) (j := 0) fo_52_2 rfl) ?_
    refine ox_y rfl (y_indexArrR (A := (some ⟨bb, 0, none⟩)) (j := 0 + 4) ar_50 (by decide) (by decide) rfl rfl) ?_
    refine ox_y rfl (y_fieldAddrR (A := (some ⟨bb, 0, none⟩)) (j := 0 + 4 + Int.toNat 1 * 2) fo_33_1 rfl) ?_
    refine ox_y rfl (y_loadR1 (A := (some ⟨bb, 0, none⟩)) (j := 0 + 4 + Int.toNat 1 * 2 + 1) (v := .int .i64 b.fKnown.x1.fHi) sc_3 (RdL.arg (Rd.blk hH2.2)) rfl rfl) ?_
    refine ox_y rfl (y_leq rfl rfl) ?_
    refine ox_nil ?_
    refine ex_then ?_
    rcases bool_cases (decide (y ≤ hi1)) with hq | hq
    · have hyh : y ≤ hi1 := of_decide_eq_true hq
      obtain ⟨c2, hc2⟩ : ∃ c2, (hi1 + 1 - y).toNat = c2 + 1 := ⟨(hi1 + 1 - y).toNat - 1, by omega⟩
      have hc2' : (hi1 + 1 - (y + 1)).toNat = c2 := by omega
      rw [hc2] at hdy
      have hz1 : w64 (b.fBarrows - x) = b.fBarrows - x := w64_id (by omega) (by omega)
      have hz : w64 (w64 (b.fBarrows - x) - y) = b.fBarrows - x - y := by rw [hz1, w64_id (by omega) (by omega)]
      refine cx_true (congrArg Value.bool hq) ?_
      refine cx_skip ?_
      refine ex_then ?_
      refine cx_seq ?_
      refine cx_block ?_
      refine cx_seq ?_
      refine cx_region ?_
      refine ox_y rfl (y_fieldAddrR (A := (some ⟨bb, 0, none⟩)) (j := 0) fo_52_0 rfl) ?_
      refine ox_y rfl (y_loadR1 (A := (some ⟨bb, 0, none⟩)) (j := 0 + 0) (v := .int .i64 b.fBarrows) sc_3 (RdL.arg (Rd.blk hH2.2)) rfl rfl) ?_
      refine ox_y rfl (y_move_int rfl) ?_
      refine ox_y rfl (y_sub rfl rfl) ?_
      refine ox_y rfl (y_move_int rfl) ?_
      refine ox_y rfl (y_sub rfl rfl) ?_
      rw [hz]
      refine ox_y rfl (y_assign_int rfl) ?_
      refine ox_nil ?_
      refine ex_then ?_
      refine cx_seq ?_
      refine cx_draws 14 mixed (by kernel_rfl) (by kernel_rfl) ?_
      refine qx_y rfl (y_move_int rfl) ?_
      refine qx_y rfl (y_loadR1 (A := (some ⟨bl, 0, none⟩)) (j := 0) (v := .func (.func 124) #[] #[.pointer (some ⟨bb, 0, none⟩)]) sc_136 (RdL.arg (Rd.blk hH2.1)) rfl rfl) ?_
      refine qx_y rfl (y_callv (caps := [.pointer (some ⟨bb, 0, none⟩)]) [.int .i64 2] go_124 rfl rfl (fun W2 hW2 => sample_wholes_1_ok 2 b _ (lo 2 (by decide)) W2 bb (Rd.blk (hHE hH2 hW2).2))) ?_
      refine qx_y rfl (y_fieldAddrR (A := (some ⟨bb, 0, none⟩)) (j := 0) fo_52_2 rfl) ?_
      refine qx_y rfl (y_indexArrR (A := (some ⟨bb, 0, none⟩)) (j := 0 + 4) ar_50 (by decide) (by decide) rfl rfl) ?_
      refine qx_y rfl (y_fieldAddrR (A := (some ⟨bb, 0, none⟩)) (j := 0 + 4 + Int.toNat 2 * 2) fo_33_1 rfl) ?_
      refine qx_y rfl (y_loadR1 (A := (some ⟨bb, 0, none⟩)) (j := 0 + 4 + Int.toNat 2 * 2 + 1) (v := .int .i64 b.fKnown.x2.fHi) sc_3 (RdL.arg (Rd.blk hH2.2)) rfl rfl) ?_
      let lo2 := max b.fSeen.x2 b.fKnown.x2.fLo
      let hi2 := b.fKnown.x2.fHi
      let z := b.fBarrows - x - y
      have hwi : sample_within z lo2 hi2 = some (decide (lo2 ≤ z) && decide (z ≤ hi2)) := rfl
      refine qx_y rfl (y_call [.int .i64 z, .int .i64 lo2, .int .i64 hi2] go_74 rfl (fun W2 hW2 => sample_within_ok z lo2 hi2 _ hwi W2) rfl) ?_
      refine qx_y rfl (y_move_bool rfl) ?_
      have hyy : w64 (y + 1) = y + 1 := w64_id (by omega) (by omega)
      unfold sample_whY at hdy
      rcases bool_cases (decide (lo2 ≤ z) && decide (z ≤ hi2)) with hw | hw
      · have hwp : lo2 ≤ z ∧ z ≤ hi2 := by simpa using hw
        rw [if_pos hwp, List.append_assoc, List.singleton_append] at hdy
        have hget : xs[j]? = some ⟨x, y, z⟩ := by
          have := congrArg (fun l => l[0]?) hdy
          simpa using this
        have hjl : j < xs.length := (List.getElem?_eq_some_iff.1 hget).1
        have hdr2 : xs.drop (j + 1) = sample_whY b x c2 (y + 1) ++ sample_whX b c (x + 1) := by
          have := congrArg (List.drop 1) hdy
          simpa using this
        refine qx_y (sees_t rfl rfl rfl rfl hw) (y_move (v := .func (.yield l) #[] #[]) rfl) ?_
        refine qx_y (sees_t rfl rfl rfl rfl hw) (y_move_int rfl) ?_
        refine qx_y (sees_t rfl rfl rfl rfl hw) (y_move_int rfl) ?_
        refine qx_y (sees_t rfl rfl rfl rfl hw) (y_move_int rfl) ?_
        refine qx_y (sees_t rfl rfl rfl rfl hw) (y_buildA [.int .i64 x, .int .i64 y, .int .i64 z] ua_43 ze_43 sz_3 (by kernel_rfl)) ?_
        refine qx_nil ?_
        refine ox_yield [.agg #[.int .i64 x, .int .i64 y, .int .i64 z]] (A := fun W' => J (j + 1) W' ∧ H W') (B := Jx) (sees_t rfl rfl rfl rfl hw) rfl rfl (fun W' hW' => ?_) (fun W' hA => ?_) (fun W' hB => ?_)
        · obtain ⟨fn, tmps, assign, body, hr, hR⟩ := hy j ⟨x, y, z⟩ W' hget (hJE hJ2 hW')
          refine ⟨fn, tmps, assign, body, hr, hR.mono ?_⟩
          rintro e W3 (⟨rfl, h3, h4⟩ | ⟨rfl, h3⟩)
          · have h5 := hHE hH2 hW'
            exact .inl ⟨rfl, h3, (h4 bl (by simp)).trans h5.1, (h4 bb (by simp)).trans h5.2⟩
          · exact .inr ⟨rfl, h3⟩
        · refine ox_y (sees_t rfl rfl rfl rfl hw) (y_not rfl) ?_
          refine ox_y rfl (y_pick_tb (congrArg Value.bool hw) rfl) ?_
          refine ox_nil ?_
          refine ex_then ?_
          refine cx_false rfl ?_
          refine cx_skip ?_
          refine ex_block ?_
          refine ex_then ?_
          refine cx_region ?_
          refine ox_y rfl (y_move_int rfl) ?_
          refine ox_y rfl (y_add rfl rfl) ?_
          refine ox_y rfl (y_assign_int rfl) ?_
          refine ox_nil ?_
          rw [hyy]
          refine ex_snext (y + 1, j + 1) _ (keep (keep (keep (keep (keep rfl rfl) rfl) rfl) rfl) rfl) (by simp only []; omega) (fun W3 hW3 => ⟨hHE hA.2 hW3, hJE hA.1 hW3, hjl, (by simp only []; omega), (by simp only []; omega), ?_⟩)
          simp only []
          rw [hc2']
          exact hdr2
        · refine ox_y (sees_t rfl rfl rfl rfl hw) (y_not rfl) ?_
          refine ox_y rfl (y_pick_tb (congrArg Value.bool hw) rfl) ?_
          refine ox_nil ?_
          refine ex_then ?_
          refine cx_true rfl ?_
          refine cx_ret ?_
          refine ex_block_ret ?_
          refine ex_then_ret ?_
          refine ex_sout (by intro h; cases h) ?_
          refine ex_block_ret ?_
          refine ex_block_ret ?_
          refine ex_then_ret ?_
          refine ex_sout (by intro h; cases h) ?_
          refine ex_block_ret ?_
          exact ex_result0 (.inl rfl) rfl (fun W2 hW2 => ⟨⟨_, rfl⟩, .inr (hxE hB hW2)⟩)
      · have hwn : ¬ (lo2 ≤ z ∧ z ≤ hi2) := fun h => by
          rw [Bool.and_eq_false_iff] at hw
          rcases hw with hw | hw
          · exact absurd h.1 (of_decide_eq_false hw)
          · exact absurd h.2 (of_decide_eq_false hw)
        rw [if_neg hwn, List.nil_append] at hdy
        refine qx_skip (sees_f rfl rfl rfl rfl hw) ?_
        refine qx_skip (sees_f rfl rfl rfl rfl hw) ?_
        refine qx_skip (sees_f rfl rfl rfl rfl hw) ?_
        refine qx_skip (sees_f rfl rfl rfl rfl hw) ?_
        refine qx_skip (sees_f rfl rfl rfl rfl hw) ?_
        refine qx_nil ?_
        refine ox_skip (sees_f rfl rfl rfl rfl hw) ?_
        refine ox_skip (sees_f rfl rfl rfl rfl hw) ?_
        refine ox_y rfl (y_pick_fb (congrArg Value.bool hw) rfl) ?_
        refine ox_nil ?_
        refine ex_then ?_
        refine cx_false rfl ?_
        refine cx_skip ?_
        refine ex_block ?_
        refine ex_then ?_
        refine cx_region ?_
        refine ox_y rfl (y_move_int rfl) ?_
        refine ox_y rfl (y_add rfl rfl) ?_
        refine ox_y rfl (y_assign_int rfl) ?_
        refine ox_nil ?_
        rw [hyy]
        refine ex_snext (y + 1, j) _ (keep (keep (keep (keep (keep rfl rfl) rfl) rfl) rfl) rfl) (by simp only []; omega) (fun W3 hW3 => ⟨hHE hH2 hW3, hJE hJ2 hW3, hj1, (by simp only []; omega), (by simp only []; omega), ?_⟩)
        simp only []
        rw [hc2']
        exact hdy
    · refine cx_false (congrArg Value.bool hq) ?_
      refine cx_exit ?_
      refine ex_then_exit ?_
      refine ex_sout (by intro h; cases h) ?_
      refine ex_block_here ?_
      refine ex_block ?_
      refine ex_then ?_
      refine cx_region ?_
      refine ox_y rfl (y_move_int rfl) ?_
      refine ox_y rfl (y_add rfl rfl) ?_
      refine ox_y rfl (y_assign_int rfl) ?_
      refine ox_nil ?_
      have hx1' : w64 (x + 1) = x + 1 := w64_id (by omega) (by omega)
      rw [hx1']
      have hyh : ¬ y ≤ hi1 := of_decide_eq_false hq
      refine ex_snext (x + 1, j) _ (keep (keep (keep (keep rfl rfl) rfl) rfl) rfl) (by simp only []; omega) (fun W' hW' => ⟨hHE hH2 hW', hJE hJ2 hW', hj1, (by simp only []; omega), (by simp only []; omega), ?_⟩)
      simp only []
      rw [hc']
      rw [show (hi1 + 1 - y).toNat = 0 by omega] at hdy
      exact hdy
  · refine cx_false (congrArg Value.bool hp) ?_
    refine cx_exit ?_
    refine ex_then_exit ?_
    refine ex_sout (by intro h; cases h) ?_
    refine ex_block_here ?_
    have hxh : ¬ x ≤ hi0 := of_decide_eq_false hp
    rw [show (hi0 + 1 - x).toNat = 0 by omega] at hdr
    refine ex_result0 (.inr rfl) rfl (fun W2 hW2 => ⟨⟨_, rfl⟩, .inl ?_⟩)
    have hil : i = xs.length := by
      have := congrArg List.length hdr
      rw [List.length_drop] at this
      simp only [sample_whX, List.length_nil] at this
      omega
    rw [← hil]
    exact hJE hJ1 hW2

/-! calx/sample.wholes -/
set_option maxRecDepth 100000 in
theorem sample_wholes_ok (p0_b : TBatch) (res : TBatch) (h : sample_wholes p0_b = some res) (W : World)  :
    Calls Try.prog 99 [.agg #[.int .i64 p0_b.fBarrows, .int .i64 p0_b.fSeen.x0, .int .i64 p0_b.fSeen.x1, .int .i64 p0_b.fSeen.x2, .int .i64 p0_b.fKnown.x0.fLo, .int .i64 p0_b.fKnown.x0.fHi, .int .i64 p0_b.fKnown.x1.fLo, .int .i64 p0_b.fKnown.x1.fHi, .int .i64 p0_b.fKnown.x2.fLo, .int .i64 p0_b.fKnown.x2.fHi]].toArray W fun e W2 => ∃ x : (Nat × Nat), e = .returned (.func (.func 125) #[] #[.pointer (some ⟨x.2, 0, none⟩), .pointer (some ⟨x.1, 0, none⟩)]) ∧ Ext W W2 [cellsR x.1 52 [.int .i64 res.fBarrows, .int .i64 res.fSeen.x0, .int .i64 res.fSeen.x1, .int .i64 res.fSeen.x2, .int .i64 res.fKnown.x0.fLo, .int .i64 res.fKnown.x0.fHi, .int .i64 res.fKnown.x1.fLo, .int .i64 res.fKnown.x1.fHi, .int .i64 res.fKnown.x2.fLo, .int .i64 res.fKnown.x2.fHi], cellsR x.2 136 [.func (.func 124) #[] #[.pointer (some ⟨x.1, 0, none⟩)]]] := by
  unfold sample_wholes at h
  refine calls_enter (m := 6) Try.func99 rfl rfl (Nat.le_of_ble_eq_true rfl) ?_
  refine cx_seq ?_
  refine cx_region ?_
  refine ox_box [.int .i64 p0_b.fBarrows, .int .i64 p0_b.fSeen.x0, .int .i64 p0_b.fSeen.x1, .int .i64 p0_b.fSeen.x2, .int .i64 p0_b.fKnown.x0.fLo, .int .i64 p0_b.fKnown.x0.fHi, .int .i64 p0_b.fKnown.x1.fLo, .int .i64 p0_b.fKnown.x1.fHi, .int .i64 p0_b.fKnown.x2.fLo, .int .i64 p0_b.fKnown.x2.fHi] rfl rfl rfl (fun b1 => ?_)
  refine ox_y rfl (y_assign_nilFunc rfl) ?_
  refine ox_nil ?_
  refine ex_then ?_
  refine cx_seq ?_
  refine cx_region ?_
  refine ox_y rfl (y_makeFunc [.pointer (some ⟨b1, 0, none⟩)] rfl rfl) ?_
  refine ox_alloc ze_136 rfl (fun b2 => ?_)
  refine ox_n rfl (y_store1 1 (v := .func (.func 124) #[] #[.pointer (some ⟨b1, 0, none⟩)]) sz_136 rfl (Nat.lt_of_lt_of_le (Nat.lt_succ_self _) (Nat.le_of_ble_eq_true rfl)) rfl rfl rfl) ?_
  refine ox_nil ?_
  refine ex_then ?_
  refine cx_seq ?_
  refine cx_region ?_
  refine ox_y rfl (y_makeFunc [.pointer (some ⟨b2, 0, none⟩), .pointer (some ⟨b1, 0, none⟩)] rfl rfl) ?_
  refine ox_y rfl (y_assign_func rfl) ?_
  refine ox_nil ?_
  refine ex_then ?_
  refine cx_ret ?_
  obtain rfl := Option.some.inj h
  exact ex_res1 (.inl rfl) rfl (resV_tmp (v := .func (.func 125) #[] #[.pointer (some ⟨b2, 0, none⟩), .pointer (some ⟨b1, 0, none⟩)]) rfl) (fun W2 hW2 => ⟨(b1, b2), rfl, hW2⟩)

/-! calx/sample.isSample -/
set_option maxRecDepth 100000 in
theorem sample_isSample_ok (p0_k : TKinds) (res : Bool) (h : sample_isSample p0_k = some res) (W : World)  :
    Calls Try.prog 103 [.agg #[.int .i64 p0_k.x0, .int .i64 p0_k.x1, .int .i64 p0_k.x2]].toArray W fun e W2 => e = .returned (.bool res) ∧ Ext W W2 [] := by
  unfold sample_isSample at h
  refine calls_enter (m := 11) Try.func103 rfl rfl (Nat.le_of_ble_eq_true rfl) ?_
  refine cx_seq ?_
  refine cx_region ?_
  refine ox_box [.int .i64 p0_k.x0, .int .i64 p0_k.x1, .int .i64 p0_k.x2] rfl rfl rfl (fun b1 => ?_)
  refine ox_y rfl (y_assign_bool rfl) ?_
  refine ox_nil ?_
  refine ex_then ?_
  refine cx_seq ?_
  refine cx_region ?_
  refine ox_y rfl (y_indexArr ar_43 (by decide) (by decide) rfl rfl) ?_
  refine ox_y rfl (y_load1 0 (v := .int .i64 p0_k.x0) sc_3 rfl rfl rfl) ?_
  refine ox_y rfl (y_indexArr ar_43 (by decide) (by decide) rfl rfl) ?_
  refine ox_y rfl (y_load1 0 (v := .int .i64 p0_k.x1) sc_3 rfl rfl rfl) ?_
  refine ox_y rfl (y_indexArr ar_43 (by decide) (by decide) rfl rfl) ?_
  refine ox_y rfl (y_load1 0 (v := .int .i64 p0_k.x2) sc_3 rfl rfl rfl) ?_
  refine ox_y rfl (y_min3 rfl rfl rfl) ?_
  refine ox_y rfl (y_geq rfl rfl) ?_
  refine ox_y rfl (y_assign_bool rfl) ?_
  refine ox_nil ?_
  refine ex_then ?_
  refine cx_ret ?_
  obtain rfl := Option.some.inj h
  exact ex_res1 (.inl rfl) rfl (resV_tmp (v := .bool (decide (0 ≤ min (min p0_k.x0 p0_k.x1) p0_k.x2))) rfl) (fun W2 hW2 => ⟨rfl, hW2.none⟩)

/-! calx/sample.Check -/
set_option maxRecDepth 100000 in
theorem sample_Check_ok (p0_b : TBatch) (res : Int) (h : sample_Check p0_b = some res) (W : World)  :
    Calls Try.prog 39 [.agg #[.int .i64 p0_b.fBarrows, .int .i64 p0_b.fSeen.x0, .int .i64 p0_b.fSeen.x1, .int .i64 p0_b.fSeen.x2, .int .i64 p0_b.fKnown.x0.fLo, .int .i64 p0_b.fKnown.x0.fHi, .int .i64 p0_b.fKnown.x1.fLo, .int .i64 p0_b.fKnown.x1.fHi, .int .i64 p0_b.fKnown.x2.fLo, .int .i64 p0_b.fKnown.x2.fHi]].toArray W fun e W2 => e = .returned (.int .i64 res) ∧ Ext W W2 [] := by
  unfold sample_Check at h
  refine calls_enterM (m := 49) Try.func39 rfl rfl (Nat.le_of_ble_eq_true rfl) ?_
  refine cx_seq ?_
  refine cx_region ?_
  refine ox_box [.int .i64 p0_b.fBarrows, .int .i64 p0_b.fSeen.x0, .int .i64 p0_b.fSeen.x1, .int .i64 p0_b.fSeen.x2, .int .i64 p0_b.fKnown.x0.fLo, .int .i64 p0_b.fKnown.x0.fHi, .int .i64 p0_b.fKnown.x1.fLo, .int .i64 p0_b.fKnown.x1.fHi, .int .i64 p0_b.fKnown.x2.fLo, .int .i64 p0_b.fKnown.x2.fHi] rfl rfl rfl (fun b1 => ?_)
  refine ox_alloc ze_27 rfl (fun b2 => ?_)
  refine ox_nil ?_
  refine ex_then ?_
  refine cx_seq ?_
  refine cx_seq ?_
  refine cx_draws 18 mixed (by kernel_rfl) (by kernel_rfl) ?_
  refine qx_y rfl (y_fieldAddr fo_52_0 rfl) ?_
  refine qx_y rfl (y_load1 0 (v := .int .i64 p0_b.fBarrows) sc_3 rfl rfl rfl) ?_
  obtain ⟨y3, hy4, h⟩ := bind_some h
  refine qx_y rfl (y_call [.int .i64 p0_b.fBarrows, .int .i64 1, .int .i64 50] go_74 rfl (fun W2 hW2 => sample_within_ok p0_b.fBarrows 1 50 y3 hy4 W2 ) rfl) ?_
  refine qx_y rfl (y_not rfl) ?_
  refine qx_y rfl (y_move_bool rfl) ?_
  obtain ⟨b6, hb7, h⟩ := bind_some h
  refine qx_join 5 (fun tm0 => (upd (upd (upd (upd tm0 0 (.agg #[.int .i64 p0_b.fBarrows, .int .i64 p0_b.fSeen.x0, .int .i64 p0_b.fSeen.x1, .int .i64 p0_b.fSeen.x2, .int .i64 p0_b.fKnown.x0.fLo, .int .i64 p0_b.fKnown.x0.fHi, .int .i64 p0_b.fKnown.x1.fLo, .int .i64 p0_b.fKnown.x1.fHi, .int .i64 p0_b.fKnown.x2.fLo, .int .i64 p0_b.fKnown.x2.fHi])) 1 (.pointer (some ⟨b1, 0, none⟩))) 2 (.pointer (some ⟨b2, 0, none⟩))) 14 (.bool b6))) (fun tm0 => ?_) (fun key => ?_)
  · refine qx_y rfl (y_move_bool rfl) ?_
    obtain ⟨b9, hb10, h⟩ := bind_some h
    refine qx_join 7 (fun tm0 => (upd (upd (upd (upd tm0 0 (.agg #[.int .i64 p0_b.fBarrows, .int .i64 p0_b.fSeen.x0, .int .i64 p0_b.fSeen.x1, .int .i64 p0_b.fSeen.x2, .int .i64 p0_b.fKnown.x0.fLo, .int .i64 p0_b.fKnown.x0.fHi, .int .i64 p0_b.fKnown.x1.fLo, .int .i64 p0_b.fKnown.x1.fHi, .int .i64 p0_b.fKnown.x2.fLo, .int .i64 p0_b.fKnown.x2.fHi])) 1 (.pointer (some ⟨b1, 0, none⟩))) 2 (.pointer (some ⟨b2, 0, none⟩))) 22 (.bool b9))) (fun tm0 => ?_) (fun key => ?_)
    · refine qx_nil ?_
      refine ox_nil ?_
      refine ex_then ?_
      rcases ite_some h with ⟨hp11, h⟩ | ⟨hp11, h⟩
      · refine cx_true (congrArg Value.bool hp11) ?_
        refine cx_seq ?_
        refine cx_region ?_
        refine ox_n rfl (y_store1 1 (v := .int .i64 1) sz_27 rfl (Nat.lt_of_lt_of_le (Nat.lt_succ_self _) (Nat.le_of_ble_eq_true rfl)) rfl rfl rfl) ?_
        refine ox_nil ?_
        refine ex_then ?_
        refine cx_ret ?_
        refine ex_then_ret ?_
        refine ex_M0 (.inl rfl) ?_
        obtain rfl := Option.some.inj h
        exact ex_res1 (.inl rfl) rfl (resV_cell1 1 (v := .int .i64 1) sc_27 rfl rfl rfl) (fun W2 hW2 => ⟨rfl, hW2.none⟩)
      · refine cx_false (congrArg Value.bool hp11) ?_
        refine cx_skip ?_
        refine ex_then ?_
        refine cx_seq ?_
        refine cx_seq ?_
        refine cx_region ?_
        refine ox_y rfl (y_fieldAddr fo_52_2 rfl) ?_
        refine ox_y rfl (y_loadN 0 [.int .i64 p0_b.fKnown.x0.fLo, .int .i64 p0_b.fKnown.x0.fHi, .int .i64 p0_b.fKnown.x1.fLo, .int .i64 p0_b.fKnown.x1.fHi, .int .i64 p0_b.fKnown.x2.fLo, .int .i64 p0_b.fKnown.x2.fHi] ag_50 rfl rfl rfl) ?_
        refine ox_y rfl (y_move_int rfl) ?_
        refine ox_nil ?_
        refine ex_then ?_
        refine cx_block ?_
        obtain ⟨u15, hl22, h⟩ := bind_some h
        refine cx_loop (fun (s : (Int × Int)) L tm => ∃ (tm0 : Nat → Value), L = [cellsR b1 52 [.int .i64 p0_b.fBarrows, .int .i64 p0_b.fSeen.x0, .int .i64 p0_b.fSeen.x1, .int .i64 p0_b.fSeen.x2, .int .i64 p0_b.fKnown.x0.fLo, .int .i64 p0_b.fKnown.x0.fHi, .int .i64 p0_b.fKnown.x1.fLo, .int .i64 p0_b.fKnown.x1.fHi, .int .i64 p0_b.fKnown.x2.fLo, .int .i64 p0_b.fKnown.x2.fHi], cellsR b2 27 [.int .i64 s.2]] ∧ tm = (upd (upd (upd (upd (upd (upd tm0 0 (.agg #[.int .i64 p0_b.fBarrows, .int .i64 p0_b.fSeen.x0, .int .i64 p0_b.fSeen.x1, .int .i64 p0_b.fSeen.x2, .int .i64 p0_b.fKnown.x0.fLo, .int .i64 p0_b.fKnown.x0.fHi, .int .i64 p0_b.fKnown.x1.fLo, .int .i64 p0_b.fKnown.x1.fHi, .int .i64 p0_b.fKnown.x2.fLo, .int .i64 p0_b.fKnown.x2.fHi])) 1 (.pointer (some ⟨b1, 0, none⟩))) 2 (.pointer (some ⟨b2, 0, none⟩))) 22 (.bool b9)) 24 (.agg #[.int .i64 p0_b.fKnown.x0.fLo, .int .i64 p0_b.fKnown.x0.fHi, .int .i64 p0_b.fKnown.x1.fLo, .int .i64 p0_b.fKnown.x1.fHi, .int .i64 p0_b.fKnown.x2.fLo, .int .i64 p0_b.fKnown.x2.fHi])) 25 (.int .i64 s.1))) (fun | (.inl s), e, L, tm => e = .ret ∧ ∃ (tm0 : Nat → Value), L = [cellsR b1 52 [.int .i64 p0_b.fBarrows, .int .i64 p0_b.fSeen.x0, .int .i64 p0_b.fSeen.x1, .int .i64 p0_b.fSeen.x2, .int .i64 p0_b.fKnown.x0.fLo, .int .i64 p0_b.fKnown.x0.fHi, .int .i64 p0_b.fKnown.x1.fLo, .int .i64 p0_b.fKnown.x1.fHi, .int .i64 p0_b.fKnown.x2.fLo, .int .i64 p0_b.fKnown.x2.fHi], cellsR b2 27 [.int .i64 s.2]] ∧ tm = (upd (upd (upd (upd (upd (upd tm0 0 (.agg #[.int .i64 p0_b.fBarrows, .int .i64 p0_b.fSeen.x0, .int .i64 p0_b.fSeen.x1, .int .i64 p0_b.fSeen.x2, .int .i64 p0_b.fKnown.x0.fLo, .int .i64 p0_b.fKnown.x0.fHi, .int .i64 p0_b.fKnown.x1.fLo, .int .i64 p0_b.fKnown.x1.fHi, .int .i64 p0_b.fKnown.x2.fLo, .int .i64 p0_b.fKnown.x2.fHi])) 1 (.pointer (some ⟨b1, 0, none⟩))) 2 (.pointer (some ⟨b2, 0, none⟩))) 22 (.bool b9)) 24 (.agg #[.int .i64 p0_b.fKnown.x0.fLo, .int .i64 p0_b.fKnown.x0.fHi, .int .i64 p0_b.fKnown.x1.fLo, .int .i64 p0_b.fKnown.x1.fHi, .int .i64 p0_b.fKnown.x2.fLo, .int .i64 p0_b.fKnown.x2.fHi])) 25 (.int .i64 s.1)) | (.inr s), e, L, tm => e = .exit 0 ∧ ∃ (tm0 : Nat → Value), L = [cellsR b1 52 [.int .i64 p0_b.fBarrows, .int .i64 p0_b.fSeen.x0, .int .i64 p0_b.fSeen.x1, .int .i64 p0_b.fSeen.x2, .int .i64 p0_b.fKnown.x0.fLo, .int .i64 p0_b.fKnown.x0.fHi, .int .i64 p0_b.fKnown.x1.fLo, .int .i64 p0_b.fKnown.x1.fHi, .int .i64 p0_b.fKnown.x2.fLo, .int .i64 p0_b.fKnown.x2.fHi], cellsR b2 27 [.int .i64 s.2]] ∧ tm = (upd (upd (upd (upd (upd (upd tm0 0 (.agg #[.int .i64 p0_b.fBarrows, .int .i64 p0_b.fSeen.x0, .int .i64 p0_b.fSeen.x1, .int .i64 p0_b.fSeen.x2, .int .i64 p0_b.fKnown.x0.fLo, .int .i64 p0_b.fKnown.x0.fHi, .int .i64 p0_b.fKnown.x1.fLo, .int .i64 p0_b.fKnown.x1.fHi, .int .i64 p0_b.fKnown.x2.fLo, .int .i64 p0_b.fKnown.x2.fHi])) 1 (.pointer (some ⟨b1, 0, none⟩))) 2 (.pointer (some ⟨b2, 0, none⟩))) 22 (.bool b9)) 24 (.agg #[.int .i64 p0_b.fKnown.x0.fLo, .int .i64 p0_b.fKnown.x0.fHi, .int .i64 p0_b.fKnown.x1.fLo, .int .i64 p0_b.fKnown.x1.fHi, .int .i64 p0_b.fKnown.x2.fLo, .int .i64 p0_b.fKnown.x2.fHi])) 25 (.int .i64 s.1))) hl22 ⟨_, rfl, (keep (keep (keep (keep (keep (keep rfl rfl) rfl) rfl) rfl) rfl) rfl)⟩ ?_ ?_
        · rintro s14 L tm st ⟨tm0_s14, rfl, rfl⟩ h
          unfold sample_Check_l1 at h
          refine cx_seq ?_
          refine cx_region ?_
          refine ox_y rfl (y_lss rfl rfl) ?_
          refine ox_nil ?_
          refine ex_then ?_
          refine cx_seq ?_
          rcases ite_some h with ⟨hp16, h⟩ | ⟨hp16, h⟩
          · refine cx_true (congrArg Value.bool hp16) ?_
            refine cx_skip ?_
            refine ex_then ?_
            refine cx_seq ?_
            refine cx_block ?_
            refine cx_seq ?_
            refine cx_region ?_
            obtain ⟨hg17, h⟩ := guardO_some h
            refine ox_y rfl (y_indexN [.int .i64 p0_b.fKnown.x0.fLo, .int .i64 p0_b.fKnown.x0.fHi, .int .i64 p0_b.fKnown.x1.fLo, .int .i64 p0_b.fKnown.x1.fHi, .int .i64 p0_b.fKnown.x2.fLo, .int .i64 p0_b.fKnown.x2.fHi] [.int .i64 (sel3 p0_b.fKnown.x0.fLo p0_b.fKnown.x1.fLo p0_b.fKnown.x2.fLo s14.1), .int .i64 (sel3 p0_b.fKnown.x0.fHi p0_b.fKnown.x1.fHi p0_b.fKnown.x2.fHi s14.1)] ua_50 ag_33 hg17.1 hg17.2 rfl rfl (by rcases in3 hg17 with e | e | e <;> rw [e] <;> rfl)) ?_
            refine ox_alloc ze_33 rfl (fun b18 => ?_)
            refine ox_n rfl (y_storeN 2 [.int .i64 (sel3 p0_b.fKnown.x0.fLo p0_b.fKnown.x1.fLo p0_b.fKnown.x2.fLo s14.1), .int .i64 (sel3 p0_b.fKnown.x0.fHi p0_b.fKnown.x1.fHi p0_b.fKnown.x2.fHi s14.1)] sz_33 rfl (Nat.le_of_ble_eq_true rfl) rfl rfl rfl) ?_
            refine ox_nil ?_
            refine ex_then ?_
            refine cx_seq ?_
            refine cx_region ?_
            refine ox_y rfl (y_fieldAddr fo_33_0 rfl) ?_
            refine ox_y rfl (y_load1 2 (v := .int .i64 (sel3 p0_b.fKnown.x0.fLo p0_b.fKnown.x1.fLo p0_b.fKnown.x2.fLo s14.1)) sc_3 rfl rfl rfl) ?_
            refine ox_y rfl (y_lss rfl rfl) ?_
            refine ox_y rfl (y_move_bool rfl) ?_
            refine ox_join 6 (fun tm0 => (upd (upd (upd (upd (upd (upd (upd (upd (upd tm0 0 (.agg #[.int .i64 p0_b.fBarrows, .int .i64 p0_b.fSeen.x0, .int .i64 p0_b.fSeen.x1, .int .i64 p0_b.fSeen.x2, .int .i64 p0_b.fKnown.x0.fLo, .int .i64 p0_b.fKnown.x0.fHi, .int .i64 p0_b.fKnown.x1.fLo, .int .i64 p0_b.fKnown.x1.fHi, .int .i64 p0_b.fKnown.x2.fLo, .int .i64 p0_b.fKnown.x2.fHi])) 1 (.pointer (some ⟨b1, 0, none⟩))) 2 (.pointer (some ⟨b2, 0, none⟩))) 22 (.bool b9)) 24 (.agg #[.int .i64 p0_b.fKnown.x0.fLo, .int .i64 p0_b.fKnown.x0.fHi, .int .i64 p0_b.fKnown.x1.fLo, .int .i64 p0_b.fKnown.x1.fHi, .int .i64 p0_b.fKnown.x2.fLo, .int .i64 p0_b.fKnown.x2.fHi])) 25 (.int .i64 s14.1)) 26 (.bool (decide (s14.1 < 3)))) 4 (.pointer (some ⟨b18, 0, none⟩))) 37 (.bool ((decide (sel3 p0_b.fKnown.x0.fLo p0_b.fKnown.x1.fLo p0_b.fKnown.x2.fLo s14.1 < 0)) || (decide (sel3 p0_b.fKnown.x0.fHi p0_b.fKnown.x1.fHi p0_b.fKnown.x2.fHi s14.1 < sel3 p0_b.fKnown.x0.fLo p0_b.fKnown.x1.fLo p0_b.fKnown.x2.fLo s14.1)))))) (fun tm0 => ?_) (fun key => ?_)
            · refine ox_y rfl (y_move_bool rfl) ?_
              refine ox_join 6 (fun tm0 => (upd (upd (upd (upd (upd (upd (upd (upd (upd tm0 0 (.agg #[.int .i64 p0_b.fBarrows, .int .i64 p0_b.fSeen.x0, .int .i64 p0_b.fSeen.x1, .int .i64 p0_b.fSeen.x2, .int .i64 p0_b.fKnown.x0.fLo, .int .i64 p0_b.fKnown.x0.fHi, .int .i64 p0_b.fKnown.x1.fLo, .int .i64 p0_b.fKnown.x1.fHi, .int .i64 p0_b.fKnown.x2.fLo, .int .i64 p0_b.fKnown.x2.fHi])) 1 (.pointer (some ⟨b1, 0, none⟩))) 2 (.pointer (some ⟨b2, 0, none⟩))) 22 (.bool b9)) 24 (.agg #[.int .i64 p0_b.fKnown.x0.fLo, .int .i64 p0_b.fKnown.x0.fHi, .int .i64 p0_b.fKnown.x1.fLo, .int .i64 p0_b.fKnown.x1.fHi, .int .i64 p0_b.fKnown.x2.fLo, .int .i64 p0_b.fKnown.x2.fHi])) 25 (.int .i64 s14.1)) 26 (.bool (decide (s14.1 < 3)))) 4 (.pointer (some ⟨b18, 0, none⟩))) 44 (.bool (((decide (sel3 p0_b.fKnown.x0.fLo p0_b.fKnown.x1.fLo p0_b.fKnown.x2.fLo s14.1 < 0)) || (decide (sel3 p0_b.fKnown.x0.fHi p0_b.fKnown.x1.fHi p0_b.fKnown.x2.fHi s14.1 < sel3 p0_b.fKnown.x0.fLo p0_b.fKnown.x1.fLo p0_b.fKnown.x2.fLo s14.1))) || (decide (p0_b.fBarrows < sel3 p0_b.fKnown.x0.fHi p0_b.fKnown.x1.fHi p0_b.fKnown.x2.fHi s14.1)))))) (fun tm0 => ?_) (fun key => ?_)
              · refine ox_nil ?_
                refine ex_then ?_
                rcases ite_some h with ⟨hp21, h⟩ | ⟨hp21, h⟩
                · refine cx_true (congrArg Value.bool hp21) ?_
                  refine cx_seq ?_
                  refine cx_region ?_
                  refine ox_n rfl (y_store1 1 (v := .int .i64 1) sz_27 rfl (Nat.lt_of_lt_of_le (Nat.lt_succ_self _) (Nat.le_of_ble_eq_true rfl)) rfl rfl rfl) ?_
                  refine ox_nil ?_
                  refine ex_then ?_
                  refine cx_ret ?_
                  refine ex_block_ret ?_
                  refine ex_then_ret ?_
                  refine ex_take 2 ?_
                  obtain rfl := Option.some.inj h
                  exact ex_stop ⟨rfl, _, rfl, (keep (keep (keep (keep (keep (keep rfl rfl) rfl) rfl) rfl) rfl) rfl)⟩
                · refine cx_false (congrArg Value.bool hp21) ?_
                  refine cx_skip ?_
                  refine ex_block ?_
                  refine ex_then ?_
                  refine cx_region ?_
                  refine ox_y rfl (y_add rfl rfl) ?_
                  refine ox_y rfl (y_move_int rfl) ?_
                  refine ox_nil ?_
                  refine ex_take 2 ?_
                  obtain rfl := Option.some.inj h
                  exact ex_next ⟨_, rfl, (keep (keep (keep (keep (keep (keep rfl rfl) rfl) rfl) rfl) rfl) rfl)⟩
              · rcases bool_cases ((decide (sel3 p0_b.fKnown.x0.fLo p0_b.fKnown.x1.fLo p0_b.fKnown.x2.fLo s14.1 < 0)) || (decide (sel3 p0_b.fKnown.x0.fHi p0_b.fKnown.x1.fHi p0_b.fKnown.x2.fHi s14.1 < sel3 p0_b.fKnown.x0.fLo p0_b.fKnown.x1.fLo p0_b.fKnown.x2.fLo s14.1))) with hp20 | hp20
                · refine ox_skip (sees_f rfl rfl rfl rfl hp20) ?_
                  refine ox_skip (sees_f rfl rfl rfl rfl hp20) ?_
                  refine ox_skip (sees_f rfl rfl rfl rfl hp20) ?_
                  refine ox_skip (sees_f rfl rfl rfl rfl hp20) ?_
                  refine ox_skip (sees_f rfl rfl rfl rfl hp20) ?_
                  refine ox_y rfl (y_pick_tb (congrArg Value.bool hp20) rfl) ?_
                  exact key _ _ (keep (keep (keep (keep (keep (keep (keep (keep (keep rfl rfl) rfl) rfl) rfl) rfl) rfl) rfl) rfl) (congrArg Value.bool (or_t hp20)))
                · refine ox_y (sees_t rfl rfl rfl rfl hp20) (y_fieldAddr fo_33_1 rfl) ?_
                  refine ox_y (sees_t rfl rfl rfl rfl hp20) (y_load1 2 (v := .int .i64 (sel3 p0_b.fKnown.x0.fHi p0_b.fKnown.x1.fHi p0_b.fKnown.x2.fHi s14.1)) sc_3 rfl rfl rfl) ?_
                  refine ox_y (sees_t rfl rfl rfl rfl hp20) (y_fieldAddr fo_52_0 rfl) ?_
                  refine ox_y (sees_t rfl rfl rfl rfl hp20) (y_load1 0 (v := .int .i64 p0_b.fBarrows) sc_3 rfl rfl rfl) ?_
                  refine ox_y (sees_t rfl rfl rfl rfl hp20) (y_gtr rfl rfl) ?_
                  refine ox_y rfl (y_pick_fb (congrArg Value.bool hp20) rfl) ?_
                  exact key _ _ (keep (keep (keep (keep (keep (keep (keep (keep (keep rfl rfl) rfl) rfl) rfl) rfl) rfl) rfl) rfl) (congrArg Value.bool (or_f hp20)))
            · rcases bool_cases (decide (sel3 p0_b.fKnown.x0.fLo p0_b.fKnown.x1.fLo p0_b.fKnown.x2.fLo s14.1 < 0)) with hp19 | hp19
              · refine ox_skip (sees_f rfl rfl rfl rfl hp19) ?_
                refine ox_skip (sees_f rfl rfl rfl rfl hp19) ?_
                refine ox_skip (sees_f rfl rfl rfl rfl hp19) ?_
                refine ox_skip (sees_f rfl rfl rfl rfl hp19) ?_
                refine ox_skip (sees_f rfl rfl rfl rfl hp19) ?_
                refine ox_y rfl (y_pick_tb (congrArg Value.bool hp19) rfl) ?_
                exact key _ _ (keep (keep (keep (keep (keep (keep (keep (keep (keep rfl rfl) rfl) rfl) rfl) rfl) rfl) rfl) rfl) (congrArg Value.bool (or_t hp19)))
              · refine ox_y (sees_t rfl rfl rfl rfl hp19) (y_fieldAddr fo_33_0 rfl) ?_
                refine ox_y (sees_t rfl rfl rfl rfl hp19) (y_load1 2 (v := .int .i64 (sel3 p0_b.fKnown.x0.fLo p0_b.fKnown.x1.fLo p0_b.fKnown.x2.fLo s14.1)) sc_3 rfl rfl rfl) ?_
                refine ox_y (sees_t rfl rfl rfl rfl hp19) (y_fieldAddr fo_33_1 rfl) ?_
                refine ox_y (sees_t rfl rfl rfl rfl hp19) (y_load1 2 (v := .int .i64 (sel3 p0_b.fKnown.x0.fHi p0_b.fKnown.x1.fHi p0_b.fKnown.x2.fHi s14.1)) sc_3 rfl rfl rfl) ?_
                refine ox_y (sees_t rfl rfl rfl rfl hp19) (y_gtr rfl rfl) ?_
                refine ox_y rfl (y_pick_fb (congrArg Value.bool hp19) rfl) ?_
                exact key _ _ (keep (keep (keep (keep (keep (keep (keep (keep (keep rfl rfl) rfl) rfl) rfl) rfl) rfl) rfl) rfl) (congrArg Value.bool (or_f hp19)))
          · refine cx_false (congrArg Value.bool hp16) ?_
            refine cx_exit ?_
            refine ex_then_exit ?_
            obtain rfl := Option.some.inj h
            exact ex_stop ⟨rfl, _, rfl, (keep (keep (keep (keep (keep (keep rfl rfl) rfl) rfl) rfl) rfl) rfl)⟩
        · intro e L tm hJ
          rcases u15 with u23 | u24
          · dsimp only at h hJ
            obtain ⟨rfl, tm0_u23, rfl, rfl⟩ := hJ
            refine ⟨(by intro hc; cases hc), ?_⟩
            refine ex_block_ret ?_
            refine ex_then_ret ?_
            refine ex_M0 (.inl rfl) ?_
            obtain rfl := Option.some.inj h
            exact ex_res1 (.inl rfl) rfl (resV_cell1 1 (v := .int .i64 u23.2) sc_27 rfl rfl rfl) (fun W2 hW2 => ⟨rfl, hW2.none⟩)
          · dsimp only at h hJ
            obtain ⟨rfl, tm0_u24, rfl, rfl⟩ := hJ
            refine ⟨(by intro hc; cases hc), ?_⟩
            refine ex_block_here ?_
            refine ex_then ?_
            refine cx_seq ?_
            refine cx_seq ?_
            refine cx_region ?_
            refine ox_y rfl (y_loadN 0 [.int .i64 p0_b.fBarrows, .int .i64 p0_b.fSeen.x0, .int .i64 p0_b.fSeen.x1, .int .i64 p0_b.fSeen.x2, .int .i64 p0_b.fKnown.x0.fLo, .int .i64 p0_b.fKnown.x0.fHi, .int .i64 p0_b.fKnown.x1.fLo, .int .i64 p0_b.fKnown.x1.fHi, .int .i64 p0_b.fKnown.x2.fLo, .int .i64 p0_b.fKnown.x2.fHi] ag_52 rfl rfl rfl) ?_
            obtain ⟨y25, hy26, h⟩ := bind_some h
            refine ox_call1 [.agg #[.int .i64 p0_b.fBarrows, .int .i64 p0_b.fSeen.x0, .int .i64 p0_b.fSeen.x1, .int .i64 p0_b.fSeen.x2, .int .i64 p0_b.fKnown.x0.fLo, .int .i64 p0_b.fKnown.x0.fHi, .int .i64 p0_b.fKnown.x1.fLo, .int .i64 p0_b.fKnown.x1.fHi, .int .i64 p0_b.fKnown.x2.fLo, .int .i64 p0_b.fKnown.x2.fHi]] _ _ rfl go_99 rfl (fun W2 hW2 => sample_wholes_ok p0_b y25 hy26 W2 ) ?_
            rintro ⟨b27, b28⟩
            refine ox_nil ?_
            refine ex_then ?_
            refine cx_block ?_
            obtain ⟨hok37, h⟩ := guardO_some h
            obtain ⟨u35, hl36, h⟩ := bind_some h
            refine cx_range (enc := fun x : TKinds => .agg #[.int .i64 x.x0, .int .i64 x.x1, .int .i64 x.x2]) (bs := [b28, b27]) (caps := [.pointer (some ⟨b28, 0, none⟩), .pointer (some ⟨b27, 0, none⟩)]) (fun (s : Int) L => L = [cellsR b1 52 [.int .i64 p0_b.fBarrows, .int .i64 p0_b.fSeen.x0, .int .i64 p0_b.fSeen.x1, .int .i64 p0_b.fSeen.x2, .int .i64 p0_b.fKnown.x0.fLo, .int .i64 p0_b.fKnown.x0.fHi, .int .i64 p0_b.fKnown.x1.fLo, .int .i64 p0_b.fKnown.x1.fHi, .int .i64 p0_b.fKnown.x2.fLo, .int .i64 p0_b.fKnown.x2.fHi], cellsR b2 27 [.int .i64 s], cellsR b27 52 [.int .i64 y25.fBarrows, .int .i64 y25.fSeen.x0, .int .i64 y25.fSeen.x1, .int .i64 y25.fSeen.x2, .int .i64 y25.fKnown.x0.fLo, .int .i64 y25.fKnown.x0.fHi, .int .i64 y25.fKnown.x1.fLo, .int .i64 y25.fKnown.x1.fHi, .int .i64 y25.fKnown.x2.fLo, .int .i64 y25.fKnown.x2.fHi], cellsR b28 136 [.func (.func 124) #[] #[.pointer (some ⟨b27, 0, none⟩)]]]) (fun (s : Int) e L => e = .ret ∧ L = [cellsR b1 52 [.int .i64 p0_b.fBarrows, .int .i64 p0_b.fSeen.x0, .int .i64 p0_b.fSeen.x1, .int .i64 p0_b.fSeen.x2, .int .i64 p0_b.fKnown.x0.fLo, .int .i64 p0_b.fKnown.x0.fHi, .int .i64 p0_b.fKnown.x1.fLo, .int .i64 p0_b.fKnown.x1.fHi, .int .i64 p0_b.fKnown.x2.fLo, .int .i64 p0_b.fKnown.x2.fHi], cellsR b2 27 [.int .i64 s], cellsR b27 52 [.int .i64 y25.fBarrows, .int .i64 y25.fSeen.x0, .int .i64 y25.fSeen.x1, .int .i64 y25.fSeen.x2, .int .i64 y25.fKnown.x0.fLo, .int .i64 y25.fKnown.x0.fHi, .int .i64 y25.fKnown.x1.fLo, .int .i64 y25.fKnown.x1.fHi, .int .i64 y25.fKnown.x2.fLo, .int .i64 y25.fKnown.x2.fHi], cellsR b28 136 [.func (.func 124) #[] #[.pointer (some ⟨b27, 0, none⟩)]]]) hl36 rfl go_125 (fun W2 hW2 => sample_wholes_2_seq y25 hok37 W2 b28 b27 (hW2.mem (i := 3) rfl) (hW2.mem (i := 2) rfl)) (by intro b hb; simp only [List.mem_cons, List.not_mem_nil, or_false] at hb; rcases hb with rfl | rfl; all_goals first | exact .inr ⟨_, fun s L hI => by obtain rfl := hI; exact ⟨3, rfl⟩⟩ | exact .inr ⟨_, fun s L hI => by obtain rfl := hI; exact ⟨2, rfl⟩⟩) rfl (fun W2 hW2 s L hI => by obtain rfl := hI; exact (.cons Cy.cells (.cons Cy.cells (.cons Cy.cells (.cons Cy.cells CyL.nil))))) (fun W2 hW2 s e L hI => by obtain ⟨rfl, rfl⟩ := hI; exact (.cons Cy.cells (.cons Cy.cells (.cons Cy.cells (.cons Cy.cells CyL.nil))))) (fun s e L hI => by obtain ⟨rfl, _⟩ := hI; exact .inl rfl) ?_ ?_ ?_
            · rintro D l rec s33 x34 L st hrec rfl h
              unfold sample_Check_r2 at h
              refine cx_skip ?_
              refine ex_begin 5 rfl hrec ?_
              refine cx_block ?_
              refine cx_seq ?_
              refine cx_region ?_
              try dsimp only [List.nil_append, List.cons_append, List.set_cons_zero, List.set_cons_succ]
              refine ox_n rfl (y_store1 1 (v := .int .i64 0) sz_27 rfl (Nat.lt_of_lt_of_le (Nat.lt_succ_self _) (Nat.le_of_ble_eq_true rfl)) rfl rfl rfl) ?_
              refine ox_nil ?_
              refine ex_then ?_
              refine cx_ret ?_
              refine ex_block_ret ?_
              obtain rfl := Option.some.inj h
              exact ex_rstop [cellsR b1 52 [.int .i64 p0_b.fBarrows, .int .i64 p0_b.fSeen.x0, .int .i64 p0_b.fSeen.x1, .int .i64 p0_b.fSeen.x2, .int .i64 p0_b.fKnown.x0.fLo, .int .i64 p0_b.fKnown.x0.fHi, .int .i64 p0_b.fKnown.x1.fLo, .int .i64 p0_b.fKnown.x1.fHi, .int .i64 p0_b.fKnown.x2.fLo, .int .i64 p0_b.fKnown.x2.fHi], cellsR b2 27 [.int .i64 0], cellsR b27 52 [.int .i64 y25.fBarrows, .int .i64 y25.fSeen.x0, .int .i64 y25.fSeen.x1, .int .i64 y25.fSeen.x2, .int .i64 y25.fKnown.x0.fLo, .int .i64 y25.fKnown.x0.fHi, .int .i64 y25.fKnown.x1.fLo, .int .i64 y25.fKnown.x1.fHi, .int .i64 y25.fKnown.x2.fLo, .int .i64 y25.fKnown.x2.fHi], cellsR b28 136 [.func (.func 124) #[] #[.pointer (some ⟨b27, 0, none⟩)]]] ⟨rfl, rfl⟩
            · rintro D u38 L hst rfl
              subst hst
              dsimp only at h
              refine ex_block ?_
              refine ex_then ?_
              refine cx_seq ?_
              refine cx_region ?_
              refine ox_n rfl (y_store1 1 (v := .int .i64 9) sz_27 rfl (Nat.lt_of_lt_of_le (Nat.lt_succ_self _) (Nat.le_of_ble_eq_true rfl)) rfl rfl rfl) ?_
              refine ox_nil ?_
              refine ex_then ?_
              refine cx_ret ?_
              refine ex_M1 4 rfl (.inl rfl) ?_
              obtain rfl := Option.some.inj h
              exact ex_res1 (.inl rfl) rfl (resV_cell1 1 (v := .int .i64 9) sc_27 rfl rfl rfl) (fun W2 hW2 => ⟨rfl, hW2.none⟩)
            · rintro D u39 e L hst ⟨rfl, rfl⟩
              subst hst
              dsimp only at h
              refine ex_block_ret ?_
              refine ex_then_ret ?_
              refine ex_M1 4 rfl (.inl rfl) ?_
              obtain rfl := Option.some.inj h
              exact ex_res1 (.inl rfl) rfl (resV_cell1 1 (v := .int .i64 u39) sc_27 rfl rfl rfl) (fun W2 hW2 => ⟨rfl, hW2.none⟩)
    · clear h; rcases ite_some hb10 with ⟨hp8, h⟩ | ⟨hp8, h⟩
      · refine qx_skip (sees_f rfl rfl rfl rfl hp8) ?_
        refine qx_skip (sees_f rfl rfl rfl rfl hp8) ?_
        refine qx_skip (sees_f rfl rfl rfl rfl hp8) ?_
        refine qx_skip (sees_f rfl rfl rfl rfl hp8) ?_
        refine qx_skip (sees_f rfl rfl rfl rfl hp8) ?_
        refine qx_skip (sees_f rfl rfl rfl rfl hp8) ?_
        refine qx_y rfl (y_pick_tb (congrArg Value.bool hp8) rfl) ?_
        obtain rfl := Option.some.inj h
        exact key _ _ (keep (keep (keep (keep rfl rfl) rfl) rfl) rfl)
      · refine qx_y (sees_t rfl rfl rfl rfl hp8) (y_fieldAddr fo_52_1 rfl) ?_
        refine qx_y (sees_t rfl rfl rfl rfl hp8) (y_loadN 0 [.int .i64 p0_b.fSeen.x0, .int .i64 p0_b.fSeen.x1, .int .i64 p0_b.fSeen.x2] ag_43 rfl rfl rfl) ?_
        obtain ⟨y40, hy41, h⟩ := bind_some h
        refine qx_y (sees_t rfl rfl rfl rfl hp8) (y_call [.agg #[.int .i64 p0_b.fSeen.x0, .int .i64 p0_b.fSeen.x1, .int .i64 p0_b.fSeen.x2]] go_94 rfl (fun W2 hW2 => sample_size_ok p0_b.fSeen y40 hy41 W2 ) rfl) ?_
        refine qx_y (sees_t rfl rfl rfl rfl hp8) (y_fieldAddr fo_52_0 rfl) ?_
        refine qx_y (sees_t rfl rfl rfl rfl hp8) (y_load1 0 (v := .int .i64 p0_b.fBarrows) sc_3 rfl rfl rfl) ?_
        refine qx_y (sees_t rfl rfl rfl rfl hp8) (y_gtr rfl rfl) ?_
        refine qx_y rfl (y_pick_fb (congrArg Value.bool hp8) rfl) ?_
        obtain rfl := Option.some.inj h
        exact key _ _ (keep (keep (keep (keep rfl rfl) rfl) rfl) rfl)
  · clear h; rcases ite_some hb7 with ⟨hp5, h⟩ | ⟨hp5, h⟩
    · refine qx_skip (sees_f rfl rfl rfl rfl hp5) ?_
      refine qx_skip (sees_f rfl rfl rfl rfl hp5) ?_
      refine qx_skip (sees_f rfl rfl rfl rfl hp5) ?_
      refine qx_skip (sees_f rfl rfl rfl rfl hp5) ?_
      refine qx_y rfl (y_pick_tb (congrArg Value.bool hp5) rfl) ?_
      obtain rfl := Option.some.inj h
      exact key _ _ (keep (keep (keep (keep rfl rfl) rfl) rfl) rfl)
    · refine qx_y (sees_t rfl rfl rfl rfl hp5) (y_fieldAddr fo_52_1 rfl) ?_
      refine qx_y (sees_t rfl rfl rfl rfl hp5) (y_loadN 0 [.int .i64 p0_b.fSeen.x0, .int .i64 p0_b.fSeen.x1, .int .i64 p0_b.fSeen.x2] ag_43 rfl rfl rfl) ?_
      obtain ⟨y42, hy43, h⟩ := bind_some h
      refine qx_y (sees_t rfl rfl rfl rfl hp5) (y_call [.agg #[.int .i64 p0_b.fSeen.x0, .int .i64 p0_b.fSeen.x1, .int .i64 p0_b.fSeen.x2]] go_103 rfl (fun W2 hW2 => sample_isSample_ok p0_b.fSeen y42 hy43 W2 ) rfl) ?_
      refine qx_y (sees_t rfl rfl rfl rfl hp5) (y_not rfl) ?_
      refine qx_y rfl (y_pick_fb (congrArg Value.bool hp5) rfl) ?_
      obtain rfl := Option.some.inj h
      exact key _ _ (keep (keep (keep (keep rfl rfl) rfl) rfl) rfl)

/-! calx/sample.isSort -/
set_option maxRecDepth 100000 in
theorem sample_isSort_ok (p0_n : Int) (res : Bool) (h : sample_isSort p0_n = some res) (W : World)  :
    Calls Try.prog 83 [.int .i64 p0_n].toArray W fun e W2 => e = .returned (.bool res) ∧ Ext W W2 [] := by
  unfold sample_isSort at h
  refine calls_enter (m := 5) Try.func83 rfl rfl (Nat.le_of_ble_eq_true rfl) ?_
  refine cx_seq ?_
  refine cx_region ?_
  refine ox_y rfl (y_assign_bool rfl) ?_
  refine ox_nil ?_
  refine ex_then ?_
  refine cx_seq ?_
  refine cx_region ?_
  refine ox_y rfl (y_move_int rfl) ?_
  obtain ⟨y1, hy2, h⟩ := bind_some h
  refine ox_y rfl (y_call [.int .i64 p0_n, .int .i64 0, .int .i64 2] go_74 rfl (fun W2 hW2 => sample_within_ok p0_n 0 2 y1 hy2 W2 ) rfl) ?_
  refine ox_y rfl (y_assign_bool rfl) ?_
  refine ox_nil ?_
  refine ex_then ?_
  refine cx_ret ?_
  obtain rfl := Option.some.inj h
  exact ex_res1 (.inl rfl) rfl (resV_tmp (v := .bool y1) rfl) (fun W2 hW2 => ⟨rfl, hW2.none⟩)

/-! calx/sample.ends -/
set_option maxRecDepth 100000 in
theorem sample_ends_ok (p0_b : TBatch) (p1_sort : Int) (res : TSpan) (h : sample_ends p0_b p1_sort = some res) (W : World)  :
    Calls Try.prog 84 [.agg #[.int .i64 p0_b.fBarrows, .int .i64 p0_b.fSeen.x0, .int .i64 p0_b.fSeen.x1, .int .i64 p0_b.fSeen.x2, .int .i64 p0_b.fKnown.x0.fLo, .int .i64 p0_b.fKnown.x0.fHi, .int .i64 p0_b.fKnown.x1.fLo, .int .i64 p0_b.fKnown.x1.fHi, .int .i64 p0_b.fKnown.x2.fLo, .int .i64 p0_b.fKnown.x2.fHi], .int .i64 p1_sort].toArray W fun e W2 => e = .returned (.agg #[.int .i64 res.fLo, .int .i64 res.fHi]) ∧ Ext W W2 [] := by
  unfold sample_ends at h
  refine calls_enterM (m := 27) Try.func84 rfl rfl (Nat.le_of_ble_eq_true rfl) ?_
  refine cx_seq ?_
  refine cx_region ?_
  refine ox_box [.int .i64 p0_b.fBarrows, .int .i64 p0_b.fSeen.x0, .int .i64 p0_b.fSeen.x1, .int .i64 p0_b.fSeen.x2, .int .i64 p0_b.fKnown.x0.fLo, .int .i64 p0_b.fKnown.x0.fHi, .int .i64 p0_b.fKnown.x1.fLo, .int .i64 p0_b.fKnown.x1.fHi, .int .i64 p0_b.fKnown.x2.fLo, .int .i64 p0_b.fKnown.x2.fHi] rfl rfl rfl (fun b1 => ?_)
  refine ox_box [.int .i64 p1_sort] rfl rfl rfl (fun b2 => ?_)
  refine ox_alloc ze_33 rfl (fun b3 => ?_)
  refine ox_nil ?_
  refine ex_then ?_
  refine cx_seq ?_
  refine cx_region ?_
  refine ox_y rfl (y_fieldAddr fo_52_0 rfl) ?_
  refine ox_y rfl (y_load1 0 (v := .int .i64 p0_b.fBarrows) sc_3 rfl rfl rfl) ?_
  refine ox_y rfl (y_buildS [.int .i64 p0_b.fBarrows, .int .i64 0] [(0, 1), (1, 1)] ust_33 ze_33 (by kernel_rfl)) ?_
  refine ox_alloc ze_33 rfl (fun b4 => ?_)
  refine ox_n rfl (y_storeN 3 [.int .i64 p0_b.fBarrows, .int .i64 0] sz_33 rfl (Nat.le_of_ble_eq_true rfl) rfl rfl rfl) ?_
  refine ox_nil ?_
  refine ex_then ?_
  refine cx_seq ?_
  refine cx_seq ?_
  refine cx_region ?_
  refine ox_y rfl (y_loadN 0 [.int .i64 p0_b.fBarrows, .int .i64 p0_b.fSeen.x0, .int .i64 p0_b.fSeen.x1, .int .i64 p0_b.fSeen.x2, .int .i64 p0_b.fKnown.x0.fLo, .int .i64 p0_b.fKnown.x0.fHi, .int .i64 p0_b.fKnown.x1.fLo, .int .i64 p0_b.fKnown.x1.fHi, .int .i64 p0_b.fKnown.x2.fLo, .int .i64 p0_b.fKnown.x2.fHi] ag_52 rfl rfl rfl) ?_
  obtain ⟨y5, hy6, h⟩ := bind_some h
  refine ox_call1 [.agg #[.int .i64 p0_b.fBarrows, .int .i64 p0_b.fSeen.x0, .int .i64 p0_b.fSeen.x1, .int .i64 p0_b.fSeen.x2, .int .i64 p0_b.fKnown.x0.fLo, .int .i64 p0_b.fKnown.x0.fHi, .int .i64 p0_b.fKnown.x1.fLo, .int .i64 p0_b.fKnown.x1.fHi, .int .i64 p0_b.fKnown.x2.fLo, .int .i64 p0_b.fKnown.x2.fHi]] _ _ rfl go_99 rfl (fun W2 hW2 => sample_wholes_ok p0_b y5 hy6 W2 ) ?_
  rintro ⟨b7, b8⟩
  try dsimp only [List.nil_append, List.cons_append, List.set_cons_zero, List.set_cons_succ]
  refine ox_nil ?_
  refine ex_then ?_
  refine cx_block ?_
  obtain ⟨hok20, h⟩ := guardO_some h
  obtain ⟨u15, hl19, h⟩ := bind_some h
  refine cx_range (enc := fun x : TKinds => .agg #[.int .i64 x.x0, .int .i64 x.x1, .int .i64 x.x2]) (bs := [b8, b7]) (caps := [.pointer (some ⟨b8, 0, none⟩), .pointer (some ⟨b7, 0, none⟩)]) (fun (s : (Int × Int)) L => L = [cellsR b1 52 [.int .i64 p0_b.fBarrows, .int .i64 p0_b.fSeen.x0, .int .i64 p0_b.fSeen.x1, .int .i64 p0_b.fSeen.x2, .int .i64 p0_b.fKnown.x0.fLo, .int .i64 p0_b.fKnown.x0.fHi, .int .i64 p0_b.fKnown.x1.fLo, .int .i64 p0_b.fKnown.x1.fHi, .int .i64 p0_b.fKnown.x2.fLo, .int .i64 p0_b.fKnown.x2.fHi], cellsR b2 3 [.int .i64 p1_sort], cellsR b3 33 [.int .i64 0, .int .i64 0], cellsR b4 33 [.int .i64 s.1, .int .i64 s.2], cellsR b7 52 [.int .i64 y5.fBarrows, .int .i64 y5.fSeen.x0, .int .i64 y5.fSeen.x1, .int .i64 y5.fSeen.x2, .int .i64 y5.fKnown.x0.fLo, .int .i64 y5.fKnown.x0.fHi, .int .i64 y5.fKnown.x1.fLo, .int .i64 y5.fKnown.x1.fHi, .int .i64 y5.fKnown.x2.fLo, .int .i64 y5.fKnown.x2.fHi], cellsR b8 136 [.func (.func 124) #[] #[.pointer (some ⟨b7, 0, none⟩)]]]) (fun (_ : Unit) _ _ => False) hl19 rfl go_125 (fun W2 hW2 => sample_wholes_2_seq y5 hok20 W2 b8 b7 (hW2.mem (i := 5) rfl) (hW2.mem (i := 4) rfl)) (by intro b hb; simp only [List.mem_cons, List.not_mem_nil, or_false] at hb; rcases hb with rfl | rfl; all_goals first | exact .inr ⟨_, fun s L hI => by obtain rfl := hI; exact ⟨5, rfl⟩⟩ | exact .inr ⟨_, fun s L hI => by obtain rfl := hI; exact ⟨4, rfl⟩⟩) rfl (fun W2 hW2 s L hI => by obtain rfl := hI; exact (.cons Cy.cells (.cons Cy.cells (.cons Cy.cells (.cons Cy.cells (.cons Cy.cells (.cons Cy.cells CyL.nil))))))) (fun _ _ _ _ _ h => h.elim) (fun _ _ _ h => h.elim) ?_ ?_ ?_
  · rintro D l rec s13 x14 L st hrec rfl h
    unfold sample_ends_r1 at h
    refine cx_region ?_
    try dsimp only [List.nil_append, List.cons_append, List.set_cons_zero, List.set_cons_succ]
    refine ox_alloc ze_43 rfl (fun b16 => ?_)
    try dsimp only [List.nil_append, List.cons_append, List.set_cons_zero, List.set_cons_succ]
    refine ox_n rfl (y_storeN 8 [.int .i64 x14.x0, .int .i64 x14.x1, .int .i64 x14.x2] sz_43 rfl (Nat.le_of_ble_eq_true rfl) rfl rfl rfl) ?_
    refine ox_nil ?_
    refine ex_begin 7 rfl hrec ?_
    refine cx_block ?_
    refine cx_draws 13 mixed (by kernel_rfl) (by kernel_rfl) ?_
    refine qx_y rfl (y_fieldAddr fo_33_0 rfl) ?_
    refine qx_y rfl (y_load1 3 (v := .int .i64 s13.1) sc_3 rfl rfl rfl) ?_
    refine qx_y rfl (y_load1 1 (v := .int .i64 p1_sort) sc_3 rfl rfl rfl) ?_
    obtain ⟨hg17, h⟩ := guardO_some h
    refine qx_y rfl (y_indexArr ar_43 hg17.1 hg17.2 rfl rfl) ?_
    refine qx_y rfl (y_load1 8 (v := .int .i64 (sel3 x14.x0 x14.x1 x14.x2 p1_sort)) sc_3 rfl rfl (by rcases in3 hg17 with e | e | e <;> rw [e] <;> rfl)) ?_
    refine qx_y rfl (y_min rfl rfl) ?_
    refine qx_y rfl (y_fieldAddr fo_33_1 rfl) ?_
    refine qx_y rfl (y_load1 3 (v := .int .i64 s13.2) sc_3 rfl rfl rfl) ?_
    refine qx_y rfl (y_load1 1 (v := .int .i64 p1_sort) sc_3 rfl rfl rfl) ?_
    obtain ⟨hg18, h⟩ := guardO_some h
    refine qx_y rfl (y_indexArr ar_43 hg18.1 hg18.2 rfl rfl) ?_
    refine qx_y rfl (y_load1 8 (v := .int .i64 (sel3 x14.x0 x14.x1 x14.x2 p1_sort)) sc_3 rfl rfl (by rcases in3 hg18 with e | e | e <;> rw [e] <;> rfl)) ?_
    refine qx_y rfl (y_max rfl rfl) ?_
    refine qx_y rfl (y_buildS [.int .i64 (min s13.1 (sel3 x14.x0 x14.x1 x14.x2 p1_sort)), .int .i64 (max s13.2 (sel3 x14.x0 x14.x1 x14.x2 p1_sort))] [(0, 1), (1, 1)] ust_33 ze_33 (by kernel_rfl)) ?_
    refine qx_nil ?_
    refine ox_n rfl (y_storeN 3 [.int .i64 (min s13.1 (sel3 x14.x0 x14.x1 x14.x2 p1_sort)), .int .i64 (max s13.2 (sel3 x14.x0 x14.x1 x14.x2 p1_sort))] sz_33 rfl (Nat.le_of_ble_eq_true rfl) rfl rfl rfl) ?_
    refine ox_nil ?_
    refine ex_block ?_
    refine ex_take 8 ?_
    obtain rfl := Option.some.inj h
    exact ex_rnext [cellsR b1 52 [.int .i64 p0_b.fBarrows, .int .i64 p0_b.fSeen.x0, .int .i64 p0_b.fSeen.x1, .int .i64 p0_b.fSeen.x2, .int .i64 p0_b.fKnown.x0.fLo, .int .i64 p0_b.fKnown.x0.fHi, .int .i64 p0_b.fKnown.x1.fLo, .int .i64 p0_b.fKnown.x1.fHi, .int .i64 p0_b.fKnown.x2.fLo, .int .i64 p0_b.fKnown.x2.fHi], cellsR b2 3 [.int .i64 p1_sort], cellsR b3 33 [.int .i64 0, .int .i64 0], cellsR b4 33 [.int .i64 (min s13.1 (sel3 x14.x0 x14.x1 x14.x2 p1_sort)), .int .i64 (max s13.2 (sel3 x14.x0 x14.x1 x14.x2 p1_sort))], cellsR b7 52 [.int .i64 y5.fBarrows, .int .i64 y5.fSeen.x0, .int .i64 y5.fSeen.x1, .int .i64 y5.fSeen.x2, .int .i64 y5.fKnown.x0.fLo, .int .i64 y5.fKnown.x0.fHi, .int .i64 y5.fKnown.x1.fLo, .int .i64 y5.fKnown.x1.fHi, .int .i64 y5.fKnown.x2.fLo, .int .i64 y5.fKnown.x2.fHi], cellsR b8 136 [.func (.func 124) #[] #[.pointer (some ⟨b7, 0, none⟩)]]] rfl
  · rintro D u21 L hst rfl
    subst hst
    dsimp only at h
    refine ex_block ?_
    refine ex_then ?_
    refine cx_seq ?_
    refine cx_region ?_
    try dsimp only [List.nil_append, List.cons_append, List.set_cons_zero, List.set_cons_succ]
    refine ox_y rfl (y_loadN 3 [.int .i64 u21.1, .int .i64 u21.2] ag_33 rfl rfl rfl) ?_
    refine ox_n rfl (y_storeN 2 [.int .i64 u21.1, .int .i64 u21.2] sz_33 rfl (Nat.le_of_ble_eq_true rfl) rfl rfl rfl) ?_
    refine ox_nil ?_
    refine ex_then ?_
    refine cx_ret ?_
    refine ex_M1 6 rfl (.inl rfl) ?_
    obtain rfl := Option.some.inj h
    exact ex_res1 (.inl rfl) rfl (resV_cellN 2 [.int .i64 u21.1, .int .i64 u21.2] ag_33 rfl rfl rfl) (fun W2 hW2 => ⟨rfl, hW2.none⟩)
  · intro D t e L _ hh
    exact hh.elim

/-! calx/sample.sum[calx/api.Span] -/
set_option maxRecDepth 100000 in
theorem sample_sum_calx_api_Span_ok (p0_l : (List TSpan)) (p1_of : TSpan → Option Int) (res : Int) (h : sample_sum_calx_api_Span p0_l p1_of = some res) (W : World) (A0_0 : Option Addr) (n0_0 c0_0 : Nat) (hn0_0 : n0_0 = p0_l.length) (hr0_0 : Rd W A0_0 n0_0 c0_0 (encL TSpan_cells p0_l)) (fid1 : Nat) (caps1 : List Value) (hgo1 : goes Try.prog fid1 = true) (hof1 : ∀ W2, Below W.heap.size W W2 → ∀ x y, p1_of x = some y → Calls Try.prog fid1 (([.agg #[.int .i64 x.fLo, .int .i64 x.fHi]] : List Value) ++ caps1).toArray W2 fun e W3 => e = .returned (.int .i64 y) ∧ Ext W2 W3 []) :
    Calls Try.prog 85 [.slice A0_0 n0_0 c0_0, .func (.func fid1) #[] caps1.toArray].toArray W fun e W2 => e = .returned (.int .i64 res) ∧ Ext W W2 [] := by
  subst hn0_0
  unfold sample_sum_calx_api_Span at h
  refine calls_enter (m := 21) Try.func85 rfl rfl (Nat.le_of_ble_eq_true rfl) ?_
  refine cx_seq ?_
  refine cx_region ?_
  refine ox_y rfl (y_assign_int rfl) ?_
  refine ox_nil ?_
  refine ex_then ?_
  refine cx_seq ?_
  refine cx_region ?_
  refine ox_y rfl (y_assign_int rfl) ?_
  refine ox_nil ?_
  refine ex_then ?_
  refine cx_seq ?_
  refine cx_seq ?_
  refine cx_region ?_
  refine ox_y rfl (y_move_slice rfl) ?_
  refine ox_y rfl (y_len (us := []) us_34 rfl) ?_
  refine ox_y rfl (y_move_int rfl) ?_
  refine ox_nil ?_
  refine ex_then ?_
  refine cx_block ?_
  obtain ⟨u3, hl9, h⟩ := bind_some h
  refine cx_loop (fun (s : (Int × Int)) L tm => ∃ (tm0 : Nat → Value), L = [] ∧ tm = (upd (upd (upd (upd (upd (upd (upd tm0 0 (.slice A0_0 p0_l.length c0_0)) 1 (.func (.func fid1) #[] caps1.toArray)) 4 (.int .i64 0)) 5 (.int .i64 s.1)) 8 (.slice A0_0 p0_l.length c0_0)) 9 (.int .i64 ((p0_l.length : Nat) : Int))) 10 (.int .i64 s.2))) (fun s e L tm => e = .exit 0 ∧ ∃ (tm0 : Nat → Value), L = [] ∧ tm = (upd (upd (upd (upd (upd (upd (upd tm0 0 (.slice A0_0 p0_l.length c0_0)) 1 (.func (.func fid1) #[] caps1.toArray)) 4 (.int .i64 0)) 5 (.int .i64 s.1)) 8 (.slice A0_0 p0_l.length c0_0)) 9 (.int .i64 ((p0_l.length : Nat) : Int))) 10 (.int .i64 s.2))) hl9 ⟨_, rfl, (keep (keep (keep (keep (keep (keep (keep rfl rfl) rfl) rfl) rfl) rfl) rfl) rfl)⟩ ?_ ?_
  · rintro s2 L tm st ⟨tm0_s2, rfl, rfl⟩ h
    unfold sample_sum_calx_api_Span_l1 at h
    refine cx_seq ?_
    refine cx_region ?_
    refine ox_y rfl (y_lss rfl rfl) ?_
    refine ox_nil ?_
    refine ex_then ?_
    refine cx_seq ?_
    rcases ite_some h with ⟨hp4, h⟩ | ⟨hp4, h⟩
    · refine cx_true (congrArg Value.bool hp4) ?_
      refine cx_skip ?_
      refine ex_then ?_
      refine cx_seq ?_
      refine cx_block ?_
      refine cx_seq ?_
      refine cx_region ?_
      obtain ⟨hg5, h⟩ := guardO_some h
      refine ox_y rfl (y_indexR sl_34 (by decide) hg5.1 hg5.2 (RdL.arg hr0_0) (encL_len TSpan_cells_len rfl) rfl rfl) ?_
      refine ox_y rfl (y_loadRN (A := A0_0) (j := (Int.toNat s2.2 * 2)) [.int .i64 ((rdL p0_l s2.2).fLo), .int .i64 ((rdL p0_l s2.2).fHi)] ag_33 (Nat.succ_pos _) (RdL.arg hr0_0) rfl (encL_gets TSpan_cells_len hg5.1 (lt_nat hg5.2 rfl))) ?_
      refine ox_alloc ze_33 rfl (fun b6 => ?_)
      refine ox_n rfl (y_storeN 0 [.int .i64 ((rdL p0_l s2.2).fLo), .int .i64 ((rdL p0_l s2.2).fHi)] sz_33 rfl (Nat.le_of_ble_eq_true rfl) rfl rfl rfl) ?_
      refine ox_nil ?_
      refine ex_then ?_
      refine cx_region ?_
      refine ox_y rfl (y_move_int rfl) ?_
      refine ox_y rfl (y_move (v := .func (.func fid1) #[] caps1.toArray) rfl) ?_
      refine ox_y rfl (y_loadN 0 [.int .i64 ((rdL p0_l s2.2).fLo), .int .i64 ((rdL p0_l s2.2).fHi)] ag_33 rfl rfl rfl) ?_
      obtain ⟨y7, hy8, h⟩ := bind_some h
      refine ox_y rfl (y_callv [.agg #[.int .i64 ((rdL p0_l s2.2).fLo), .int .i64 ((rdL p0_l s2.2).fHi)]] hgo1 rfl rfl (fun W2 hW2 => hof1 W2 hW2.below (TSpan.mk ((rdL p0_l s2.2).fLo) ((rdL p0_l s2.2).fHi)) y7 hy8)) ?_
      refine ox_y rfl (y_add rfl rfl) ?_
      refine ox_y rfl (y_assign_int rfl) ?_
      refine ox_nil ?_
      refine ex_block ?_
      refine ex_then ?_
      refine cx_region ?_
      refine ox_y rfl (y_add rfl rfl) ?_
      refine ox_y rfl (y_move_int rfl) ?_
      refine ox_nil ?_
      refine ex_take 0 ?_
      obtain rfl := Option.some.inj h
      exact ex_next ⟨_, rfl, (keep (keep (keep (keep (keep (keep (keep rfl rfl) rfl) rfl) rfl) rfl) rfl) rfl)⟩
    · refine cx_false (congrArg Value.bool hp4) ?_
      refine cx_exit ?_
      refine ex_then_exit ?_
      obtain rfl := Option.some.inj h
      exact ex_stop ⟨rfl, _, rfl, (keep (keep (keep (keep (keep (keep (keep rfl rfl) rfl) rfl) rfl) rfl) rfl) rfl)⟩
  · intro e L tm hJ
    obtain ⟨rfl, tm0_u3, rfl, rfl⟩ := hJ
    refine ⟨(by intro hc; cases hc), ?_⟩
    refine ex_block_here ?_
    refine ex_then ?_
    refine cx_seq ?_
    refine cx_region ?_
    refine ox_y rfl (y_move_int rfl) ?_
    refine ox_y rfl (y_assign_int rfl) ?_
    refine ox_nil ?_
    refine ex_then ?_
    refine cx_ret ?_
    obtain rfl := Option.some.inj h
    exact ex_res1 (.inl rfl) rfl (resV_tmp (v := .int .i64 u3.1) rfl) (fun W2 hW2 => ⟨rfl, hW2.none⟩)

/-! calx/sample.Together$1 -/
set_option maxRecDepth 100000 in
theorem sample_Together_1_ok (p0_x : TSpan) (res : Int) (h : sample_Together_1 p0_x = some res) (W : World)  :
    Calls Try.prog 86 [.agg #[.int .i64 p0_x.fLo, .int .i64 p0_x.fHi]].toArray W fun e W2 => e = .returned (.int .i64 res) ∧ Ext W W2 [] := by
  unfold sample_Together_1 at h
  refine calls_enter (m := 5) Try.func86 rfl rfl (Nat.le_of_ble_eq_true rfl) ?_
  refine cx_seq ?_
  refine cx_region ?_
  refine ox_box [.int .i64 p0_x.fLo, .int .i64 p0_x.fHi] rfl rfl rfl (fun b1 => ?_)
  refine ox_y rfl (y_assign_int rfl) ?_
  refine ox_nil ?_
  refine ex_then ?_
  refine cx_seq ?_
  refine cx_region ?_
  refine ox_y rfl (y_fieldAddr fo_33_0 rfl) ?_
  refine ox_y rfl (y_load1 0 (v := .int .i64 p0_x.fLo) sc_3 rfl rfl rfl) ?_
  refine ox_y rfl (y_assign_int rfl) ?_
  refine ox_nil ?_
  refine ex_then ?_
  refine cx_ret ?_
  obtain rfl := Option.some.inj h
  exact ex_res1 (.inl rfl) rfl (resV_tmp (v := .int .i64 p0_x.fLo) rfl) (fun W2 hW2 => ⟨rfl, hW2.none⟩)

/-! calx/sample.Together$2 -/
set_option maxRecDepth 100000 in
theorem sample_Together_2_ok (p0_x : TSpan) (res : Int) (h : sample_Together_2 p0_x = some res) (W : World)  :
    Calls Try.prog 87 [.agg #[.int .i64 p0_x.fLo, .int .i64 p0_x.fHi]].toArray W fun e W2 => e = .returned (.int .i64 res) ∧ Ext W W2 [] := by
  unfold sample_Together_2 at h
  refine calls_enter (m := 5) Try.func87 rfl rfl (Nat.le_of_ble_eq_true rfl) ?_
  refine cx_seq ?_
  refine cx_region ?_
  refine ox_box [.int .i64 p0_x.fLo, .int .i64 p0_x.fHi] rfl rfl rfl (fun b1 => ?_)
  refine ox_y rfl (y_assign_int rfl) ?_
  refine ox_nil ?_
  refine ex_then ?_
  refine cx_seq ?_
  refine cx_region ?_
  refine ox_y rfl (y_fieldAddr fo_33_1 rfl) ?_
  refine ox_y rfl (y_load1 0 (v := .int .i64 p0_x.fHi) sc_3 rfl rfl rfl) ?_
  refine ox_y rfl (y_assign_int rfl) ?_
  refine ox_nil ?_
  refine ex_then ?_
  refine cx_ret ?_
  obtain rfl := Option.some.inj h
  exact ex_res1 (.inl rfl) rfl (resV_tmp (v := .int .i64 p0_x.fHi) rfl) (fun W2 hW2 => ⟨rfl, hW2.none⟩)

end Go.Proofs.Ytepfgdfahinpkaa
