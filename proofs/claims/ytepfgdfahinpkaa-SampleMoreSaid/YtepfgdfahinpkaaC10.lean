/- The calls hand back what the plain functions say. -/
import Derived.Test.YtepfgdfahinpkaaF
import Derived.Test.YtepfgdfahinpkaaC0
set_option linter.unusedVariables false
set_option maxHeartbeats 4000000
namespace Go.Proofs.Ytepfgdfahinpkaa
open Go.RowKit (Below)
attribute [local irreducible] OX QX CX EX OpY Calls CallsIn

/-! calx/sample.More -/
set_option maxRecDepth 100000 in
theorem sample_More_ok (p0_b : TBatch) (p1_seen : TKinds) (res : (TBatch × Int)) (h : sample_More p0_b p1_seen = some res) (W : World)  :
    Calls Try.prog 62 [.agg #[.int .i64 p0_b.fBarrows, .int .i64 p0_b.fSeen.x0, .int .i64 p0_b.fSeen.x1, .int .i64 p0_b.fSeen.x2, .int .i64 p0_b.fKnown.x0.fLo, .int .i64 p0_b.fKnown.x0.fHi, .int .i64 p0_b.fKnown.x1.fLo, .int .i64 p0_b.fKnown.x1.fHi, .int .i64 p0_b.fKnown.x2.fLo, .int .i64 p0_b.fKnown.x2.fHi], .agg #[.int .i64 p1_seen.x0, .int .i64 p1_seen.x1, .int .i64 p1_seen.x2]].toArray W fun e W2 => e = .returned (.tuple #[.agg #[.int .i64 res.1.fBarrows, .int .i64 res.1.fSeen.x0, .int .i64 res.1.fSeen.x1, .int .i64 res.1.fSeen.x2, .int .i64 res.1.fKnown.x0.fLo, .int .i64 res.1.fKnown.x0.fHi, .int .i64 res.1.fKnown.x1.fLo, .int .i64 res.1.fKnown.x1.fHi, .int .i64 res.1.fKnown.x2.fLo, .int .i64 res.1.fKnown.x2.fHi], .int .i64 res.2]) ∧ Ext W W2 [] := by
  unfold sample_More at h
  refine calls_enter (m := 51) Try.func62 rfl rfl (Nat.le_of_ble_eq_true rfl) ?_
  refine cx_seq ?_
  refine cx_region ?_
  refine ox_box [.int .i64 p0_b.fBarrows, .int .i64 p0_b.fSeen.x0, .int .i64 p0_b.fSeen.x1, .int .i64 p0_b.fSeen.x2, .int .i64 p0_b.fKnown.x0.fLo, .int .i64 p0_b.fKnown.x0.fHi, .int .i64 p0_b.fKnown.x1.fLo, .int .i64 p0_b.fKnown.x1.fHi, .int .i64 p0_b.fKnown.x2.fLo, .int .i64 p0_b.fKnown.x2.fHi] rfl rfl rfl (fun b1 => ?_)
  refine ox_box [.int .i64 p1_seen.x0, .int .i64 p1_seen.x1, .int .i64 p1_seen.x2] rfl rfl rfl (fun b2 => ?_)
  refine ox_alloc ze_52 rfl (fun b3 => ?_)
  refine ox_y rfl (y_assign_int rfl) ?_
  refine ox_nil ?_
  refine ex_then ?_
  refine cx_seq ?_
  refine cx_seq ?_
  refine cx_region ?_
  refine ox_y rfl (y_loadN 0 [.int .i64 p0_b.fBarrows, .int .i64 p0_b.fSeen.x0, .int .i64 p0_b.fSeen.x1, .int .i64 p0_b.fSeen.x2, .int .i64 p0_b.fKnown.x0.fLo, .int .i64 p0_b.fKnown.x0.fHi, .int .i64 p0_b.fKnown.x1.fLo, .int .i64 p0_b.fKnown.x1.fHi, .int .i64 p0_b.fKnown.x2.fLo, .int .i64 p0_b.fKnown.x2.fHi] ag_52 rfl rfl rfl) ?_
  obtain ⟨y4, hy5, h⟩ := bind_some h
  refine ox_y rfl (y_call [.agg #[.int .i64 p0_b.fBarrows, .int .i64 p0_b.fSeen.x0, .int .i64 p0_b.fSeen.x1, .int .i64 p0_b.fSeen.x2, .int .i64 p0_b.fKnown.x0.fLo, .int .i64 p0_b.fKnown.x0.fHi, .int .i64 p0_b.fKnown.x1.fLo, .int .i64 p0_b.fKnown.x1.fHi, .int .i64 p0_b.fKnown.x2.fLo, .int .i64 p0_b.fKnown.x2.fHi]] go_39 rfl (fun W2 hW2 => sample_Check_ok p0_b y4 hy5 W2 ) rfl) ?_
  refine ox_y rfl (y_assign_int rfl) ?_
  refine ox_nil ?_
  refine ex_then ?_
  refine cx_seq ?_
  refine cx_region ?_
  refine ox_y rfl (y_move_int rfl) ?_
  refine ox_y rfl (y_neq rfl rfl) ?_
  refine ox_nil ?_
  refine ex_then ?_
  rcases ite_some h with ⟨hp6, h⟩ | ⟨hp6, h⟩
  · refine cx_true (congrArg Value.bool hp6) ?_
    refine cx_seq ?_
    refine cx_region ?_
    refine ox_y rfl (y_buildS [.int .i64 0, .int .i64 0, .int .i64 0, .int .i64 0, .int .i64 0, .int .i64 0, .int .i64 0, .int .i64 0, .int .i64 0, .int .i64 0] [(0, 1), (1, 3), (4, 6)] ust_52 ze_52 (by kernel_rfl)) ?_
    refine ox_y rfl (y_move_int rfl) ?_
    refine ox_n rfl (y_storeN 2 [.int .i64 0, .int .i64 0, .int .i64 0, .int .i64 0, .int .i64 0, .int .i64 0, .int .i64 0, .int .i64 0, .int .i64 0, .int .i64 0] sz_52 rfl (Nat.le_of_ble_eq_true rfl) rfl rfl rfl) ?_
    refine ox_y rfl (y_assign_int rfl) ?_
    refine ox_nil ?_
    refine ex_then ?_
    refine cx_ret ?_
    refine ex_then_ret ?_
    obtain rfl := Option.some.inj h
    exact ex_res2 (.inl rfl) rfl (resV_cellN 2 [.int .i64 0, .int .i64 0, .int .i64 0, .int .i64 0, .int .i64 0, .int .i64 0, .int .i64 0, .int .i64 0, .int .i64 0, .int .i64 0] ag_52 rfl rfl rfl) (resV_tmp (v := .int .i64 y4) rfl) (fun W2 hW2 => ⟨rfl, hW2.none⟩)
  · refine cx_false (congrArg Value.bool hp6) ?_
    refine cx_skip ?_
    refine ex_then ?_
    refine cx_seq ?_
    refine cx_seq ?_
    refine cx_region ?_
    refine ox_y rfl (y_loadN 1 [.int .i64 p1_seen.x0, .int .i64 p1_seen.x1, .int .i64 p1_seen.x2] ag_43 rfl rfl rfl) ?_
    obtain ⟨y7, hy8, h⟩ := bind_some h
    refine ox_y rfl (y_call [.agg #[.int .i64 p1_seen.x0, .int .i64 p1_seen.x1, .int .i64 p1_seen.x2]] go_103 rfl (fun W2 hW2 => sample_isSample_ok p1_seen y7 hy8 W2 ) rfl) ?_
    refine ox_y rfl (y_not rfl) ?_
    refine ox_nil ?_
    refine ex_then ?_
    rcases ite_some h with ⟨hp9, h⟩ | ⟨hp9, h⟩
    · refine cx_true (congrArg Value.bool hp9) ?_
      refine cx_seq ?_
      refine cx_region ?_
      refine ox_y rfl (y_buildS [.int .i64 0, .int .i64 0, .int .i64 0, .int .i64 0, .int .i64 0, .int .i64 0, .int .i64 0, .int .i64 0, .int .i64 0, .int .i64 0] [(0, 1), (1, 3), (4, 6)] ust_52 ze_52 (by kernel_rfl)) ?_
      refine ox_n rfl (y_storeN 2 [.int .i64 0, .int .i64 0, .int .i64 0, .int .i64 0, .int .i64 0, .int .i64 0, .int .i64 0, .int .i64 0, .int .i64 0, .int .i64 0] sz_52 rfl (Nat.le_of_ble_eq_true rfl) rfl rfl rfl) ?_
      refine ox_y rfl (y_assign_int rfl) ?_
      refine ox_nil ?_
      refine ex_then ?_
      refine cx_ret ?_
      refine ex_then_ret ?_
      obtain rfl := Option.some.inj h
      exact ex_res2 (.inl rfl) rfl (resV_cellN 2 [.int .i64 0, .int .i64 0, .int .i64 0, .int .i64 0, .int .i64 0, .int .i64 0, .int .i64 0, .int .i64 0, .int .i64 0, .int .i64 0] ag_52 rfl rfl rfl) (resV_tmp (v := .int .i64 1) rfl) (fun W2 hW2 => ⟨rfl, hW2.none⟩)
    · refine cx_false (congrArg Value.bool hp9) ?_
      refine cx_skip ?_
      refine ex_then ?_
      refine cx_seq ?_
      refine cx_seq ?_
      refine cx_draws 9 mixed (by kernel_rfl) (by kernel_rfl) ?_
      refine qx_y rfl (y_loadN 1 [.int .i64 p1_seen.x0, .int .i64 p1_seen.x1, .int .i64 p1_seen.x2] ag_43 rfl rfl rfl) ?_
      obtain ⟨y10, hy11, h⟩ := bind_some h
      refine qx_y rfl (y_call [.agg #[.int .i64 p1_seen.x0, .int .i64 p1_seen.x1, .int .i64 p1_seen.x2]] go_94 rfl (fun W2 hW2 => sample_size_ok p1_seen y10 hy11 W2 ) rfl) ?_
      refine qx_y rfl (y_fieldAddr fo_52_0 rfl) ?_
      refine qx_y rfl (y_load1 0 (v := .int .i64 p0_b.fBarrows) sc_3 rfl rfl rfl) ?_
      refine qx_y rfl (y_fieldAddr fo_52_1 rfl) ?_
      refine qx_y rfl (y_loadN 0 [.int .i64 p0_b.fSeen.x0, .int .i64 p0_b.fSeen.x1, .int .i64 p0_b.fSeen.x2] ag_43 rfl rfl rfl) ?_
      obtain ⟨y12, hy13, h⟩ := bind_some h
      refine qx_y rfl (y_call [.agg #[.int .i64 p0_b.fSeen.x0, .int .i64 p0_b.fSeen.x1, .int .i64 p0_b.fSeen.x2]] go_94 rfl (fun W2 hW2 => sample_size_ok p0_b.fSeen y12 hy13 W2 ) rfl) ?_
      refine qx_y rfl (y_sub rfl rfl) ?_
      refine qx_y rfl (y_gtr rfl rfl) ?_
      refine qx_nil ?_
      refine ox_nil ?_
      refine ex_then ?_
      rcases ite_some h with ⟨hp14, h⟩ | ⟨hp14, h⟩
      · refine cx_true (congrArg Value.bool hp14) ?_
        refine cx_seq ?_
        refine cx_region ?_
        refine ox_y rfl (y_buildS [.int .i64 0, .int .i64 0, .int .i64 0, .int .i64 0, .int .i64 0, .int .i64 0, .int .i64 0, .int .i64 0, .int .i64 0, .int .i64 0] [(0, 1), (1, 3), (4, 6)] ust_52 ze_52 (by kernel_rfl)) ?_
        refine ox_n rfl (y_storeN 2 [.int .i64 0, .int .i64 0, .int .i64 0, .int .i64 0, .int .i64 0, .int .i64 0, .int .i64 0, .int .i64 0, .int .i64 0, .int .i64 0] sz_52 rfl (Nat.le_of_ble_eq_true rfl) rfl rfl rfl) ?_
        refine ox_y rfl (y_assign_int rfl) ?_
        refine ox_nil ?_
        refine ex_then ?_
        refine cx_ret ?_
        refine ex_then_ret ?_
        obtain rfl := Option.some.inj h
        exact ex_res2 (.inl rfl) rfl (resV_cellN 2 [.int .i64 0, .int .i64 0, .int .i64 0, .int .i64 0, .int .i64 0, .int .i64 0, .int .i64 0, .int .i64 0, .int .i64 0, .int .i64 0] ag_52 rfl rfl rfl) (resV_tmp (v := .int .i64 3) rfl) (fun W2 hW2 => ⟨rfl, hW2.none⟩)
      · refine cx_false (congrArg Value.bool hp14) ?_
        refine cx_skip ?_
        refine ex_then ?_
        refine cx_seq ?_
        refine cx_seq ?_
        refine cx_region ?_
        refine ox_y rfl (y_loadN 1 [.int .i64 p1_seen.x0, .int .i64 p1_seen.x1, .int .i64 p1_seen.x2] ag_43 rfl rfl rfl) ?_
        refine ox_y rfl (y_move_int rfl) ?_
        refine ox_nil ?_
        refine ex_then ?_
        refine cx_block ?_
        obtain ⟨u18, hl23, h⟩ := bind_some h
        refine cx_loop (fun (s : (Int × Int × Int × Int)) L tm => ∃ (tm0 : Nat → Value), L = [cellsR b1 52 [.int .i64 p0_b.fBarrows, .int .i64 s.2.1, .int .i64 s.2.2.1, .int .i64 s.2.2.2, .int .i64 p0_b.fKnown.x0.fLo, .int .i64 p0_b.fKnown.x0.fHi, .int .i64 p0_b.fKnown.x1.fLo, .int .i64 p0_b.fKnown.x1.fHi, .int .i64 p0_b.fKnown.x2.fLo, .int .i64 p0_b.fKnown.x2.fHi], cellsR b2 43 [.int .i64 p1_seen.x0, .int .i64 p1_seen.x1, .int .i64 p1_seen.x2], cellsR b3 52 [.int .i64 0, .int .i64 0, .int .i64 0, .int .i64 0, .int .i64 0, .int .i64 0, .int .i64 0, .int .i64 0, .int .i64 0, .int .i64 0]] ∧ tm = (upd (upd (upd (upd (upd (upd (upd (upd (upd (upd (upd (upd tm0 0 (.agg #[.int .i64 p0_b.fBarrows, .int .i64 p0_b.fSeen.x0, .int .i64 p0_b.fSeen.x1, .int .i64 p0_b.fSeen.x2, .int .i64 p0_b.fKnown.x0.fLo, .int .i64 p0_b.fKnown.x0.fHi, .int .i64 p0_b.fKnown.x1.fLo, .int .i64 p0_b.fKnown.x1.fHi, .int .i64 p0_b.fKnown.x2.fLo, .int .i64 p0_b.fKnown.x2.fHi])) 1 (.agg #[.int .i64 p1_seen.x0, .int .i64 p1_seen.x1, .int .i64 p1_seen.x2])) 2 (.pointer (some ⟨b1, 0, none⟩))) 3 (.pointer (some ⟨b2, 0, none⟩))) 4 (.pointer (some ⟨b3, 0, none⟩))) 5 (.int .i64 0)) 6 (.int .i64 y4)) 13 (.bool (y4 != 0))) 18 (.bool (!y7))) 28 (.bool (decide (w64 (p0_b.fBarrows - y12) < y10)))) 30 (.agg #[.int .i64 p1_seen.x0, .int .i64 p1_seen.x1, .int .i64 p1_seen.x2])) 31 (.int .i64 s.1))) (fun s e L tm => e = .exit 0 ∧ ∃ (tm0 : Nat → Value), L = [cellsR b1 52 [.int .i64 p0_b.fBarrows, .int .i64 s.2.1, .int .i64 s.2.2.1, .int .i64 s.2.2.2, .int .i64 p0_b.fKnown.x0.fLo, .int .i64 p0_b.fKnown.x0.fHi, .int .i64 p0_b.fKnown.x1.fLo, .int .i64 p0_b.fKnown.x1.fHi, .int .i64 p0_b.fKnown.x2.fLo, .int .i64 p0_b.fKnown.x2.fHi], cellsR b2 43 [.int .i64 p1_seen.x0, .int .i64 p1_seen.x1, .int .i64 p1_seen.x2], cellsR b3 52 [.int .i64 0, .int .i64 0, .int .i64 0, .int .i64 0, .int .i64 0, .int .i64 0, .int .i64 0, .int .i64 0, .int .i64 0, .int .i64 0]] ∧ tm = (upd (upd (upd (upd (upd (upd (upd (upd (upd (upd (upd (upd tm0 0 (.agg #[.int .i64 p0_b.fBarrows, .int .i64 p0_b.fSeen.x0, .int .i64 p0_b.fSeen.x1, .int .i64 p0_b.fSeen.x2, .int .i64 p0_b.fKnown.x0.fLo, .int .i64 p0_b.fKnown.x0.fHi, .int .i64 p0_b.fKnown.x1.fLo, .int .i64 p0_b.fKnown.x1.fHi, .int .i64 p0_b.fKnown.x2.fLo, .int .i64 p0_b.fKnown.x2.fHi])) 1 (.agg #[.int .i64 p1_seen.x0, .int .i64 p1_seen.x1, .int .i64 p1_seen.x2])) 2 (.pointer (some ⟨b1, 0, none⟩))) 3 (.pointer (some ⟨b2, 0, none⟩))) 4 (.pointer (some ⟨b3, 0, none⟩))) 5 (.int .i64 0)) 6 (.int .i64 y4)) 13 (.bool (y4 != 0))) 18 (.bool (!y7))) 28 (.bool (decide (w64 (p0_b.fBarrows - y12) < y10)))) 30 (.agg #[.int .i64 p1_seen.x0, .int .i64 p1_seen.x1, .int .i64 p1_seen.x2])) 31 (.int .i64 s.1))) hl23 ⟨_, rfl, (keep (keep (keep (keep (keep (keep (keep (keep (keep (keep (keep (keep rfl rfl) rfl) rfl) rfl) rfl) rfl) rfl) rfl) rfl) rfl) rfl) rfl)⟩ ?_ ?_
        · rintro s17 L tm st ⟨tm0_s17, rfl, rfl⟩ h
          unfold sample_More_l1 at h
          refine cx_seq ?_
          refine cx_region ?_
          refine ox_y rfl (y_lss rfl rfl) ?_
          refine ox_nil ?_
          refine ex_then ?_
          refine cx_seq ?_
          rcases ite_some h with ⟨hp19, h⟩ | ⟨hp19, h⟩
          · refine cx_true (congrArg Value.bool hp19) ?_
            refine cx_skip ?_
            refine ex_then ?_
            refine cx_seq ?_
            refine cx_block ?_
            refine cx_seq ?_
            refine cx_region ?_
            refine ox_y rfl (y_move_int rfl) ?_
            obtain ⟨hg20, h⟩ := guardO_some h
            refine ox_y rfl (y_index3i (a := p1_seen.x0) (b := p1_seen.x1) (c := p1_seen.x2) ua_43 sc_3 hg20.1 hg20.2 rfl rfl) ?_
            refine ox_y rfl (y_assign_int rfl) ?_
            refine ox_y rfl (y_assign_int rfl) ?_
            refine ox_nil ?_
            refine ex_then ?_
            refine cx_region ?_
            refine ox_y rfl (y_move_int rfl) ?_
            refine ox_y rfl (y_fieldAddr fo_52_1 rfl) ?_
            obtain ⟨hg21, h⟩ := guardO_some h
            refine ox_y rfl (y_indexArr ar_43 hg21.1 hg21.2 rfl rfl) ?_
            refine ox_y rfl (y_load1 0 (v := .int .i64 (sel3 s17.2.1 s17.2.2.1 s17.2.2.2 s17.1)) sc_3 rfl rfl (by rcases in3 hg21 with e | e | e <;> rw [e] <;> rfl)) ?_
            refine ox_y rfl (y_move_int rfl) ?_
            refine ox_y rfl (y_add rfl rfl) ?_
            refine ox_y rfl (y_fieldAddr fo_52_1 rfl) ?_
            obtain ⟨hg22, h⟩ := guardO_some h
            refine ox_y rfl (y_indexArr ar_43 hg22.1 hg22.2 rfl rfl) ?_
            refine ox_n rfl (y_store1c 0 [.int .i64 p0_b.fBarrows, .int .i64 (put3 s17.1 0 (w64 ((sel3 s17.2.1 s17.2.2.1 s17.2.2.2 s17.1) + (sel3 p1_seen.x0 p1_seen.x1 p1_seen.x2 s17.1))) s17.2.1), .int .i64 (put3 s17.1 1 (w64 ((sel3 s17.2.1 s17.2.2.1 s17.2.2.2 s17.1) + (sel3 p1_seen.x0 p1_seen.x1 p1_seen.x2 s17.1))) s17.2.2.1), .int .i64 (put3 s17.1 2 (w64 ((sel3 s17.2.1 s17.2.2.1 s17.2.2.2 s17.1) + (sel3 p1_seen.x0 p1_seen.x1 p1_seen.x2 s17.1))) s17.2.2.2), .int .i64 p0_b.fKnown.x0.fLo, .int .i64 p0_b.fKnown.x0.fHi, .int .i64 p0_b.fKnown.x1.fLo, .int .i64 p0_b.fKnown.x1.fHi, .int .i64 p0_b.fKnown.x2.fLo, .int .i64 p0_b.fKnown.x2.fHi] sz_3 rfl (by rcases in3 hg22 with e | e | e <;> rw [e] <;> exact Nat.lt_of_lt_of_le (Nat.lt_succ_self _) (Nat.le_of_ble_eq_true rfl)) (by rcases in3 hg22 with e | e | e <;> rw [e] <;> rfl) rfl rfl rfl) ?_
            refine ox_nil ?_
            refine ex_block ?_
            refine ex_then ?_
            refine cx_region ?_
            refine ox_y rfl (y_add rfl rfl) ?_
            refine ox_y rfl (y_move_int rfl) ?_
            refine ox_nil ?_
            obtain rfl := Option.some.inj h
            exact ex_next ⟨_, rfl, (keep (keep (keep (keep (keep (keep (keep (keep (keep (keep (keep (keep rfl rfl) rfl) rfl) rfl) rfl) rfl) rfl) rfl) rfl) rfl) rfl) rfl)⟩
          · refine cx_false (congrArg Value.bool hp19) ?_
            refine cx_exit ?_
            refine ex_then_exit ?_
            obtain rfl := Option.some.inj h
            exact ex_stop ⟨rfl, _, rfl, (keep (keep (keep (keep (keep (keep (keep (keep (keep (keep (keep (keep rfl rfl) rfl) rfl) rfl) rfl) rfl) rfl) rfl) rfl) rfl) rfl) rfl)⟩
        · intro e L tm hJ
          obtain ⟨rfl, tm0_u18, rfl, rfl⟩ := hJ
          refine ⟨(by intro hc; cases hc), ?_⟩
          refine ex_block_here ?_
          refine ex_then ?_
          refine cx_seq ?_
          refine cx_seq ?_
          refine cx_region ?_
          refine ox_y rfl (y_loadN 0 [.int .i64 p0_b.fBarrows, .int .i64 u18.2.1, .int .i64 u18.2.2.1, .int .i64 u18.2.2.2, .int .i64 p0_b.fKnown.x0.fLo, .int .i64 p0_b.fKnown.x0.fHi, .int .i64 p0_b.fKnown.x1.fLo, .int .i64 p0_b.fKnown.x1.fHi, .int .i64 p0_b.fKnown.x2.fLo, .int .i64 p0_b.fKnown.x2.fHi] ag_52 rfl rfl rfl) ?_
          obtain ⟨y24, hy25, h⟩ := bind_some h
          refine ox_y rfl (y_call [.agg #[.int .i64 p0_b.fBarrows, .int .i64 u18.2.1, .int .i64 u18.2.2.1, .int .i64 u18.2.2.2, .int .i64 p0_b.fKnown.x0.fLo, .int .i64 p0_b.fKnown.x0.fHi, .int .i64 p0_b.fKnown.x1.fLo, .int .i64 p0_b.fKnown.x1.fHi, .int .i64 p0_b.fKnown.x2.fLo, .int .i64 p0_b.fKnown.x2.fHi]] go_39 rfl (fun W2 hW2 => sample_Check_ok (TBatch.mk p0_b.fBarrows (TKinds.mk u18.2.1 u18.2.2.1 u18.2.2.2) p0_b.fKnown) y24 hy25 W2 ) rfl) ?_
          refine ox_y rfl (y_assign_int rfl) ?_
          refine ox_nil ?_
          refine ex_then ?_
          refine cx_seq ?_
          refine cx_region ?_
          refine ox_y rfl (y_move_int rfl) ?_
          refine ox_y rfl (y_neq rfl rfl) ?_
          refine ox_nil ?_
          refine ex_then ?_
          rcases ite_some h with ⟨hp26, h⟩ | ⟨hp26, h⟩
          · refine cx_true (congrArg Value.bool hp26) ?_
            refine cx_seq ?_
            refine cx_region ?_
            refine ox_y rfl (y_buildS [.int .i64 0, .int .i64 0, .int .i64 0, .int .i64 0, .int .i64 0, .int .i64 0, .int .i64 0, .int .i64 0, .int .i64 0, .int .i64 0] [(0, 1), (1, 3), (4, 6)] ust_52 ze_52 (by kernel_rfl)) ?_
            refine ox_y rfl (y_move_int rfl) ?_
            refine ox_n rfl (y_storeN 2 [.int .i64 0, .int .i64 0, .int .i64 0, .int .i64 0, .int .i64 0, .int .i64 0, .int .i64 0, .int .i64 0, .int .i64 0, .int .i64 0] sz_52 rfl (Nat.le_of_ble_eq_true rfl) rfl rfl rfl) ?_
            refine ox_y rfl (y_assign_int rfl) ?_
            refine ox_nil ?_
            refine ex_then ?_
            refine cx_ret ?_
            refine ex_then_ret ?_
            obtain rfl := Option.some.inj h
            exact ex_res2 (.inl rfl) rfl (resV_cellN 2 [.int .i64 0, .int .i64 0, .int .i64 0, .int .i64 0, .int .i64 0, .int .i64 0, .int .i64 0, .int .i64 0, .int .i64 0, .int .i64 0] ag_52 rfl rfl rfl) (resV_tmp (v := .int .i64 y24) rfl) (fun W2 hW2 => ⟨rfl, hW2.none⟩)
          · refine cx_false (congrArg Value.bool hp26) ?_
            refine cx_skip ?_
            refine ex_then ?_
            refine cx_seq ?_
            refine cx_region ?_
            refine ox_y rfl (y_loadN 0 [.int .i64 p0_b.fBarrows, .int .i64 u18.2.1, .int .i64 u18.2.2.1, .int .i64 u18.2.2.2, .int .i64 p0_b.fKnown.x0.fLo, .int .i64 p0_b.fKnown.x0.fHi, .int .i64 p0_b.fKnown.x1.fLo, .int .i64 p0_b.fKnown.x1.fHi, .int .i64 p0_b.fKnown.x2.fLo, .int .i64 p0_b.fKnown.x2.fHi] ag_52 rfl rfl rfl) ?_
            refine ox_n rfl (y_storeN 2 [.int .i64 p0_b.fBarrows, .int .i64 u18.2.1, .int .i64 u18.2.2.1, .int .i64 u18.2.2.2, .int .i64 p0_b.fKnown.x0.fLo, .int .i64 p0_b.fKnown.x0.fHi, .int .i64 p0_b.fKnown.x1.fLo, .int .i64 p0_b.fKnown.x1.fHi, .int .i64 p0_b.fKnown.x2.fLo, .int .i64 p0_b.fKnown.x2.fHi] sz_52 rfl (Nat.le_of_ble_eq_true rfl) rfl rfl rfl) ?_
            refine ox_y rfl (y_assign_int rfl) ?_
            refine ox_nil ?_
            refine ex_then ?_
            refine cx_ret ?_
            obtain rfl := Option.some.inj h
            exact ex_res2 (.inl rfl) rfl (resV_cellN 2 [.int .i64 p0_b.fBarrows, .int .i64 u18.2.1, .int .i64 u18.2.2.1, .int .i64 u18.2.2.2, .int .i64 p0_b.fKnown.x0.fLo, .int .i64 p0_b.fKnown.x0.fHi, .int .i64 p0_b.fKnown.x1.fLo, .int .i64 p0_b.fKnown.x1.fHi, .int .i64 p0_b.fKnown.x2.fLo, .int .i64 p0_b.fKnown.x2.fHi] ag_52 rfl rfl rfl) (resV_tmp (v := .int .i64 0) rfl) (fun W2 hW2 => ⟨rfl, hW2.none⟩)

end Go.Proofs.Ytepfgdfahinpkaa
