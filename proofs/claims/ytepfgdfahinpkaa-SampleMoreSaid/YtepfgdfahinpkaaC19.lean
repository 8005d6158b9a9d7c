/- The calls hand back what the plain functions say. -/
import Derived.Test.YtepfgdfahinpkaaF
import Derived.Test.YtepfgdfahinpkaaC3
import Derived.Test.YtepfgdfahinpkaaC5
import Derived.Test.YtepfgdfahinpkaaC10
set_option linter.unusedVariables false
set_option maxHeartbeats 4000000
namespace Go.Proofs.Ytepfgdfahinpkaa
open Go.RowKit (Below)
attribute [local irreducible] OX QX CX EX OpY Calls CallsIn

/-! calx/calxref03.More -/
set_option maxRecDepth 100000 in
theorem calxref03_More_ok (p0_b : TBatch) (p1_s : TKinds) (res : TMade) (h : calxref03_More p0_b p1_s = some res) (W : World)  :
    Calls Try.prog 63 [.agg #[.int .i64 p0_b.fBarrows, .int .i64 p0_b.fSeen.x0, .int .i64 p0_b.fSeen.x1, .int .i64 p0_b.fSeen.x2, .int .i64 p0_b.fKnown.x0.fLo, .int .i64 p0_b.fKnown.x0.fHi, .int .i64 p0_b.fKnown.x1.fLo, .int .i64 p0_b.fKnown.x1.fHi, .int .i64 p0_b.fKnown.x2.fLo, .int .i64 p0_b.fKnown.x2.fHi], .agg #[.int .i64 p1_s.x0, .int .i64 p1_s.x1, .int .i64 p1_s.x2]].toArray W fun e W2 => e = .returned (.agg #[.int .i64 res.fB.fBarrows, .int .i64 res.fB.fSeen.x0, .int .i64 res.fB.fSeen.x1, .int .i64 res.fB.fSeen.x2, .int .i64 res.fB.fKnown.x0.fLo, .int .i64 res.fB.fKnown.x0.fHi, .int .i64 res.fB.fKnown.x1.fLo, .int .i64 res.fB.fKnown.x1.fHi, .int .i64 res.fB.fKnown.x2.fLo, .int .i64 res.fB.fKnown.x2.fHi, .int .i64 res.fE]) ∧ Ext W W2 [] := by
  unfold calxref03_More at h
  refine calls_enter (m := 55) Try.func63 rfl rfl (Nat.le_of_ble_eq_true rfl) ?_
  refine cx_seq ?_
  refine cx_region ?_
  refine ox_box [.int .i64 p0_b.fBarrows, .int .i64 p0_b.fSeen.x0, .int .i64 p0_b.fSeen.x1, .int .i64 p0_b.fSeen.x2, .int .i64 p0_b.fKnown.x0.fLo, .int .i64 p0_b.fKnown.x0.fHi, .int .i64 p0_b.fKnown.x1.fLo, .int .i64 p0_b.fKnown.x1.fHi, .int .i64 p0_b.fKnown.x2.fLo, .int .i64 p0_b.fKnown.x2.fHi] rfl rfl rfl (fun b1 => ?_)
  refine ox_box [.int .i64 p1_s.x0, .int .i64 p1_s.x1, .int .i64 p1_s.x2] rfl rfl rfl (fun b2 => ?_)
  refine ox_alloc ze_92 rfl (fun b3 => ?_)
  refine ox_nil ?_
  refine ex_then ?_
  refine cx_seq ?_
  refine cx_region ?_
  refine ox_y rfl (y_loadN 0 [.int .i64 p0_b.fBarrows, .int .i64 p0_b.fSeen.x0, .int .i64 p0_b.fSeen.x1, .int .i64 p0_b.fSeen.x2, .int .i64 p0_b.fKnown.x0.fLo, .int .i64 p0_b.fKnown.x0.fHi, .int .i64 p0_b.fKnown.x1.fLo, .int .i64 p0_b.fKnown.x1.fHi, .int .i64 p0_b.fKnown.x2.fLo, .int .i64 p0_b.fKnown.x2.fHi] ag_52 rfl rfl rfl) ?_
  obtain ⟨y4, hy5, h⟩ := bind_some h
  refine ox_y rfl (y_call [.agg #[.int .i64 p0_b.fBarrows, .int .i64 p0_b.fSeen.x0, .int .i64 p0_b.fSeen.x1, .int .i64 p0_b.fSeen.x2, .int .i64 p0_b.fKnown.x0.fLo, .int .i64 p0_b.fKnown.x0.fHi, .int .i64 p0_b.fKnown.x1.fLo, .int .i64 p0_b.fKnown.x1.fHi, .int .i64 p0_b.fKnown.x2.fLo, .int .i64 p0_b.fKnown.x2.fHi]] go_40 rfl (fun W2 hW2 => calxref03_Check_ok p0_b y4 hy5 W2 ) rfl) ?_
  refine ox_y rfl (y_assign_int rfl) ?_
  refine ox_nil ?_
  refine ex_then ?_
  refine cx_seq ?_
  refine cx_seq ?_
  refine cx_region ?_
  refine ox_y rfl (y_move_int rfl) ?_
  refine ox_y rfl (y_eql rfl rfl) ?_
  refine ox_y rfl (y_move_bool rfl) ?_
  obtain ⟨b7, hb8, h⟩ := bind_some h
  refine ox_join 4 (fun tm0 => (upd (upd (upd (upd (upd (upd (upd tm0 0 (.agg #[.int .i64 p0_b.fBarrows, .int .i64 p0_b.fSeen.x0, .int .i64 p0_b.fSeen.x1, .int .i64 p0_b.fSeen.x2, .int .i64 p0_b.fKnown.x0.fLo, .int .i64 p0_b.fKnown.x0.fHi, .int .i64 p0_b.fKnown.x1.fLo, .int .i64 p0_b.fKnown.x1.fHi, .int .i64 p0_b.fKnown.x2.fLo, .int .i64 p0_b.fKnown.x2.fHi])) 1 (.agg #[.int .i64 p1_s.x0, .int .i64 p1_s.x1, .int .i64 p1_s.x2])) 2 (.pointer (some ⟨b1, 0, none⟩))) 3 (.pointer (some ⟨b2, 0, none⟩))) 4 (.pointer (some ⟨b3, 0, none⟩))) 5 (.int .i64 y4)) 15 (.bool b7))) (fun tm0 => ?_) (fun key => ?_)
  · refine ox_nil ?_
    refine ex_then ?_
    rcases ite_some h with ⟨hp9, h⟩ | ⟨hp9, h⟩
    · refine cx_true (congrArg Value.bool hp9) ?_
      refine cx_region ?_
      refine ox_y rfl (y_assign_int rfl) ?_
      refine ox_nil ?_
      refine ex_then ?_
      refine cx_seq ?_
      refine cx_seq ?_
      refine cx_draws 13 mixed (by kernel_rfl) (by kernel_rfl) ?_
      refine qx_y rfl (y_move_int rfl) ?_
      refine qx_y rfl (y_eql rfl rfl) ?_
      refine qx_y rfl (y_move_bool rfl) ?_
      obtain ⟨b11, hb12, h⟩ := bind_some h
      refine qx_join 10 (fun tm0 => (upd (upd (upd (upd (upd (upd (upd (upd tm0 0 (.agg #[.int .i64 p0_b.fBarrows, .int .i64 p0_b.fSeen.x0, .int .i64 p0_b.fSeen.x1, .int .i64 p0_b.fSeen.x2, .int .i64 p0_b.fKnown.x0.fLo, .int .i64 p0_b.fKnown.x0.fHi, .int .i64 p0_b.fKnown.x1.fLo, .int .i64 p0_b.fKnown.x1.fHi, .int .i64 p0_b.fKnown.x2.fLo, .int .i64 p0_b.fKnown.x2.fHi])) 1 (.agg #[.int .i64 p1_s.x0, .int .i64 p1_s.x1, .int .i64 p1_s.x2])) 2 (.pointer (some ⟨b1, 0, none⟩))) 3 (.pointer (some ⟨b2, 0, none⟩))) 4 (.pointer (some ⟨b3, 0, none⟩))) 5 (.int .i64 1)) 15 (.bool b7)) 28 (.bool b11))) (fun tm0 => ?_) (fun key => ?_)
      · refine qx_nil ?_
        refine ox_nil ?_
        refine ex_then ?_
        rcases ite_some h with ⟨hp13, h⟩ | ⟨hp13, h⟩
        · refine cx_true (congrArg Value.bool hp13) ?_
          refine cx_region ?_
          refine ox_y rfl (y_assign_int rfl) ?_
          refine ox_nil ?_
          refine ex_then ?_
          refine cx_seq ?_
          refine cx_seq ?_
          refine cx_region ?_
          refine ox_y rfl (y_move_int rfl) ?_
          refine ox_y rfl (y_neq rfl rfl) ?_
          refine ox_nil ?_
          refine ex_then ?_
          rcases ite_some h with ⟨hp14, h⟩ | ⟨hp14, h⟩
          · refine cx_true (congrArg Value.bool hp14) ?_
            refine cx_seq ?_
            refine cx_region ?_
            refine ox_y rfl (y_move_int rfl) ?_
            refine ox_y rfl (y_buildS [.int .i64 0, .int .i64 0, .int .i64 0, .int .i64 0, .int .i64 0, .int .i64 0, .int .i64 0, .int .i64 0, .int .i64 0, .int .i64 0, .int .i64 3] [(0, 10), (10, 1)] ust_92 ze_92 (by kernel_rfl)) ?_
            refine ox_n rfl (y_storeN 2 [.int .i64 0, .int .i64 0, .int .i64 0, .int .i64 0, .int .i64 0, .int .i64 0, .int .i64 0, .int .i64 0, .int .i64 0, .int .i64 0, .int .i64 3] sz_92 rfl (Nat.le_of_ble_eq_true rfl) rfl rfl rfl) ?_
            refine ox_nil ?_
            refine ex_then ?_
            refine cx_ret ?_
            refine ex_then_ret ?_
            obtain rfl := Option.some.inj h
            exact ex_res1 (.inl rfl) rfl (resV_cellN 2 [.int .i64 0, .int .i64 0, .int .i64 0, .int .i64 0, .int .i64 0, .int .i64 0, .int .i64 0, .int .i64 0, .int .i64 0, .int .i64 0, .int .i64 3] ag_92 rfl rfl rfl) (fun W2 hW2 => ⟨rfl, hW2.none⟩)
          · refine cx_false (congrArg Value.bool hp14) ?_
            refine cx_skip ?_
            refine ex_then ?_
            refine cx_seq ?_
            refine cx_seq ?_
            refine cx_region ?_
            refine ox_y rfl (y_assign_int rfl) ?_
            refine ox_nil ?_
            refine ex_then ?_
            refine cx_block ?_
            obtain ⟨u18, hl23, h⟩ := bind_some h
            refine cx_loop (fun (s : (Int × Int × Int × Int)) L tm => ∃ (tm0 : Nat → Value), L = [cellsR b1 52 [.int .i64 p0_b.fBarrows, .int .i64 s.2.1, .int .i64 s.2.2.1, .int .i64 s.2.2.2, .int .i64 p0_b.fKnown.x0.fLo, .int .i64 p0_b.fKnown.x0.fHi, .int .i64 p0_b.fKnown.x1.fLo, .int .i64 p0_b.fKnown.x1.fHi, .int .i64 p0_b.fKnown.x2.fLo, .int .i64 p0_b.fKnown.x2.fHi], cellsR b2 43 [.int .i64 p1_s.x0, .int .i64 p1_s.x1, .int .i64 p1_s.x2], cellsR b3 92 [.int .i64 0, .int .i64 0, .int .i64 0, .int .i64 0, .int .i64 0, .int .i64 0, .int .i64 0, .int .i64 0, .int .i64 0, .int .i64 0, .int .i64 0]] ∧ tm = (upd (upd (upd (upd (upd (upd (upd (upd (upd (upd tm0 0 (.agg #[.int .i64 p0_b.fBarrows, .int .i64 p0_b.fSeen.x0, .int .i64 p0_b.fSeen.x1, .int .i64 p0_b.fSeen.x2, .int .i64 p0_b.fKnown.x0.fLo, .int .i64 p0_b.fKnown.x0.fHi, .int .i64 p0_b.fKnown.x1.fLo, .int .i64 p0_b.fKnown.x1.fHi, .int .i64 p0_b.fKnown.x2.fLo, .int .i64 p0_b.fKnown.x2.fHi])) 1 (.agg #[.int .i64 p1_s.x0, .int .i64 p1_s.x1, .int .i64 p1_s.x2])) 2 (.pointer (some ⟨b1, 0, none⟩))) 3 (.pointer (some ⟨b2, 0, none⟩))) 4 (.pointer (some ⟨b3, 0, none⟩))) 5 (.int .i64 3)) 15 (.bool b7)) 28 (.bool b11)) 30 (.bool (3 != 0))) 6 (.int .i64 s.1))) (fun s e L tm => e = .exit 0 ∧ ∃ (tm0 : Nat → Value), L = [cellsR b1 52 [.int .i64 p0_b.fBarrows, .int .i64 s.2.1, .int .i64 s.2.2.1, .int .i64 s.2.2.2, .int .i64 p0_b.fKnown.x0.fLo, .int .i64 p0_b.fKnown.x0.fHi, .int .i64 p0_b.fKnown.x1.fLo, .int .i64 p0_b.fKnown.x1.fHi, .int .i64 p0_b.fKnown.x2.fLo, .int .i64 p0_b.fKnown.x2.fHi], cellsR b2 43 [.int .i64 p1_s.x0, .int .i64 p1_s.x1, .int .i64 p1_s.x2], cellsR b3 92 [.int .i64 0, .int .i64 0, .int .i64 0, .int .i64 0, .int .i64 0, .int .i64 0, .int .i64 0, .int .i64 0, .int .i64 0, .int .i64 0, .int .i64 0]] ∧ tm = (upd (upd (upd (upd (upd (upd (upd (upd (upd (upd tm0 0 (.agg #[.int .i64 p0_b.fBarrows, .int .i64 p0_b.fSeen.x0, .int .i64 p0_b.fSeen.x1, .int .i64 p0_b.fSeen.x2, .int .i64 p0_b.fKnown.x0.fLo, .int .i64 p0_b.fKnown.x0.fHi, .int .i64 p0_b.fKnown.x1.fLo, .int .i64 p0_b.fKnown.x1.fHi, .int .i64 p0_b.fKnown.x2.fLo, .int .i64 p0_b.fKnown.x2.fHi])) 1 (.agg #[.int .i64 p1_s.x0, .int .i64 p1_s.x1, .int .i64 p1_s.x2])) 2 (.pointer (some ⟨b1, 0, none⟩))) 3 (.pointer (some ⟨b2, 0, none⟩))) 4 (.pointer (some ⟨b3, 0, none⟩))) 5 (.int .i64 3)) 15 (.bool b7)) 28 (.bool b11)) 30 (.bool (3 != 0))) 6 (.int .i64 s.1))) hl23 ⟨_, rfl, (keep (keep (keep (keep (keep (keep (keep (keep (keep (keep rfl rfl) rfl) rfl) rfl) rfl) rfl) rfl) rfl) rfl) rfl)⟩ ?_ ?_
            · rintro s17 L tm st ⟨tm0_s17, rfl, rfl⟩ h
              unfold calxref03_More_l1 at h
              refine cx_seq ?_
              refine cx_seq ?_
              refine cx_region ?_
              refine ox_y rfl (y_move_int rfl) ?_
              refine ox_y rfl (y_lss rfl rfl) ?_
              refine ox_nil ?_
              refine ex_then ?_
              rcases ite_some h with ⟨hp19, h⟩ | ⟨hp19, h⟩
              · refine cx_true (congrArg Value.bool hp19) ?_
                refine cx_skip ?_
                refine ex_then ?_
                refine cx_seq ?_
                refine cx_block ?_
                refine cx_draws 10 mixed (by kernel_rfl) (by kernel_rfl) ?_
                refine qx_y rfl (y_move_int rfl) ?_
                refine qx_y rfl (y_fieldAddr fo_52_1 rfl) ?_
                obtain ⟨hg20, h⟩ := guardO_some h
                refine qx_y rfl (y_indexArr ar_43 hg20.1 hg20.2 rfl rfl) ?_
                refine qx_y rfl (y_load1 0 (v := .int .i64 (sel3 s17.2.1 s17.2.2.1 s17.2.2.2 s17.1)) sc_3 rfl rfl (by rcases in3 hg20 with e | e | e <;> rw [e] <;> rfl)) ?_
                refine qx_y rfl (y_move_int rfl) ?_
                obtain ⟨hg21, h⟩ := guardO_some h
                refine qx_y rfl (y_indexArr ar_43 hg21.1 hg21.2 rfl rfl) ?_
                refine qx_y rfl (y_load1 1 (v := .int .i64 (sel3 p1_s.x0 p1_s.x1 p1_s.x2 s17.1)) sc_3 rfl rfl (by rcases in3 hg21 with e | e | e <;> rw [e] <;> rfl)) ?_
                refine qx_y rfl (y_add rfl rfl) ?_
                refine qx_y rfl (y_fieldAddr fo_52_1 rfl) ?_
                obtain ⟨hg22, h⟩ := guardO_some h
                refine qx_y rfl (y_indexArr ar_43 hg22.1 hg22.2 rfl rfl) ?_
                refine qx_nil ?_
                refine ox_n rfl (y_store1c 0 [.int .i64 p0_b.fBarrows, .int .i64 (put3 s17.1 0 (w64 ((sel3 s17.2.1 s17.2.2.1 s17.2.2.2 s17.1) + (sel3 p1_s.x0 p1_s.x1 p1_s.x2 s17.1))) s17.2.1), .int .i64 (put3 s17.1 1 (w64 ((sel3 s17.2.1 s17.2.2.1 s17.2.2.2 s17.1) + (sel3 p1_s.x0 p1_s.x1 p1_s.x2 s17.1))) s17.2.2.1), .int .i64 (put3 s17.1 2 (w64 ((sel3 s17.2.1 s17.2.2.1 s17.2.2.2 s17.1) + (sel3 p1_s.x0 p1_s.x1 p1_s.x2 s17.1))) s17.2.2.2), .int .i64 p0_b.fKnown.x0.fLo, .int .i64 p0_b.fKnown.x0.fHi, .int .i64 p0_b.fKnown.x1.fLo, .int .i64 p0_b.fKnown.x1.fHi, .int .i64 p0_b.fKnown.x2.fLo, .int .i64 p0_b.fKnown.x2.fHi] sz_3 rfl (by rcases in3 hg22 with e | e | e <;> rw [e] <;> exact Nat.lt_of_lt_of_le (Nat.lt_succ_self _) (Nat.le_of_ble_eq_true rfl)) (by rcases in3 hg22 with e | e | e <;> rw [e] <;> rfl) rfl rfl rfl) ?_
                refine ox_nil ?_
                refine ex_block ?_
                refine ex_then ?_
                refine cx_region ?_
                refine ox_y rfl (y_move_int rfl) ?_
                refine ox_y rfl (y_add rfl rfl) ?_
                refine ox_y rfl (y_assign_int rfl) ?_
                refine ox_nil ?_
                obtain rfl := Option.some.inj h
                exact ex_next ⟨_, rfl, (keep (keep (keep (keep (keep (keep (keep (keep (keep (keep rfl rfl) rfl) rfl) rfl) rfl) rfl) rfl) rfl) rfl) rfl)⟩
              · refine cx_false (congrArg Value.bool hp19) ?_
                refine cx_exit ?_
                refine ex_then_exit ?_
                obtain rfl := Option.some.inj h
                exact ex_stop ⟨rfl, _, rfl, (keep (keep (keep (keep (keep (keep (keep (keep (keep (keep rfl rfl) rfl) rfl) rfl) rfl) rfl) rfl) rfl) rfl) rfl)⟩
            · intro e L tm hJ
              obtain ⟨rfl, tm0_u18, rfl, rfl⟩ := hJ
              refine ⟨(by intro hc; cases hc), ?_⟩
              refine ex_block_here ?_
              refine ex_then ?_
              refine cx_seq ?_
              refine cx_region ?_
              refine ox_y rfl (y_loadN 0 [.int .i64 p0_b.fBarrows, .int .i64 u18.2.1, .int .i64 u18.2.2.1, .int .i64 u18.2.2.2, .int .i64 p0_b.fKnown.x0.fLo, .int .i64 p0_b.fKnown.x0.fHi, .int .i64 p0_b.fKnown.x1.fLo, .int .i64 p0_b.fKnown.x1.fHi, .int .i64 p0_b.fKnown.x2.fLo, .int .i64 p0_b.fKnown.x2.fHi] ag_52 rfl rfl rfl) ?_
              obtain ⟨y24, hy25, h⟩ := bind_some h
              refine ox_y rfl (y_call [.agg #[.int .i64 p0_b.fBarrows, .int .i64 u18.2.1, .int .i64 u18.2.2.1, .int .i64 u18.2.2.2, .int .i64 p0_b.fKnown.x0.fLo, .int .i64 p0_b.fKnown.x0.fHi, .int .i64 p0_b.fKnown.x1.fLo, .int .i64 p0_b.fKnown.x1.fHi, .int .i64 p0_b.fKnown.x2.fLo, .int .i64 p0_b.fKnown.x2.fHi]] go_40 rfl (fun W2 hW2 => calxref03_Check_ok (TBatch.mk p0_b.fBarrows (TKinds.mk u18.2.1 u18.2.2.1 u18.2.2.2) p0_b.fKnown) y24 hy25 W2 ) rfl) ?_
              refine ox_y rfl (y_assign_int rfl) ?_
              refine ox_nil ?_
              refine ex_then ?_
              refine cx_seq ?_
              refine cx_seq ?_
              refine cx_region ?_
              refine ox_y rfl (y_move_int rfl) ?_
              refine ox_y rfl (y_neq rfl rfl) ?_
              refine ox_nil ?_
              refine ex_then ?_
              rcases ite_some h with ⟨hp26, h⟩ | ⟨hp26, h⟩
              · refine cx_true (congrArg Value.bool hp26) ?_
                refine cx_seq ?_
                refine cx_region ?_
                refine ox_y rfl (y_move_int rfl) ?_
                refine ox_y rfl (y_buildS [.int .i64 0, .int .i64 0, .int .i64 0, .int .i64 0, .int .i64 0, .int .i64 0, .int .i64 0, .int .i64 0, .int .i64 0, .int .i64 0, .int .i64 y24] [(0, 10), (10, 1)] ust_92 ze_92 (by kernel_rfl)) ?_
                refine ox_n rfl (y_storeN 2 [.int .i64 0, .int .i64 0, .int .i64 0, .int .i64 0, .int .i64 0, .int .i64 0, .int .i64 0, .int .i64 0, .int .i64 0, .int .i64 0, .int .i64 y24] sz_92 rfl (Nat.le_of_ble_eq_true rfl) rfl rfl rfl) ?_
                refine ox_nil ?_
                refine ex_then ?_
                refine cx_ret ?_
                refine ex_then_ret ?_
                obtain rfl := Option.some.inj h
                exact ex_res1 (.inl rfl) rfl (resV_cellN 2 [.int .i64 0, .int .i64 0, .int .i64 0, .int .i64 0, .int .i64 0, .int .i64 0, .int .i64 0, .int .i64 0, .int .i64 0, .int .i64 0, .int .i64 y24] ag_92 rfl rfl rfl) (fun W2 hW2 => ⟨rfl, hW2.none⟩)
              · refine cx_false (congrArg Value.bool hp26) ?_
                refine cx_skip ?_
                refine ex_then ?_
                refine cx_seq ?_
                refine cx_region ?_
                refine ox_y rfl (y_loadN 0 [.int .i64 p0_b.fBarrows, .int .i64 u18.2.1, .int .i64 u18.2.2.1, .int .i64 u18.2.2.2, .int .i64 p0_b.fKnown.x0.fLo, .int .i64 p0_b.fKnown.x0.fHi, .int .i64 p0_b.fKnown.x1.fLo, .int .i64 p0_b.fKnown.x1.fHi, .int .i64 p0_b.fKnown.x2.fLo, .int .i64 p0_b.fKnown.x2.fHi] ag_52 rfl rfl rfl) ?_
                refine ox_y rfl (y_buildS [.int .i64 p0_b.fBarrows, .int .i64 u18.2.1, .int .i64 u18.2.2.1, .int .i64 u18.2.2.2, .int .i64 p0_b.fKnown.x0.fLo, .int .i64 p0_b.fKnown.x0.fHi, .int .i64 p0_b.fKnown.x1.fLo, .int .i64 p0_b.fKnown.x1.fHi, .int .i64 p0_b.fKnown.x2.fLo, .int .i64 p0_b.fKnown.x2.fHi, .int .i64 0] [(0, 10), (10, 1)] ust_92 ze_92 (by kernel_rfl)) ?_
                refine ox_n rfl (y_storeN 2 [.int .i64 p0_b.fBarrows, .int .i64 u18.2.1, .int .i64 u18.2.2.1, .int .i64 u18.2.2.2, .int .i64 p0_b.fKnown.x0.fLo, .int .i64 p0_b.fKnown.x0.fHi, .int .i64 p0_b.fKnown.x1.fLo, .int .i64 p0_b.fKnown.x1.fHi, .int .i64 p0_b.fKnown.x2.fLo, .int .i64 p0_b.fKnown.x2.fHi, .int .i64 0] sz_92 rfl (Nat.le_of_ble_eq_true rfl) rfl rfl rfl) ?_
                refine ox_nil ?_
                refine ex_then ?_
                refine cx_ret ?_
                obtain rfl := Option.some.inj h
                exact ex_res1 (.inl rfl) rfl (resV_cellN 2 [.int .i64 p0_b.fBarrows, .int .i64 u18.2.1, .int .i64 u18.2.2.1, .int .i64 u18.2.2.2, .int .i64 p0_b.fKnown.x0.fLo, .int .i64 p0_b.fKnown.x0.fHi, .int .i64 p0_b.fKnown.x1.fLo, .int .i64 p0_b.fKnown.x1.fHi, .int .i64 p0_b.fKnown.x2.fLo, .int .i64 p0_b.fKnown.x2.fHi, .int .i64 0] ag_92 rfl rfl rfl) (fun W2 hW2 => ⟨rfl, hW2.none⟩)
        · refine cx_false (congrArg Value.bool hp13) ?_
          refine cx_skip ?_
          refine ex_then ?_
          refine cx_seq ?_
          refine cx_seq ?_
          refine cx_region ?_
          refine ox_y rfl (y_move_int rfl) ?_
          refine ox_y rfl (y_neq rfl rfl) ?_
          refine ox_nil ?_
          refine ex_then ?_
          rcases ite_some h with ⟨hp27, h⟩ | ⟨hp27, h⟩
          · refine cx_true (congrArg Value.bool hp27) ?_
            refine cx_seq ?_
            refine cx_region ?_
            refine ox_y rfl (y_move_int rfl) ?_
            refine ox_y rfl (y_buildS [.int .i64 0, .int .i64 0, .int .i64 0, .int .i64 0, .int .i64 0, .int .i64 0, .int .i64 0, .int .i64 0, .int .i64 0, .int .i64 0, .int .i64 1] [(0, 10), (10, 1)] ust_92 ze_92 (by kernel_rfl)) ?_
            refine ox_n rfl (y_storeN 2 [.int .i64 0, .int .i64 0, .int .i64 0, .int .i64 0, .int .i64 0, .int .i64 0, .int .i64 0, .int .i64 0, .int .i64 0, .int .i64 0, .int .i64 1] sz_92 rfl (Nat.le_of_ble_eq_true rfl) rfl rfl rfl) ?_
            refine ox_nil ?_
            refine ex_then ?_
            refine cx_ret ?_
            refine ex_then_ret ?_
            obtain rfl := Option.some.inj h
            exact ex_res1 (.inl rfl) rfl (resV_cellN 2 [.int .i64 0, .int .i64 0, .int .i64 0, .int .i64 0, .int .i64 0, .int .i64 0, .int .i64 0, .int .i64 0, .int .i64 0, .int .i64 0, .int .i64 1] ag_92 rfl rfl rfl) (fun W2 hW2 => ⟨rfl, hW2.none⟩)
          · refine cx_false (congrArg Value.bool hp27) ?_
            refine cx_skip ?_
            refine ex_then ?_
            refine cx_seq ?_
            refine cx_seq ?_
            refine cx_region ?_
            refine ox_y rfl (y_assign_int rfl) ?_
            refine ox_nil ?_
            refine ex_then ?_
            refine cx_block ?_
            obtain ⟨u31, hl36, h⟩ := bind_some h
            refine cx_loop (fun (s : (Int × Int × Int × Int)) L tm => ∃ (tm0 : Nat → Value), L = [cellsR b1 52 [.int .i64 p0_b.fBarrows, .int .i64 s.2.1, .int .i64 s.2.2.1, .int .i64 s.2.2.2, .int .i64 p0_b.fKnown.x0.fLo, .int .i64 p0_b.fKnown.x0.fHi, .int .i64 p0_b.fKnown.x1.fLo, .int .i64 p0_b.fKnown.x1.fHi, .int .i64 p0_b.fKnown.x2.fLo, .int .i64 p0_b.fKnown.x2.fHi], cellsR b2 43 [.int .i64 p1_s.x0, .int .i64 p1_s.x1, .int .i64 p1_s.x2], cellsR b3 92 [.int .i64 0, .int .i64 0, .int .i64 0, .int .i64 0, .int .i64 0, .int .i64 0, .int .i64 0, .int .i64 0, .int .i64 0, .int .i64 0, .int .i64 0]] ∧ tm = (upd (upd (upd (upd (upd (upd (upd (upd (upd (upd tm0 0 (.agg #[.int .i64 p0_b.fBarrows, .int .i64 p0_b.fSeen.x0, .int .i64 p0_b.fSeen.x1, .int .i64 p0_b.fSeen.x2, .int .i64 p0_b.fKnown.x0.fLo, .int .i64 p0_b.fKnown.x0.fHi, .int .i64 p0_b.fKnown.x1.fLo, .int .i64 p0_b.fKnown.x1.fHi, .int .i64 p0_b.fKnown.x2.fLo, .int .i64 p0_b.fKnown.x2.fHi])) 1 (.agg #[.int .i64 p1_s.x0, .int .i64 p1_s.x1, .int .i64 p1_s.x2])) 2 (.pointer (some ⟨b1, 0, none⟩))) 3 (.pointer (some ⟨b2, 0, none⟩))) 4 (.pointer (some ⟨b3, 0, none⟩))) 5 (.int .i64 1)) 15 (.bool b7)) 28 (.bool b11)) 30 (.bool (1 != 0))) 6 (.int .i64 s.1))) (fun s e L tm => e = .exit 0 ∧ ∃ (tm0 : Nat → Value), L = [cellsR b1 52 [.int .i64 p0_b.fBarrows, .int .i64 s.2.1, .int .i64 s.2.2.1, .int .i64 s.2.2.2, .int .i64 p0_b.fKnown.x0.fLo, .int .i64 p0_b.fKnown.x0.fHi, .int .i64 p0_b.fKnown.x1.fLo, .int .i64 p0_b.fKnown.x1.fHi, .int .i64 p0_b.fKnown.x2.fLo, .int .i64 p0_b.fKnown.x2.fHi], cellsR b2 43 [.int .i64 p1_s.x0, .int .i64 p1_s.x1, .int .i64 p1_s.x2], cellsR b3 92 [.int .i64 0, .int .i64 0, .int .i64 0, .int .i64 0, .int .i64 0, .int .i64 0, .int .i64 0, .int .i64 0, .int .i64 0, .int .i64 0, .int .i64 0]] ∧ tm = (upd (upd (upd (upd (upd (upd (upd (upd (upd (upd tm0 0 (.agg #[.int .i64 p0_b.fBarrows, .int .i64 p0_b.fSeen.x0, .int .i64 p0_b.fSeen.x1, .int .i64 p0_b.fSeen.x2, .int .i64 p0_b.fKnown.x0.fLo, .int .i64 p0_b.fKnown.x0.fHi, .int .i64 p0_b.fKnown.x1.fLo, .int .i64 p0_b.fKnown.x1.fHi, .int .i64 p0_b.fKnown.x2.fLo, .int .i64 p0_b.fKnown.x2.fHi])) 1 (.agg #[.int .i64 p1_s.x0, .int .i64 p1_s.x1, .int .i64 p1_s.x2])) 2 (.pointer (some ⟨b1, 0, none⟩))) 3 (.pointer (some ⟨b2, 0, none⟩))) 4 (.pointer (some ⟨b3, 0, none⟩))) 5 (.int .i64 1)) 15 (.bool b7)) 28 (.bool b11)) 30 (.bool (1 != 0))) 6 (.int .i64 s.1))) hl36 ⟨_, rfl, (keep (keep (keep (keep (keep (keep (keep (keep (keep (keep rfl rfl) rfl) rfl) rfl) rfl) rfl) rfl) rfl) rfl) rfl)⟩ ?_ ?_
            · rintro s30 L tm st ⟨tm0_s30, rfl, rfl⟩ h
              unfold calxref03_More_l2 at h
              refine cx_seq ?_
              refine cx_seq ?_
              refine cx_region ?_
              refine ox_y rfl (y_move_int rfl) ?_
              refine ox_y rfl (y_lss rfl rfl) ?_
              refine ox_nil ?_
              refine ex_then ?_
              rcases ite_some h with ⟨hp32, h⟩ | ⟨hp32, h⟩
              · refine cx_true (congrArg Value.bool hp32) ?_
                refine cx_skip ?_
                refine ex_then ?_
                refine cx_seq ?_
                refine cx_block ?_
                refine cx_draws 10 mixed (by kernel_rfl) (by kernel_rfl) ?_
                refine qx_y rfl (y_move_int rfl) ?_
                refine qx_y rfl (y_fieldAddr fo_52_1 rfl) ?_
                obtain ⟨hg33, h⟩ := guardO_some h
                refine qx_y rfl (y_indexArr ar_43 hg33.1 hg33.2 rfl rfl) ?_
                refine qx_y rfl (y_load1 0 (v := .int .i64 (sel3 s30.2.1 s30.2.2.1 s30.2.2.2 s30.1)) sc_3 rfl rfl (by rcases in3 hg33 with e | e | e <;> rw [e] <;> rfl)) ?_
                refine qx_y rfl (y_move_int rfl) ?_
                obtain ⟨hg34, h⟩ := guardO_some h
                refine qx_y rfl (y_indexArr ar_43 hg34.1 hg34.2 rfl rfl) ?_
                refine qx_y rfl (y_load1 1 (v := .int .i64 (sel3 p1_s.x0 p1_s.x1 p1_s.x2 s30.1)) sc_3 rfl rfl (by rcases in3 hg34 with e | e | e <;> rw [e] <;> rfl)) ?_
                refine qx_y rfl (y_add rfl rfl) ?_
                refine qx_y rfl (y_fieldAddr fo_52_1 rfl) ?_
                obtain ⟨hg35, h⟩ := guardO_some h
                refine qx_y rfl (y_indexArr ar_43 hg35.1 hg35.2 rfl rfl) ?_
                refine qx_nil ?_
                refine ox_n rfl (y_store1c 0 [.int .i64 p0_b.fBarrows, .int .i64 (put3 s30.1 0 (w64 ((sel3 s30.2.1 s30.2.2.1 s30.2.2.2 s30.1) + (sel3 p1_s.x0 p1_s.x1 p1_s.x2 s30.1))) s30.2.1), .int .i64 (put3 s30.1 1 (w64 ((sel3 s30.2.1 s30.2.2.1 s30.2.2.2 s30.1) + (sel3 p1_s.x0 p1_s.x1 p1_s.x2 s30.1))) s30.2.2.1), .int .i64 (put3 s30.1 2 (w64 ((sel3 s30.2.1 s30.2.2.1 s30.2.2.2 s30.1) + (sel3 p1_s.x0 p1_s.x1 p1_s.x2 s30.1))) s30.2.2.2), .int .i64 p0_b.fKnown.x0.fLo, .int .i64 p0_b.fKnown.x0.fHi, .int .i64 p0_b.fKnown.x1.fLo, .int .i64 p0_b.fKnown.x1.fHi, .int .i64 p0_b.fKnown.x2.fLo, .int .i64 p0_b.fKnown.x2.fHi] sz_3 rfl (by rcases in3 hg35 with e | e | e <;> rw [e] <;> exact Nat.lt_of_lt_of_le (Nat.lt_succ_self _) (Nat.le_of_ble_eq_true rfl)) (by rcases in3 hg35 with e | e | e <;> rw [e] <;> rfl) rfl rfl rfl) ?_
                refine ox_nil ?_
                refine ex_block ?_
                refine ex_then ?_
                refine cx_region ?_
                refine ox_y rfl (y_move_int rfl) ?_
                refine ox_y rfl (y_add rfl rfl) ?_
                refine ox_y rfl (y_assign_int rfl) ?_
                refine ox_nil ?_
                obtain rfl := Option.some.inj h
                exact ex_next ⟨_, rfl, (keep (keep (keep (keep (keep (keep (keep (keep (keep (keep rfl rfl) rfl) rfl) rfl) rfl) rfl) rfl) rfl) rfl) rfl)⟩
              · refine cx_false (congrArg Value.bool hp32) ?_
                refine cx_exit ?_
                refine ex_then_exit ?_
                obtain rfl := Option.some.inj h
                exact ex_stop ⟨rfl, _, rfl, (keep (keep (keep (keep (keep (keep (keep (keep (keep (keep rfl rfl) rfl) rfl) rfl) rfl) rfl) rfl) rfl) rfl) rfl)⟩
            · intro e L tm hJ
              obtain ⟨rfl, tm0_u31, rfl, rfl⟩ := hJ
              refine ⟨(by intro hc; cases hc), ?_⟩
              refine ex_block_here ?_
              refine ex_then ?_
              refine cx_seq ?_
              refine cx_region ?_
              refine ox_y rfl (y_loadN 0 [.int .i64 p0_b.fBarrows, .int .i64 u31.2.1, .int .i64 u31.2.2.1, .int .i64 u31.2.2.2, .int .i64 p0_b.fKnown.x0.fLo, .int .i64 p0_b.fKnown.x0.fHi, .int .i64 p0_b.fKnown.x1.fLo, .int .i64 p0_b.fKnown.x1.fHi, .int .i64 p0_b.fKnown.x2.fLo, .int .i64 p0_b.fKnown.x2.fHi] ag_52 rfl rfl rfl) ?_
              obtain ⟨y37, hy38, h⟩ := bind_some h
              refine ox_y rfl (y_call [.agg #[.int .i64 p0_b.fBarrows, .int .i64 u31.2.1, .int .i64 u31.2.2.1, .int .i64 u31.2.2.2, .int .i64 p0_b.fKnown.x0.fLo, .int .i64 p0_b.fKnown.x0.fHi, .int .i64 p0_b.fKnown.x1.fLo, .int .i64 p0_b.fKnown.x1.fHi, .int .i64 p0_b.fKnown.x2.fLo, .int .i64 p0_b.fKnown.x2.fHi]] go_40 rfl (fun W2 hW2 => calxref03_Check_ok (TBatch.mk p0_b.fBarrows (TKinds.mk u31.2.1 u31.2.2.1 u31.2.2.2) p0_b.fKnown) y37 hy38 W2 ) rfl) ?_
              refine ox_y rfl (y_assign_int rfl) ?_
              refine ox_nil ?_
              refine ex_then ?_
              refine cx_seq ?_
              refine cx_seq ?_
              refine cx_region ?_
              refine ox_y rfl (y_move_int rfl) ?_
              refine ox_y rfl (y_neq rfl rfl) ?_
              refine ox_nil ?_
              refine ex_then ?_
              rcases ite_some h with ⟨hp39, h⟩ | ⟨hp39, h⟩
              · refine cx_true (congrArg Value.bool hp39) ?_
                refine cx_seq ?_
                refine cx_region ?_
                refine ox_y rfl (y_move_int rfl) ?_
                refine ox_y rfl (y_buildS [.int .i64 0, .int .i64 0, .int .i64 0, .int .i64 0, .int .i64 0, .int .i64 0, .int .i64 0, .int .i64 0, .int .i64 0, .int .i64 0, .int .i64 y37] [(0, 10), (10, 1)] ust_92 ze_92 (by kernel_rfl)) ?_
                refine ox_n rfl (y_storeN 2 [.int .i64 0, .int .i64 0, .int .i64 0, .int .i64 0, .int .i64 0, .int .i64 0, .int .i64 0, .int .i64 0, .int .i64 0, .int .i64 0, .int .i64 y37] sz_92 rfl (Nat.le_of_ble_eq_true rfl) rfl rfl rfl) ?_
                refine ox_nil ?_
                refine ex_then ?_
                refine cx_ret ?_
                refine ex_then_ret ?_
                obtain rfl := Option.some.inj h
                exact ex_res1 (.inl rfl) rfl (resV_cellN 2 [.int .i64 0, .int .i64 0, .int .i64 0, .int .i64 0, .int .i64 0, .int .i64 0, .int .i64 0, .int .i64 0, .int .i64 0, .int .i64 0, .int .i64 y37] ag_92 rfl rfl rfl) (fun W2 hW2 => ⟨rfl, hW2.none⟩)
              · refine cx_false (congrArg Value.bool hp39) ?_
                refine cx_skip ?_
                refine ex_then ?_
                refine cx_seq ?_
                refine cx_region ?_
                refine ox_y rfl (y_loadN 0 [.int .i64 p0_b.fBarrows, .int .i64 u31.2.1, .int .i64 u31.2.2.1, .int .i64 u31.2.2.2, .int .i64 p0_b.fKnown.x0.fLo, .int .i64 p0_b.fKnown.x0.fHi, .int .i64 p0_b.fKnown.x1.fLo, .int .i64 p0_b.fKnown.x1.fHi, .int .i64 p0_b.fKnown.x2.fLo, .int .i64 p0_b.fKnown.x2.fHi] ag_52 rfl rfl rfl) ?_
                refine ox_y rfl (y_buildS [.int .i64 p0_b.fBarrows, .int .i64 u31.2.1, .int .i64 u31.2.2.1, .int .i64 u31.2.2.2, .int .i64 p0_b.fKnown.x0.fLo, .int .i64 p0_b.fKnown.x0.fHi, .int .i64 p0_b.fKnown.x1.fLo, .int .i64 p0_b.fKnown.x1.fHi, .int .i64 p0_b.fKnown.x2.fLo, .int .i64 p0_b.fKnown.x2.fHi, .int .i64 0] [(0, 10), (10, 1)] ust_92 ze_92 (by kernel_rfl)) ?_
                refine ox_n rfl (y_storeN 2 [.int .i64 p0_b.fBarrows, .int .i64 u31.2.1, .int .i64 u31.2.2.1, .int .i64 u31.2.2.2, .int .i64 p0_b.fKnown.x0.fLo, .int .i64 p0_b.fKnown.x0.fHi, .int .i64 p0_b.fKnown.x1.fLo, .int .i64 p0_b.fKnown.x1.fHi, .int .i64 p0_b.fKnown.x2.fLo, .int .i64 p0_b.fKnown.x2.fHi, .int .i64 0] sz_92 rfl (Nat.le_of_ble_eq_true rfl) rfl rfl rfl) ?_
                refine ox_nil ?_
                refine ex_then ?_
                refine cx_ret ?_
                obtain rfl := Option.some.inj h
                exact ex_res1 (.inl rfl) rfl (resV_cellN 2 [.int .i64 p0_b.fBarrows, .int .i64 u31.2.1, .int .i64 u31.2.2.1, .int .i64 u31.2.2.2, .int .i64 p0_b.fKnown.x0.fLo, .int .i64 p0_b.fKnown.x0.fHi, .int .i64 p0_b.fKnown.x1.fLo, .int .i64 p0_b.fKnown.x1.fHi, .int .i64 p0_b.fKnown.x2.fLo, .int .i64 p0_b.fKnown.x2.fHi, .int .i64 0] ag_92 rfl rfl rfl) (fun W2 hW2 => ⟨rfl, hW2.none⟩)
      · clear h; rcases ite_some hb12 with ⟨hp10, h⟩ | ⟨hp10, h⟩
        · refine qx_y (sees_t rfl rfl rfl rfl hp10) (y_loadN 1 [.int .i64 p1_s.x0, .int .i64 p1_s.x1, .int .i64 p1_s.x2] ag_43 rfl rfl rfl) ?_
          obtain ⟨y40, hy41, h⟩ := bind_some h
          refine qx_y (sees_t rfl rfl rfl rfl hp10) (y_call [.agg #[.int .i64 p1_s.x0, .int .i64 p1_s.x1, .int .i64 p1_s.x2]] go_96 rfl (fun W2 hW2 => calxref03_all_ok p1_s y40 hy41 W2 ) rfl) ?_
          refine qx_y (sees_t rfl rfl rfl rfl hp10) (y_fieldAddr fo_52_0 rfl) ?_
          refine qx_y (sees_t rfl rfl rfl rfl hp10) (y_load1 0 (v := .int .i64 p0_b.fBarrows) sc_3 rfl rfl rfl) ?_
          refine qx_y (sees_t rfl rfl rfl rfl hp10) (y_fieldAddr fo_52_1 rfl) ?_
          refine qx_y (sees_t rfl rfl rfl rfl hp10) (y_loadN 0 [.int .i64 p0_b.fSeen.x0, .int .i64 p0_b.fSeen.x1, .int .i64 p0_b.fSeen.x2] ag_43 rfl rfl rfl) ?_
          obtain ⟨y42, hy43, h⟩ := bind_some h
          refine qx_y (sees_t rfl rfl rfl rfl hp10) (y_call [.agg #[.int .i64 p0_b.fSeen.x0, .int .i64 p0_b.fSeen.x1, .int .i64 p0_b.fSeen.x2]] go_96 rfl (fun W2 hW2 => calxref03_all_ok p0_b.fSeen y42 hy43 W2 ) rfl) ?_
          refine qx_y (sees_t rfl rfl rfl rfl hp10) (y_sub rfl rfl) ?_
          refine qx_y (sees_t rfl rfl rfl rfl hp10) (y_gtr rfl rfl) ?_
          refine qx_y rfl (y_pick_tb (congrArg Value.bool hp10) rfl) ?_
          obtain rfl := Option.some.inj h
          exact key _ _ (keep (keep (keep (keep (keep (keep (keep (keep rfl rfl) rfl) rfl) rfl) rfl) rfl) rfl) rfl)
        · refine qx_skip (sees_f rfl rfl rfl rfl hp10) ?_
          refine qx_skip (sees_f rfl rfl rfl rfl hp10) ?_
          refine qx_skip (sees_f rfl rfl rfl rfl hp10) ?_
          refine qx_skip (sees_f rfl rfl rfl rfl hp10) ?_
          refine qx_skip (sees_f rfl rfl rfl rfl hp10) ?_
          refine qx_skip (sees_f rfl rfl rfl rfl hp10) ?_
          refine qx_skip (sees_f rfl rfl rfl rfl hp10) ?_
          refine qx_skip (sees_f rfl rfl rfl rfl hp10) ?_
          refine qx_skip (sees_f rfl rfl rfl rfl hp10) ?_
          refine qx_y rfl (y_pick_fb (congrArg Value.bool hp10) rfl) ?_
          obtain rfl := Option.some.inj h
          exact key _ _ (keep (keep (keep (keep (keep (keep (keep (keep rfl rfl) rfl) rfl) rfl) rfl) rfl) rfl) rfl)
    · refine cx_false (congrArg Value.bool hp9) ?_
      refine cx_skip ?_
      refine ex_then ?_
      refine cx_seq ?_
      refine cx_seq ?_
      refine cx_draws 13 mixed (by kernel_rfl) (by kernel_rfl) ?_
      refine qx_y rfl (y_move_int rfl) ?_
      refine qx_y rfl (y_eql rfl rfl) ?_
      refine qx_y rfl (y_move_bool rfl) ?_
      obtain ⟨b45, hb46, h⟩ := bind_some h
      refine qx_join 10 (fun tm0 => (upd (upd (upd (upd (upd (upd (upd (upd tm0 0 (.agg #[.int .i64 p0_b.fBarrows, .int .i64 p0_b.fSeen.x0, .int .i64 p0_b.fSeen.x1, .int .i64 p0_b.fSeen.x2, .int .i64 p0_b.fKnown.x0.fLo, .int .i64 p0_b.fKnown.x0.fHi, .int .i64 p0_b.fKnown.x1.fLo, .int .i64 p0_b.fKnown.x1.fHi, .int .i64 p0_b.fKnown.x2.fLo, .int .i64 p0_b.fKnown.x2.fHi])) 1 (.agg #[.int .i64 p1_s.x0, .int .i64 p1_s.x1, .int .i64 p1_s.x2])) 2 (.pointer (some ⟨b1, 0, none⟩))) 3 (.pointer (some ⟨b2, 0, none⟩))) 4 (.pointer (some ⟨b3, 0, none⟩))) 5 (.int .i64 y4)) 15 (.bool b7)) 28 (.bool b45))) (fun tm0 => ?_) (fun key => ?_)
      · refine qx_nil ?_
        refine ox_nil ?_
        refine ex_then ?_
        rcases ite_some h with ⟨hp47, h⟩ | ⟨hp47, h⟩
        · refine cx_true (congrArg Value.bool hp47) ?_
          refine cx_region ?_
          refine ox_y rfl (y_assign_int rfl) ?_
          refine ox_nil ?_
          refine ex_then ?_
          refine cx_seq ?_
          refine cx_seq ?_
          refine cx_region ?_
          refine ox_y rfl (y_move_int rfl) ?_
          refine ox_y rfl (y_neq rfl rfl) ?_
          refine ox_nil ?_
          refine ex_then ?_
          rcases ite_some h with ⟨hp48, h⟩ | ⟨hp48, h⟩
          · refine cx_true (congrArg Value.bool hp48) ?_
            refine cx_seq ?_
            refine cx_region ?_
            refine ox_y rfl (y_move_int rfl) ?_
            refine ox_y rfl (y_buildS [.int .i64 0, .int .i64 0, .int .i64 0, .int .i64 0, .int .i64 0, .int .i64 0, .int .i64 0, .int .i64 0, .int .i64 0, .int .i64 0, .int .i64 3] [(0, 10), (10, 1)] ust_92 ze_92 (by kernel_rfl)) ?_
            refine ox_n rfl (y_storeN 2 [.int .i64 0, .int .i64 0, .int .i64 0, .int .i64 0, .int .i64 0, .int .i64 0, .int .i64 0, .int .i64 0, .int .i64 0, .int .i64 0, .int .i64 3] sz_92 rfl (Nat.le_of_ble_eq_true rfl) rfl rfl rfl) ?_
            refine ox_nil ?_
            refine ex_then ?_
            refine cx_ret ?_
            refine ex_then_ret ?_
            obtain rfl := Option.some.inj h
            exact ex_res1 (.inl rfl) rfl (resV_cellN 2 [.int .i64 0, .int .i64 0, .int .i64 0, .int .i64 0, .int .i64 0, .int .i64 0, .int .i64 0, .int .i64 0, .int .i64 0, .int .i64 0, .int .i64 3] ag_92 rfl rfl rfl) (fun W2 hW2 => ⟨rfl, hW2.none⟩)
          · refine cx_false (congrArg Value.bool hp48) ?_
            refine cx_skip ?_
            refine ex_then ?_
            refine cx_seq ?_
            refine cx_seq ?_
            refine cx_region ?_
            refine ox_y rfl (y_assign_int rfl) ?_
            refine ox_nil ?_
            refine ex_then ?_
            refine cx_block ?_
            obtain ⟨u52, hl57, h⟩ := bind_some h
            refine cx_loop (fun (s : (Int × Int × Int × Int)) L tm => ∃ (tm0 : Nat → Value), L = [cellsR b1 52 [.int .i64 p0_b.fBarrows, .int .i64 s.2.1, .int .i64 s.2.2.1, .int .i64 s.2.2.2, .int .i64 p0_b.fKnown.x0.fLo, .int .i64 p0_b.fKnown.x0.fHi, .int .i64 p0_b.fKnown.x1.fLo, .int .i64 p0_b.fKnown.x1.fHi, .int .i64 p0_b.fKnown.x2.fLo, .int .i64 p0_b.fKnown.x2.fHi], cellsR b2 43 [.int .i64 p1_s.x0, .int .i64 p1_s.x1, .int .i64 p1_s.x2], cellsR b3 92 [.int .i64 0, .int .i64 0, .int .i64 0, .int .i64 0, .int .i64 0, .int .i64 0, .int .i64 0, .int .i64 0, .int .i64 0, .int .i64 0, .int .i64 0]] ∧ tm = (upd (upd (upd (upd (upd (upd (upd (upd (upd (upd tm0 0 (.agg #[.int .i64 p0_b.fBarrows, .int .i64 p0_b.fSeen.x0, .int .i64 p0_b.fSeen.x1, .int .i64 p0_b.fSeen.x2, .int .i64 p0_b.fKnown.x0.fLo, .int .i64 p0_b.fKnown.x0.fHi, .int .i64 p0_b.fKnown.x1.fLo, .int .i64 p0_b.fKnown.x1.fHi, .int .i64 p0_b.fKnown.x2.fLo, .int .i64 p0_b.fKnown.x2.fHi])) 1 (.agg #[.int .i64 p1_s.x0, .int .i64 p1_s.x1, .int .i64 p1_s.x2])) 2 (.pointer (some ⟨b1, 0, none⟩))) 3 (.pointer (some ⟨b2, 0, none⟩))) 4 (.pointer (some ⟨b3, 0, none⟩))) 5 (.int .i64 3)) 15 (.bool b7)) 28 (.bool b45)) 30 (.bool (3 != 0))) 6 (.int .i64 s.1))) (fun s e L tm => e = .exit 0 ∧ ∃ (tm0 : Nat → Value), L = [cellsR b1 52 [.int .i64 p0_b.fBarrows, .int .i64 s.2.1, .int .i64 s.2.2.1, .int .i64 s.2.2.2, .int .i64 p0_b.fKnown.x0.fLo, .int .i64 p0_b.fKnown.x0.fHi, .int .i64 p0_b.fKnown.x1.fLo, .int .i64 p0_b.fKnown.x1.fHi, .int .i64 p0_b.fKnown.x2.fLo, .int .i64 p0_b.fKnown.x2.fHi], cellsR b2 43 [.int .i64 p1_s.x0, .int .i64 p1_s.x1, .int .i64 p1_s.x2], cellsR b3 92 [.int .i64 0, .int .i64 0, .int .i64 0, .int .i64 0, .int .i64 0, .int .i64 0, .int .i64 0, .int .i64 0, .int .i64 0, .int .i64 0, .int .i64 0]] ∧ tm = (upd (upd (upd (upd (upd (upd (upd (upd (upd (upd tm0 0 (.agg #[.int .i64 p0_b.fBarrows, .int .i64 p0_b.fSeen.x0, .int .i64 p0_b.fSeen.x1, .int .i64 p0_b.fSeen.x2, .int .i64 p0_b.fKnown.x0.fLo, .int .i64 p0_b.fKnown.x0.fHi, .int .i64 p0_b.fKnown.x1.fLo, .int .i64 p0_b.fKnown.x1.fHi, .int .i64 p0_b.fKnown.x2.fLo, .int .i64 p0_b.fKnown.x2.fHi])) 1 (.agg #[.int .i64 p1_s.x0, .int .i64 p1_s.x1, .int .i64 p1_s.x2])) 2 (.pointer (some ⟨b1, 0, none⟩))) 3 (.pointer (some ⟨b2, 0, none⟩))) 4 (.pointer (some ⟨b3, 0, none⟩))) 5 (.int .i64 3)) 15 (.bool b7)) 28 (.bool b45)) 30 (.bool (3 != 0))) 6 (.int .i64 s.1))) hl57 ⟨_, rfl, (keep (keep (keep (keep (keep (keep (keep (keep (keep (keep rfl rfl) rfl) rfl) rfl) rfl) rfl) rfl) rfl) rfl) rfl)⟩ ?_ ?_
            · rintro s51 L tm st ⟨tm0_s51, rfl, rfl⟩ h
              unfold calxref03_More_l3 at h
              refine cx_seq ?_
              refine cx_seq ?_
              refine cx_region ?_
              refine ox_y rfl (y_move_int rfl) ?_
              refine ox_y rfl (y_lss rfl rfl) ?_
              refine ox_nil ?_
              refine ex_then ?_
              rcases ite_some h with ⟨hp53, h⟩ | ⟨hp53, h⟩
              · refine cx_true (congrArg Value.bool hp53) ?_
                refine cx_skip ?_
                refine ex_then ?_
                refine cx_seq ?_
                refine cx_block ?_
                refine cx_draws 10 mixed (by kernel_rfl) (by kernel_rfl) ?_
                refine qx_y rfl (y_move_int rfl) ?_
                refine qx_y rfl (y_fieldAddr fo_52_1 rfl) ?_
                obtain ⟨hg54, h⟩ := guardO_some h
                refine qx_y rfl (y_indexArr ar_43 hg54.1 hg54.2 rfl rfl) ?_
                refine qx_y rfl (y_load1 0 (v := .int .i64 (sel3 s51.2.1 s51.2.2.1 s51.2.2.2 s51.1)) sc_3 rfl rfl (by rcases in3 hg54 with e | e | e <;> rw [e] <;> rfl)) ?_
                refine qx_y rfl (y_move_int rfl) ?_
                obtain ⟨hg55, h⟩ := guardO_some h
                refine qx_y rfl (y_indexArr ar_43 hg55.1 hg55.2 rfl rfl) ?_
                refine qx_y rfl (y_load1 1 (v := .int .i64 (sel3 p1_s.x0 p1_s.x1 p1_s.x2 s51.1)) sc_3 rfl rfl (by rcases in3 hg55 with e | e | e <;> rw [e] <;> rfl)) ?_
                refine qx_y rfl (y_add rfl rfl) ?_
                refine qx_y rfl (y_fieldAddr fo_52_1 rfl) ?_
                obtain ⟨hg56, h⟩ := guardO_some h
                refine qx_y rfl (y_indexArr ar_43 hg56.1 hg56.2 rfl rfl) ?_
                refine qx_nil ?_
                refine ox_n rfl (y_store1c 0 [.int .i64 p0_b.fBarrows, .int .i64 (put3 s51.1 0 (w64 ((sel3 s51.2.1 s51.2.2.1 s51.2.2.2 s51.1) + (sel3 p1_s.x0 p1_s.x1 p1_s.x2 s51.1))) s51.2.1), .int .i64 (put3 s51.1 1 (w64 ((sel3 s51.2.1 s51.2.2.1 s51.2.2.2 s51.1) + (sel3 p1_s.x0 p1_s.x1 p1_s.x2 s51.1))) s51.2.2.1), .int .i64 (put3 s51.1 2 (w64 ((sel3 s51.2.1 s51.2.2.1 s51.2.2.2 s51.1) + (sel3 p1_s.x0 p1_s.x1 p1_s.x2 s51.1))) s51.2.2.2), .int .i64 p0_b.fKnown.x0.fLo, .int .i64 p0_b.fKnown.x0.fHi, .int .i64 p0_b.fKnown.x1.fLo, .int .i64 p0_b.fKnown.x1.fHi, .int .i64 p0_b.fKnown.x2.fLo, .int .i64 p0_b.fKnown.x2.fHi] sz_3 rfl (by rcases in3 hg56 with e | e | e <;> rw [e] <;> exact Nat.lt_of_lt_of_le (Nat.lt_succ_self _) (Nat.le_of_ble_eq_true rfl)) (by rcases in3 hg56 with e | e | e <;> rw [e] <;> rfl) rfl rfl rfl) ?_
                refine ox_nil ?_
                refine ex_block ?_
                refine ex_then ?_
                refine cx_region ?_
                refine ox_y rfl (y_move_int rfl) ?_
                refine ox_y rfl (y_add rfl rfl) ?_
                refine ox_y rfl (y_assign_int rfl) ?_
                refine ox_nil ?_
                obtain rfl := Option.some.inj h
                exact ex_next ⟨_, rfl, (keep (keep (keep (keep (keep (keep (keep (keep (keep (keep rfl rfl) rfl) rfl) rfl) rfl) rfl) rfl) rfl) rfl) rfl)⟩
              · refine cx_false (congrArg Value.bool hp53) ?_
                refine cx_exit ?_
                refine ex_then_exit ?_
                obtain rfl := Option.some.inj h
                exact ex_stop ⟨rfl, _, rfl, (keep (keep (keep (keep (keep (keep (keep (keep (keep (keep rfl rfl) rfl) rfl) rfl) rfl) rfl) rfl) rfl) rfl) rfl)⟩
            · intro e L tm hJ
              obtain ⟨rfl, tm0_u52, rfl, rfl⟩ := hJ
              refine ⟨(by intro hc; cases hc), ?_⟩
              refine ex_block_here ?_
              refine ex_then ?_
              refine cx_seq ?_
              refine cx_region ?_
              refine ox_y rfl (y_loadN 0 [.int .i64 p0_b.fBarrows, .int .i64 u52.2.1, .int .i64 u52.2.2.1, .int .i64 u52.2.2.2, .int .i64 p0_b.fKnown.x0.fLo, .int .i64 p0_b.fKnown.x0.fHi, .int .i64 p0_b.fKnown.x1.fLo, .int .i64 p0_b.fKnown.x1.fHi, .int .i64 p0_b.fKnown.x2.fLo, .int .i64 p0_b.fKnown.x2.fHi] ag_52 rfl rfl rfl) ?_
              obtain ⟨y58, hy59, h⟩ := bind_some h
              refine ox_y rfl (y_call [.agg #[.int .i64 p0_b.fBarrows, .int .i64 u52.2.1, .int .i64 u52.2.2.1, .int .i64 u52.2.2.2, .int .i64 p0_b.fKnown.x0.fLo, .int .i64 p0_b.fKnown.x0.fHi, .int .i64 p0_b.fKnown.x1.fLo, .int .i64 p0_b.fKnown.x1.fHi, .int .i64 p0_b.fKnown.x2.fLo, .int .i64 p0_b.fKnown.x2.fHi]] go_40 rfl (fun W2 hW2 => calxref03_Check_ok (TBatch.mk p0_b.fBarrows (TKinds.mk u52.2.1 u52.2.2.1 u52.2.2.2) p0_b.fKnown) y58 hy59 W2 ) rfl) ?_
              refine ox_y rfl (y_assign_int rfl) ?_
              refine ox_nil ?_
              refine ex_then ?_
              refine cx_seq ?_
              refine cx_seq ?_
              refine cx_region ?_
              refine ox_y rfl (y_move_int rfl) ?_
              refine ox_y rfl (y_neq rfl rfl) ?_
              refine ox_nil ?_
              refine ex_then ?_
              rcases ite_some h with ⟨hp60, h⟩ | ⟨hp60, h⟩
              · refine cx_true (congrArg Value.bool hp60) ?_
                refine cx_seq ?_
                refine cx_region ?_
                refine ox_y rfl (y_move_int rfl) ?_
                refine ox_y rfl (y_buildS [.int .i64 0, .int .i64 0, .int .i64 0, .int .i64 0, .int .i64 0, .int .i64 0, .int .i64 0, .int .i64 0, .int .i64 0, .int .i64 0, .int .i64 y58] [(0, 10), (10, 1)] ust_92 ze_92 (by kernel_rfl)) ?_
                refine ox_n rfl (y_storeN 2 [.int .i64 0, .int .i64 0, .int .i64 0, .int .i64 0, .int .i64 0, .int .i64 0, .int .i64 0, .int .i64 0, .int .i64 0, .int .i64 0, .int .i64 y58] sz_92 rfl (Nat.le_of_ble_eq_true rfl) rfl rfl rfl) ?_
                refine ox_nil ?_
                refine ex_then ?_
                refine cx_ret ?_
                refine ex_then_ret ?_
                obtain rfl := Option.some.inj h
                exact ex_res1 (.inl rfl) rfl (resV_cellN 2 [.int .i64 0, .int .i64 0, .int .i64 0, .int .i64 0, .int .i64 0, .int .i64 0, .int .i64 0, .int .i64 0, .int .i64 0, .int .i64 0, .int .i64 y58] ag_92 rfl rfl rfl) (fun W2 hW2 => ⟨rfl, hW2.none⟩)
              · refine cx_false (congrArg Value.bool hp60) ?_
                refine cx_skip ?_
                refine ex_then ?_
                refine cx_seq ?_
                refine cx_region ?_
                refine ox_y rfl (y_loadN 0 [.int .i64 p0_b.fBarrows, .int .i64 u52.2.1, .int .i64 u52.2.2.1, .int .i64 u52.2.2.2, .int .i64 p0_b.fKnown.x0.fLo, .int .i64 p0_b.fKnown.x0.fHi, .int .i64 p0_b.fKnown.x1.fLo, .int .i64 p0_b.fKnown.x1.fHi, .int .i64 p0_b.fKnown.x2.fLo, .int .i64 p0_b.fKnown.x2.fHi] ag_52 rfl rfl rfl) ?_
                refine ox_y rfl (y_buildS [.int .i64 p0_b.fBarrows, .int .i64 u52.2.1, .int .i64 u52.2.2.1, .int .i64 u52.2.2.2, .int .i64 p0_b.fKnown.x0.fLo, .int .i64 p0_b.fKnown.x0.fHi, .int .i64 p0_b.fKnown.x1.fLo, .int .i64 p0_b.fKnown.x1.fHi, .int .i64 p0_b.fKnown.x2.fLo, .int .i64 p0_b.fKnown.x2.fHi, .int .i64 0] [(0, 10), (10, 1)] ust_92 ze_92 (by kernel_rfl)) ?_
                refine ox_n rfl (y_storeN 2 [.int .i64 p0_b.fBarrows, .int .i64 u52.2.1, .int .i64 u52.2.2.1, .int .i64 u52.2.2.2, .int .i64 p0_b.fKnown.x0.fLo, .int .i64 p0_b.fKnown.x0.fHi, .int .i64 p0_b.fKnown.x1.fLo, .int .i64 p0_b.fKnown.x1.fHi, .int .i64 p0_b.fKnown.x2.fLo, .int .i64 p0_b.fKnown.x2.fHi, .int .i64 0] sz_92 rfl (Nat.le_of_ble_eq_true rfl) rfl rfl rfl) ?_
                refine ox_nil ?_
                refine ex_then ?_
                refine cx_ret ?_
                obtain rfl := Option.some.inj h
                exact ex_res1 (.inl rfl) rfl (resV_cellN 2 [.int .i64 p0_b.fBarrows, .int .i64 u52.2.1, .int .i64 u52.2.2.1, .int .i64 u52.2.2.2, .int .i64 p0_b.fKnown.x0.fLo, .int .i64 p0_b.fKnown.x0.fHi, .int .i64 p0_b.fKnown.x1.fLo, .int .i64 p0_b.fKnown.x1.fHi, .int .i64 p0_b.fKnown.x2.fLo, .int .i64 p0_b.fKnown.x2.fHi, .int .i64 0] ag_92 rfl rfl rfl) (fun W2 hW2 => ⟨rfl, hW2.none⟩)
        · refine cx_false (congrArg Value.bool hp47) ?_
          refine cx_skip ?_
          refine ex_then ?_
          refine cx_seq ?_
          refine cx_seq ?_
          refine cx_region ?_
          refine ox_y rfl (y_move_int rfl) ?_
          refine ox_y rfl (y_neq rfl rfl) ?_
          refine ox_nil ?_
          refine ex_then ?_
          rcases ite_some h with ⟨hp61, h⟩ | ⟨hp61, h⟩
          · refine cx_true (congrArg Value.bool hp61) ?_
            refine cx_seq ?_
            refine cx_region ?_
            refine ox_y rfl (y_move_int rfl) ?_
            refine ox_y rfl (y_buildS [.int .i64 0, .int .i64 0, .int .i64 0, .int .i64 0, .int .i64 0, .int .i64 0, .int .i64 0, .int .i64 0, .int .i64 0, .int .i64 0, .int .i64 y4] [(0, 10), (10, 1)] ust_92 ze_92 (by kernel_rfl)) ?_
            refine ox_n rfl (y_storeN 2 [.int .i64 0, .int .i64 0, .int .i64 0, .int .i64 0, .int .i64 0, .int .i64 0, .int .i64 0, .int .i64 0, .int .i64 0, .int .i64 0, .int .i64 y4] sz_92 rfl (Nat.le_of_ble_eq_true rfl) rfl rfl rfl) ?_
            refine ox_nil ?_
            refine ex_then ?_
            refine cx_ret ?_
            refine ex_then_ret ?_
            obtain rfl := Option.some.inj h
            exact ex_res1 (.inl rfl) rfl (resV_cellN 2 [.int .i64 0, .int .i64 0, .int .i64 0, .int .i64 0, .int .i64 0, .int .i64 0, .int .i64 0, .int .i64 0, .int .i64 0, .int .i64 0, .int .i64 y4] ag_92 rfl rfl rfl) (fun W2 hW2 => ⟨rfl, hW2.none⟩)
          · refine cx_false (congrArg Value.bool hp61) ?_
            refine cx_skip ?_
            refine ex_then ?_
            refine cx_seq ?_
            refine cx_seq ?_
            refine cx_region ?_
            refine ox_y rfl (y_assign_int rfl) ?_
            refine ox_nil ?_
            refine ex_then ?_
            refine cx_block ?_
            obtain ⟨u65, hl70, h⟩ := bind_some h
            refine cx_loop (fun (s : (Int × Int × Int × Int)) L tm => ∃ (tm0 : Nat → Value), L = [cellsR b1 52 [.int .i64 p0_b.fBarrows, .int .i64 s.2.1, .int .i64 s.2.2.1, .int .i64 s.2.2.2, .int .i64 p0_b.fKnown.x0.fLo, .int .i64 p0_b.fKnown.x0.fHi, .int .i64 p0_b.fKnown.x1.fLo, .int .i64 p0_b.fKnown.x1.fHi, .int .i64 p0_b.fKnown.x2.fLo, .int .i64 p0_b.fKnown.x2.fHi], cellsR b2 43 [.int .i64 p1_s.x0, .int .i64 p1_s.x1, .int .i64 p1_s.x2], cellsR b3 92 [.int .i64 0, .int .i64 0, .int .i64 0, .int .i64 0, .int .i64 0, .int .i64 0, .int .i64 0, .int .i64 0, .int .i64 0, .int .i64 0, .int .i64 0]] ∧ tm = (upd (upd (upd (upd (upd (upd (upd (upd (upd (upd tm0 0 (.agg #[.int .i64 p0_b.fBarrows, .int .i64 p0_b.fSeen.x0, .int .i64 p0_b.fSeen.x1, .int .i64 p0_b.fSeen.x2, .int .i64 p0_b.fKnown.x0.fLo, .int .i64 p0_b.fKnown.x0.fHi, .int .i64 p0_b.fKnown.x1.fLo, .int .i64 p0_b.fKnown.x1.fHi, .int .i64 p0_b.fKnown.x2.fLo, .int .i64 p0_b.fKnown.x2.fHi])) 1 (.agg #[.int .i64 p1_s.x0, .int .i64 p1_s.x1, .int .i64 p1_s.x2])) 2 (.pointer (some ⟨b1, 0, none⟩))) 3 (.pointer (some ⟨b2, 0, none⟩))) 4 (.pointer (some ⟨b3, 0, none⟩))) 5 (.int .i64 y4)) 15 (.bool b7)) 28 (.bool b45)) 30 (.bool (y4 != 0))) 6 (.int .i64 s.1))) (fun s e L tm => e = .exit 0 ∧ ∃ (tm0 : Nat → Value), L = [cellsR b1 52 [.int .i64 p0_b.fBarrows, .int .i64 s.2.1, .int .i64 s.2.2.1, .int .i64 s.2.2.2, .int .i64 p0_b.fKnown.x0.fLo, .int .i64 p0_b.fKnown.x0.fHi, .int .i64 p0_b.fKnown.x1.fLo, .int .i64 p0_b.fKnown.x1.fHi, .int .i64 p0_b.fKnown.x2.fLo, .int .i64 p0_b.fKnown.x2.fHi], cellsR b2 43 [.int .i64 p1_s.x0, .int .i64 p1_s.x1, .int .i64 p1_s.x2], cellsR b3 92 [.int .i64 0, .int .i64 0, .int .i64 0, .int .i64 0, .int .i64 0, .int .i64 0, .int .i64 0, .int .i64 0, .int .i64 0, .int .i64 0, .int .i64 0]] ∧ tm = (upd (upd (upd (upd (upd (upd (upd (upd (upd (upd tm0 0 (.agg #[.int .i64 p0_b.fBarrows, .int .i64 p0_b.fSeen.x0, .int .i64 p0_b.fSeen.x1, .int .i64 p0_b.fSeen.x2, .int .i64 p0_b.fKnown.x0.fLo, .int .i64 p0_b.fKnown.x0.fHi, .int .i64 p0_b.fKnown.x1.fLo, .int .i64 p0_b.fKnown.x1.fHi, .int .i64 p0_b.fKnown.x2.fLo, .int .i64 p0_b.fKnown.x2.fHi])) 1 (.agg #[.int .i64 p1_s.x0, .int .i64 p1_s.x1, .int .i64 p1_s.x2])) 2 (.pointer (some ⟨b1, 0, none⟩))) 3 (.pointer (some ⟨b2, 0, none⟩))) 4 (.pointer (some ⟨b3, 0, none⟩))) 5 (.int .i64 y4)) 15 (.bool b7)) 28 (.bool b45)) 30 (.bool (y4 != 0))) 6 (.int .i64 s.1))) hl70 ⟨_, rfl, (keep (keep (keep (keep (keep (keep (keep (keep (keep (keep rfl rfl) rfl) rfl) rfl) rfl) rfl) rfl) rfl) rfl) rfl)⟩ ?_ ?_
            · rintro s64 L tm st ⟨tm0_s64, rfl, rfl⟩ h
              unfold calxref03_More_l4 at h
              refine cx_seq ?_
              refine cx_seq ?_
              refine cx_region ?_
              refine ox_y rfl (y_move_int rfl) ?_
              refine ox_y rfl (y_lss rfl rfl) ?_
              refine ox_nil ?_
              refine ex_then ?_
              rcases ite_some h with ⟨hp66, h⟩ | ⟨hp66, h⟩
              · refine cx_true (congrArg Value.bool hp66) ?_
                refine cx_skip ?_
                refine ex_then ?_
                refine cx_seq ?_
                refine cx_block ?_
                refine cx_draws 10 mixed (by kernel_rfl) (by kernel_rfl) ?_
                refine qx_y rfl (y_move_int rfl) ?_
                refine qx_y rfl (y_fieldAddr fo_52_1 rfl) ?_
                obtain ⟨hg67, h⟩ := guardO_some h
                refine qx_y rfl (y_indexArr ar_43 hg67.1 hg67.2 rfl rfl) ?_
                refine qx_y rfl (y_load1 0 (v := .int .i64 (sel3 s64.2.1 s64.2.2.1 s64.2.2.2 s64.1)) sc_3 rfl rfl (by rcases in3 hg67 with e | e | e <;> rw [e] <;> rfl)) ?_
                refine qx_y rfl (y_move_int rfl) ?_
                obtain ⟨hg68, h⟩ := guardO_some h
                refine qx_y rfl (y_indexArr ar_43 hg68.1 hg68.2 rfl rfl) ?_
                refine qx_y rfl (y_load1 1 (v := .int .i64 (sel3 p1_s.x0 p1_s.x1 p1_s.x2 s64.1)) sc_3 rfl rfl (by rcases in3 hg68 with e | e | e <;> rw [e] <;> rfl)) ?_
                refine qx_y rfl (y_add rfl rfl) ?_
                refine qx_y rfl (y_fieldAddr fo_52_1 rfl) ?_
                obtain ⟨hg69, h⟩ := guardO_some h
                refine qx_y rfl (y_indexArr ar_43 hg69.1 hg69.2 rfl rfl) ?_
                refine qx_nil ?_
                refine ox_n rfl (y_store1c 0 [.int .i64 p0_b.fBarrows, .int .i64 (put3 s64.1 0 (w64 ((sel3 s64.2.1 s64.2.2.1 s64.2.2.2 s64.1) + (sel3 p1_s.x0 p1_s.x1 p1_s.x2 s64.1))) s64.2.1), .int .i64 (put3 s64.1 1 (w64 ((sel3 s64.2.1 s64.2.2.1 s64.2.2.2 s64.1) + (sel3 p1_s.x0 p1_s.x1 p1_s.x2 s64.1))) s64.2.2.1), .int .i64 (put3 s64.1 2 (w64 ((sel3 s64.2.1 s64.2.2.1 s64.2.2.2 s64.1) + (sel3 p1_s.x0 p1_s.x1 p1_s.x2 s64.1))) s64.2.2.2), .int .i64 p0_b.fKnown.x0.fLo, .int .i64 p0_b.fKnown.x0.fHi, .int .i64 p0_b.fKnown.x1.fLo, .int .i64 p0_b.fKnown.x1.fHi, .int .i64 p0_b.fKnown.x2.fLo, .int .i64 p0_b.fKnown.x2.fHi] sz_3 rfl (by rcases in3 hg69 with e | e | e <;> rw [e] <;> exact Nat.lt_of_lt_of_le (Nat.lt_succ_self _) (Nat.le_of_ble_eq_true rfl)) (by rcases in3 hg69 with e | e | e <;> rw [e] <;> rfl) rfl rfl rfl) ?_
                refine ox_nil ?_
                refine ex_block ?_
                refine ex_then ?_
                refine cx_region ?_
                refine ox_y rfl (y_move_int rfl) ?_
                refine ox_y rfl (y_add rfl rfl) ?_
                refine ox_y rfl (y_assign_int rfl) ?_
                refine ox_nil ?_
                obtain rfl := Option.some.inj h
                exact ex_next ⟨_, rfl, (keep (keep (keep (keep (keep (keep (keep (keep (keep (keep rfl rfl) rfl) rfl) rfl) rfl) rfl) rfl) rfl) rfl) rfl)⟩
              · refine cx_false (congrArg Value.bool hp66) ?_
                refine cx_exit ?_
                refine ex_then_exit ?_
                obtain rfl := Option.some.inj h
                exact ex_stop ⟨rfl, _, rfl, (keep (keep (keep (keep (keep (keep (keep (keep (keep (keep rfl rfl) rfl) rfl) rfl) rfl) rfl) rfl) rfl) rfl) rfl)⟩
            · intro e L tm hJ
              obtain ⟨rfl, tm0_u65, rfl, rfl⟩ := hJ
              refine ⟨(by intro hc; cases hc), ?_⟩
              refine ex_block_here ?_
              refine ex_then ?_
              refine cx_seq ?_
              refine cx_region ?_
              refine ox_y rfl (y_loadN 0 [.int .i64 p0_b.fBarrows, .int .i64 u65.2.1, .int .i64 u65.2.2.1, .int .i64 u65.2.2.2, .int .i64 p0_b.fKnown.x0.fLo, .int .i64 p0_b.fKnown.x0.fHi, .int .i64 p0_b.fKnown.x1.fLo, .int .i64 p0_b.fKnown.x1.fHi, .int .i64 p0_b.fKnown.x2.fLo, .int .i64 p0_b.fKnown.x2.fHi] ag_52 rfl rfl rfl) ?_
              obtain ⟨y71, hy72, h⟩ := bind_some h
              refine ox_y rfl (y_call [.agg #[.int .i64 p0_b.fBarrows, .int .i64 u65.2.1, .int .i64 u65.2.2.1, .int .i64 u65.2.2.2, .int .i64 p0_b.fKnown.x0.fLo, .int .i64 p0_b.fKnown.x0.fHi, .int .i64 p0_b.fKnown.x1.fLo, .int .i64 p0_b.fKnown.x1.fHi, .int .i64 p0_b.fKnown.x2.fLo, .int .i64 p0_b.fKnown.x2.fHi]] go_40 rfl (fun W2 hW2 => calxref03_Check_ok (TBatch.mk p0_b.fBarrows (TKinds.mk u65.2.1 u65.2.2.1 u65.2.2.2) p0_b.fKnown) y71 hy72 W2 ) rfl) ?_
              refine ox_y rfl (y_assign_int rfl) ?_
              refine ox_nil ?_
              refine ex_then ?_
              refine cx_seq ?_
              refine cx_seq ?_
              refine cx_region ?_
              refine ox_y rfl (y_move_int rfl) ?_
              refine ox_y rfl (y_neq rfl rfl) ?_
              refine ox_nil ?_
              refine ex_then ?_
              rcases ite_some h with ⟨hp73, h⟩ | ⟨hp73, h⟩
              · refine cx_true (congrArg Value.bool hp73) ?_
                refine cx_seq ?_
                refine cx_region ?_
                refine ox_y rfl (y_move_int rfl) ?_
                refine ox_y rfl (y_buildS [.int .i64 0, .int .i64 0, .int .i64 0, .int .i64 0, .int .i64 0, .int .i64 0, .int .i64 0, .int .i64 0, .int .i64 0, .int .i64 0, .int .i64 y71] [(0, 10), (10, 1)] ust_92 ze_92 (by kernel_rfl)) ?_
                refine ox_n rfl (y_storeN 2 [.int .i64 0, .int .i64 0, .int .i64 0, .int .i64 0, .int .i64 0, .int .i64 0, .int .i64 0, .int .i64 0, .int .i64 0, .int .i64 0, .int .i64 y71] sz_92 rfl (Nat.le_of_ble_eq_true rfl) rfl rfl rfl) ?_
                refine ox_nil ?_
                refine ex_then ?_
                refine cx_ret ?_
                refine ex_then_ret ?_
                obtain rfl := Option.some.inj h
                exact ex_res1 (.inl rfl) rfl (resV_cellN 2 [.int .i64 0, .int .i64 0, .int .i64 0, .int .i64 0, .int .i64 0, .int .i64 0, .int .i64 0, .int .i64 0, .int .i64 0, .int .i64 0, .int .i64 y71] ag_92 rfl rfl rfl) (fun W2 hW2 => ⟨rfl, hW2.none⟩)
              · refine cx_false (congrArg Value.bool hp73) ?_
                refine cx_skip ?_
                refine ex_then ?_
                refine cx_seq ?_
                refine cx_region ?_
                refine ox_y rfl (y_loadN 0 [.int .i64 p0_b.fBarrows, .int .i64 u65.2.1, .int .i64 u65.2.2.1, .int .i64 u65.2.2.2, .int .i64 p0_b.fKnown.x0.fLo, .int .i64 p0_b.fKnown.x0.fHi, .int .i64 p0_b.fKnown.x1.fLo, .int .i64 p0_b.fKnown.x1.fHi, .int .i64 p0_b.fKnown.x2.fLo, .int .i64 p0_b.fKnown.x2.fHi] ag_52 rfl rfl rfl) ?_
                refine ox_y rfl (y_buildS [.int .i64 p0_b.fBarrows, .int .i64 u65.2.1, .int .i64 u65.2.2.1, .int .i64 u65.2.2.2, .int .i64 p0_b.fKnown.x0.fLo, .int .i64 p0_b.fKnown.x0.fHi, .int .i64 p0_b.fKnown.x1.fLo, .int .i64 p0_b.fKnown.x1.fHi, .int .i64 p0_b.fKnown.x2.fLo, .int .i64 p0_b.fKnown.x2.fHi, .int .i64 0] [(0, 10), (10, 1)] ust_92 ze_92 (by kernel_rfl)) ?_
                refine ox_n rfl (y_storeN 2 [.int .i64 p0_b.fBarrows, .int .i64 u65.2.1, .int .i64 u65.2.2.1, .int .i64 u65.2.2.2, .int .i64 p0_b.fKnown.x0.fLo, .int .i64 p0_b.fKnown.x0.fHi, .int .i64 p0_b.fKnown.x1.fLo, .int .i64 p0_b.fKnown.x1.fHi, .int .i64 p0_b.fKnown.x2.fLo, .int .i64 p0_b.fKnown.x2.fHi, .int .i64 0] sz_92 rfl (Nat.le_of_ble_eq_true rfl) rfl rfl rfl) ?_
                refine ox_nil ?_
                refine ex_then ?_
                refine cx_ret ?_
                obtain rfl := Option.some.inj h
                exact ex_res1 (.inl rfl) rfl (resV_cellN 2 [.int .i64 p0_b.fBarrows, .int .i64 u65.2.1, .int .i64 u65.2.2.1, .int .i64 u65.2.2.2, .int .i64 p0_b.fKnown.x0.fLo, .int .i64 p0_b.fKnown.x0.fHi, .int .i64 p0_b.fKnown.x1.fLo, .int .i64 p0_b.fKnown.x1.fHi, .int .i64 p0_b.fKnown.x2.fLo, .int .i64 p0_b.fKnown.x2.fHi, .int .i64 0] ag_92 rfl rfl rfl) (fun W2 hW2 => ⟨rfl, hW2.none⟩)
      · clear h; rcases ite_some hb46 with ⟨hp44, h⟩ | ⟨hp44, h⟩
        · refine qx_y (sees_t rfl rfl rfl rfl hp44) (y_loadN 1 [.int .i64 p1_s.x0, .int .i64 p1_s.x1, .int .i64 p1_s.x2] ag_43 rfl rfl rfl) ?_
          obtain ⟨y74, hy75, h⟩ := bind_some h
          refine qx_y (sees_t rfl rfl rfl rfl hp44) (y_call [.agg #[.int .i64 p1_s.x0, .int .i64 p1_s.x1, .int .i64 p1_s.x2]] go_96 rfl (fun W2 hW2 => calxref03_all_ok p1_s y74 hy75 W2 ) rfl) ?_
          refine qx_y (sees_t rfl rfl rfl rfl hp44) (y_fieldAddr fo_52_0 rfl) ?_
          refine qx_y (sees_t rfl rfl rfl rfl hp44) (y_load1 0 (v := .int .i64 p0_b.fBarrows) sc_3 rfl rfl rfl) ?_
          refine qx_y (sees_t rfl rfl rfl rfl hp44) (y_fieldAddr fo_52_1 rfl) ?_
          refine qx_y (sees_t rfl rfl rfl rfl hp44) (y_loadN 0 [.int .i64 p0_b.fSeen.x0, .int .i64 p0_b.fSeen.x1, .int .i64 p0_b.fSeen.x2] ag_43 rfl rfl rfl) ?_
          obtain ⟨y76, hy77, h⟩ := bind_some h
          refine qx_y (sees_t rfl rfl rfl rfl hp44) (y_call [.agg #[.int .i64 p0_b.fSeen.x0, .int .i64 p0_b.fSeen.x1, .int .i64 p0_b.fSeen.x2]] go_96 rfl (fun W2 hW2 => calxref03_all_ok p0_b.fSeen y76 hy77 W2 ) rfl) ?_
          refine qx_y (sees_t rfl rfl rfl rfl hp44) (y_sub rfl rfl) ?_
          refine qx_y (sees_t rfl rfl rfl rfl hp44) (y_gtr rfl rfl) ?_
          refine qx_y rfl (y_pick_tb (congrArg Value.bool hp44) rfl) ?_
          obtain rfl := Option.some.inj h
          exact key _ _ (keep (keep (keep (keep (keep (keep (keep (keep rfl rfl) rfl) rfl) rfl) rfl) rfl) rfl) rfl)
        · refine qx_skip (sees_f rfl rfl rfl rfl hp44) ?_
          refine qx_skip (sees_f rfl rfl rfl rfl hp44) ?_
          refine qx_skip (sees_f rfl rfl rfl rfl hp44) ?_
          refine qx_skip (sees_f rfl rfl rfl rfl hp44) ?_
          refine qx_skip (sees_f rfl rfl rfl rfl hp44) ?_
          refine qx_skip (sees_f rfl rfl rfl rfl hp44) ?_
          refine qx_skip (sees_f rfl rfl rfl rfl hp44) ?_
          refine qx_skip (sees_f rfl rfl rfl rfl hp44) ?_
          refine qx_skip (sees_f rfl rfl rfl rfl hp44) ?_
          refine qx_y rfl (y_pick_fb (congrArg Value.bool hp44) rfl) ?_
          obtain rfl := Option.some.inj h
          exact key _ _ (keep (keep (keep (keep (keep (keep (keep (keep rfl rfl) rfl) rfl) rfl) rfl) rfl) rfl) rfl)
  · clear h; rcases ite_some hb8 with ⟨hp6, h⟩ | ⟨hp6, h⟩
    · refine ox_y (sees_t rfl rfl rfl rfl hp6) (y_loadN 1 [.int .i64 p1_s.x0, .int .i64 p1_s.x1, .int .i64 p1_s.x2] ag_43 rfl rfl rfl) ?_
      obtain ⟨y78, hy79, h⟩ := bind_some h
      refine ox_y (sees_t rfl rfl rfl rfl hp6) (y_call [.agg #[.int .i64 p1_s.x0, .int .i64 p1_s.x1, .int .i64 p1_s.x2]] go_92 rfl (fun W2 hW2 => calxref03_sorted_ok p1_s y78 hy79 W2 ) rfl) ?_
      refine ox_y (sees_t rfl rfl rfl rfl hp6) (y_not rfl) ?_
      refine ox_y rfl (y_pick_tb (congrArg Value.bool hp6) rfl) ?_
      obtain rfl := Option.some.inj h
      exact key _ _ (keep (keep (keep (keep (keep (keep (keep rfl rfl) rfl) rfl) rfl) rfl) rfl) rfl)
    · refine ox_skip (sees_f rfl rfl rfl rfl hp6) ?_
      refine ox_skip (sees_f rfl rfl rfl rfl hp6) ?_
      refine ox_skip (sees_f rfl rfl rfl rfl hp6) ?_
      refine ox_y rfl (y_pick_fb (congrArg Value.bool hp6) rfl) ?_
      obtain rfl := Option.some.inj h
      exact key _ _ (keep (keep (keep (keep (keep (keep (keep rfl rfl) rfl) rfl) rfl) rfl) rfl) rfl)

/-! calx/calxlaw03.SampleMore -/
set_option maxRecDepth 100000 in
theorem calxlaw03_SampleMore_ok (p0_b : TBatch) (p1_seen : TKinds) (res : Bool) (h : calxlaw03_SampleMore p0_b p1_seen = some res) (W : World)  :
    Calls Try.prog 17 [.agg #[.int .i64 p0_b.fBarrows, .int .i64 p0_b.fSeen.x0, .int .i64 p0_b.fSeen.x1, .int .i64 p0_b.fSeen.x2, .int .i64 p0_b.fKnown.x0.fLo, .int .i64 p0_b.fKnown.x0.fHi, .int .i64 p0_b.fKnown.x1.fLo, .int .i64 p0_b.fKnown.x1.fHi, .int .i64 p0_b.fKnown.x2.fLo, .int .i64 p0_b.fKnown.x2.fHi], .agg #[.int .i64 p1_seen.x0, .int .i64 p1_seen.x1, .int .i64 p1_seen.x2]].toArray W fun e W2 => e = .returned (.bool res) ∧ Ext W W2 [] := by
  unfold calxlaw03_SampleMore at h
  refine calls_enter (m := 32) Try.func17 rfl rfl (Nat.le_of_ble_eq_true rfl) ?_
  refine cx_seq ?_
  refine cx_region ?_
  refine ox_box [.int .i64 p0_b.fBarrows, .int .i64 p0_b.fSeen.x0, .int .i64 p0_b.fSeen.x1, .int .i64 p0_b.fSeen.x2, .int .i64 p0_b.fKnown.x0.fLo, .int .i64 p0_b.fKnown.x0.fHi, .int .i64 p0_b.fKnown.x1.fLo, .int .i64 p0_b.fKnown.x1.fHi, .int .i64 p0_b.fKnown.x2.fLo, .int .i64 p0_b.fKnown.x2.fHi] rfl rfl rfl (fun b1 => ?_)
  refine ox_box [.int .i64 p1_seen.x0, .int .i64 p1_seen.x1, .int .i64 p1_seen.x2] rfl rfl rfl (fun b2 => ?_)
  refine ox_y rfl (y_assign_bool rfl) ?_
  refine ox_nil ?_
  refine ex_then ?_
  refine cx_seq ?_
  refine cx_region ?_
  obtain ⟨y3, hy4, h⟩ := bind_some h
  refine ox_y rfl (y_call [] go_22 rfl (fun W2 hW2 => calxlaw03_head_ok  y3 hy4 W2 ) rfl) ?_
  refine ox_y rfl (y_assign_bool rfl) ?_
  refine ox_nil ?_
  refine ex_then ?_
  refine cx_seq ?_
  refine cx_region ?_
  refine ox_y rfl (y_loadN 0 [.int .i64 p0_b.fBarrows, .int .i64 p0_b.fSeen.x0, .int .i64 p0_b.fSeen.x1, .int .i64 p0_b.fSeen.x2, .int .i64 p0_b.fKnown.x0.fLo, .int .i64 p0_b.fKnown.x0.fHi, .int .i64 p0_b.fKnown.x1.fLo, .int .i64 p0_b.fKnown.x1.fHi, .int .i64 p0_b.fKnown.x2.fLo, .int .i64 p0_b.fKnown.x2.fHi] ag_52 rfl rfl rfl) ?_
  refine ox_y rfl (y_loadN 1 [.int .i64 p1_seen.x0, .int .i64 p1_seen.x1, .int .i64 p1_seen.x2] ag_43 rfl rfl rfl) ?_
  obtain ⟨y5, hy6, h⟩ := bind_some h
  refine ox_y rfl (y_call [.agg #[.int .i64 p0_b.fBarrows, .int .i64 p0_b.fSeen.x0, .int .i64 p0_b.fSeen.x1, .int .i64 p0_b.fSeen.x2, .int .i64 p0_b.fKnown.x0.fLo, .int .i64 p0_b.fKnown.x0.fHi, .int .i64 p0_b.fKnown.x1.fLo, .int .i64 p0_b.fKnown.x1.fHi, .int .i64 p0_b.fKnown.x2.fLo, .int .i64 p0_b.fKnown.x2.fHi], .agg #[.int .i64 p1_seen.x0, .int .i64 p1_seen.x1, .int .i64 p1_seen.x2]] go_62 rfl (fun W2 hW2 => sample_More_ok p0_b p1_seen y5 hy6 W2 ) rfl) ?_
  refine ox_y rfl (y_move_tuple rfl) ?_
  refine ox_y rfl (y_extract (vs := [.agg #[.int .i64 y5.1.fBarrows, .int .i64 y5.1.fSeen.x0, .int .i64 y5.1.fSeen.x1, .int .i64 y5.1.fSeen.x2, .int .i64 y5.1.fKnown.x0.fLo, .int .i64 y5.1.fKnown.x0.fHi, .int .i64 y5.1.fKnown.x1.fLo, .int .i64 y5.1.fKnown.x1.fHi, .int .i64 y5.1.fKnown.x2.fLo, .int .i64 y5.1.fKnown.x2.fHi], .int .i64 y5.2]) (v := .agg #[.int .i64 y5.1.fBarrows, .int .i64 y5.1.fSeen.x0, .int .i64 y5.1.fSeen.x1, .int .i64 y5.1.fSeen.x2, .int .i64 y5.1.fKnown.x0.fLo, .int .i64 y5.1.fKnown.x0.fHi, .int .i64 y5.1.fKnown.x1.fLo, .int .i64 y5.1.fKnown.x1.fHi, .int .i64 y5.1.fKnown.x2.fLo, .int .i64 y5.1.fKnown.x2.fHi]) rfl rfl) ?_
  refine ox_y rfl (y_extract (vs := [.agg #[.int .i64 y5.1.fBarrows, .int .i64 y5.1.fSeen.x0, .int .i64 y5.1.fSeen.x1, .int .i64 y5.1.fSeen.x2, .int .i64 y5.1.fKnown.x0.fLo, .int .i64 y5.1.fKnown.x0.fHi, .int .i64 y5.1.fKnown.x1.fLo, .int .i64 y5.1.fKnown.x1.fHi, .int .i64 y5.1.fKnown.x2.fLo, .int .i64 y5.1.fKnown.x2.fHi], .int .i64 y5.2]) (v := .int .i64 y5.2) rfl rfl) ?_
  refine ox_alloc ze_52 rfl (fun b7 => ?_)
  refine ox_n rfl (y_storeN 2 [.int .i64 y5.1.fBarrows, .int .i64 y5.1.fSeen.x0, .int .i64 y5.1.fSeen.x1, .int .i64 y5.1.fSeen.x2, .int .i64 y5.1.fKnown.x0.fLo, .int .i64 y5.1.fKnown.x0.fHi, .int .i64 y5.1.fKnown.x1.fLo, .int .i64 y5.1.fKnown.x1.fHi, .int .i64 y5.1.fKnown.x2.fLo, .int .i64 y5.1.fKnown.x2.fHi] sz_52 rfl (Nat.le_of_ble_eq_true rfl) rfl rfl rfl) ?_
  refine ox_y rfl (y_assign_int rfl) ?_
  refine ox_nil ?_
  refine ex_then ?_
  refine cx_seq ?_
  refine cx_region ?_
  refine ox_y rfl (y_loadN 0 [.int .i64 p0_b.fBarrows, .int .i64 p0_b.fSeen.x0, .int .i64 p0_b.fSeen.x1, .int .i64 p0_b.fSeen.x2, .int .i64 p0_b.fKnown.x0.fLo, .int .i64 p0_b.fKnown.x0.fHi, .int .i64 p0_b.fKnown.x1.fLo, .int .i64 p0_b.fKnown.x1.fHi, .int .i64 p0_b.fKnown.x2.fLo, .int .i64 p0_b.fKnown.x2.fHi] ag_52 rfl rfl rfl) ?_
  refine ox_y rfl (y_loadN 1 [.int .i64 p1_seen.x0, .int .i64 p1_seen.x1, .int .i64 p1_seen.x2] ag_43 rfl rfl rfl) ?_
  obtain ⟨y8, hy9, h⟩ := bind_some h
  refine ox_y rfl (y_call [.agg #[.int .i64 p0_b.fBarrows, .int .i64 p0_b.fSeen.x0, .int .i64 p0_b.fSeen.x1, .int .i64 p0_b.fSeen.x2, .int .i64 p0_b.fKnown.x0.fLo, .int .i64 p0_b.fKnown.x0.fHi, .int .i64 p0_b.fKnown.x1.fLo, .int .i64 p0_b.fKnown.x1.fHi, .int .i64 p0_b.fKnown.x2.fLo, .int .i64 p0_b.fKnown.x2.fHi], .agg #[.int .i64 p1_seen.x0, .int .i64 p1_seen.x1, .int .i64 p1_seen.x2]] go_63 rfl (fun W2 hW2 => calxref03_More_ok p0_b p1_seen y8 hy9 W2 ) rfl) ?_
  refine ox_alloc ze_92 rfl (fun b10 => ?_)
  refine ox_n rfl (y_storeN 3 [.int .i64 y8.fB.fBarrows, .int .i64 y8.fB.fSeen.x0, .int .i64 y8.fB.fSeen.x1, .int .i64 y8.fB.fSeen.x2, .int .i64 y8.fB.fKnown.x0.fLo, .int .i64 y8.fB.fKnown.x0.fHi, .int .i64 y8.fB.fKnown.x1.fLo, .int .i64 y8.fB.fKnown.x1.fHi, .int .i64 y8.fB.fKnown.x2.fLo, .int .i64 y8.fB.fKnown.x2.fHi, .int .i64 y8.fE] sz_92 rfl (Nat.le_of_ble_eq_true rfl) rfl rfl rfl) ?_
  refine ox_nil ?_
  refine ex_then ?_
  refine cx_seq ?_
  refine cx_region ?_
  refine ox_y rfl (y_move_bool rfl) ?_
  refine ox_y rfl (y_move_bool rfl) ?_
  refine ox_join 5 (fun tm0 => (upd (upd (upd (upd (upd (upd (upd (upd (upd (upd tm0 0 (.agg #[.int .i64 p0_b.fBarrows, .int .i64 p0_b.fSeen.x0, .int .i64 p0_b.fSeen.x1, .int .i64 p0_b.fSeen.x2, .int .i64 p0_b.fKnown.x0.fLo, .int .i64 p0_b.fKnown.x0.fHi, .int .i64 p0_b.fKnown.x1.fLo, .int .i64 p0_b.fKnown.x1.fHi, .int .i64 p0_b.fKnown.x2.fLo, .int .i64 p0_b.fKnown.x2.fHi])) 1 (.agg #[.int .i64 p1_seen.x0, .int .i64 p1_seen.x1, .int .i64 p1_seen.x2])) 2 (.pointer (some ⟨b1, 0, none⟩))) 3 (.pointer (some ⟨b2, 0, none⟩))) 4 (.bool false)) 5 (.bool y3)) 6 (.pointer (some ⟨b7, 0, none⟩))) 7 (.int .i64 y5.2)) 8 (.pointer (some ⟨b10, 0, none⟩))) 25 (.bool (y3 && ((y5.1.fBarrows == y8.fB.fBarrows) && (((y5.1.fSeen.x0 == y8.fB.fSeen.x0) && (y5.1.fSeen.x1 == y8.fB.fSeen.x1) && (y5.1.fSeen.x2 == y8.fB.fSeen.x2)) && (((y5.1.fKnown.x0.fLo == y8.fB.fKnown.x0.fLo) && (y5.1.fKnown.x0.fHi == y8.fB.fKnown.x0.fHi)) && ((y5.1.fKnown.x1.fLo == y8.fB.fKnown.x1.fLo) && (y5.1.fKnown.x1.fHi == y8.fB.fKnown.x1.fHi)) && ((y5.1.fKnown.x2.fLo == y8.fB.fKnown.x2.fLo) && (y5.1.fKnown.x2.fHi == y8.fB.fKnown.x2.fHi))))))))) (fun tm0 => ?_) (fun key => ?_)
  · refine ox_y rfl (y_move_bool rfl) ?_
    refine ox_join 5 (fun tm0 => (upd (upd (upd (upd (upd (upd (upd (upd (upd (upd tm0 0 (.agg #[.int .i64 p0_b.fBarrows, .int .i64 p0_b.fSeen.x0, .int .i64 p0_b.fSeen.x1, .int .i64 p0_b.fSeen.x2, .int .i64 p0_b.fKnown.x0.fLo, .int .i64 p0_b.fKnown.x0.fHi, .int .i64 p0_b.fKnown.x1.fLo, .int .i64 p0_b.fKnown.x1.fHi, .int .i64 p0_b.fKnown.x2.fLo, .int .i64 p0_b.fKnown.x2.fHi])) 1 (.agg #[.int .i64 p1_seen.x0, .int .i64 p1_seen.x1, .int .i64 p1_seen.x2])) 2 (.pointer (some ⟨b1, 0, none⟩))) 3 (.pointer (some ⟨b2, 0, none⟩))) 4 (.bool false)) 5 (.bool y3)) 6 (.pointer (some ⟨b7, 0, none⟩))) 7 (.int .i64 y5.2)) 8 (.pointer (some ⟨b10, 0, none⟩))) 31 (.bool ((y3 && ((y5.1.fBarrows == y8.fB.fBarrows) && (((y5.1.fSeen.x0 == y8.fB.fSeen.x0) && (y5.1.fSeen.x1 == y8.fB.fSeen.x1) && (y5.1.fSeen.x2 == y8.fB.fSeen.x2)) && (((y5.1.fKnown.x0.fLo == y8.fB.fKnown.x0.fLo) && (y5.1.fKnown.x0.fHi == y8.fB.fKnown.x0.fHi)) && ((y5.1.fKnown.x1.fLo == y8.fB.fKnown.x1.fLo) && (y5.1.fKnown.x1.fHi == y8.fB.fKnown.x1.fHi)) && ((y5.1.fKnown.x2.fLo == y8.fB.fKnown.x2.fLo) && (y5.1.fKnown.x2.fHi == y8.fB.fKnown.x2.fHi)))))) && (y5.2 == y8.fE))))) (fun tm0 => ?_) (fun key => ?_)
    · refine ox_y rfl (y_assign_bool rfl) ?_
      refine ox_nil ?_
      refine ex_then ?_
      refine cx_ret ?_
      obtain rfl := Option.some.inj h
      exact ex_res1 (.inl rfl) rfl (resV_tmp (v := .bool ((y3 && ((y5.1.fBarrows == y8.fB.fBarrows) && (((y5.1.fSeen.x0 == y8.fB.fSeen.x0) && (y5.1.fSeen.x1 == y8.fB.fSeen.x1) && (y5.1.fSeen.x2 == y8.fB.fSeen.x2)) && (((y5.1.fKnown.x0.fLo == y8.fB.fKnown.x0.fLo) && (y5.1.fKnown.x0.fHi == y8.fB.fKnown.x0.fHi)) && ((y5.1.fKnown.x1.fLo == y8.fB.fKnown.x1.fLo) && (y5.1.fKnown.x1.fHi == y8.fB.fKnown.x1.fHi)) && ((y5.1.fKnown.x2.fLo == y8.fB.fKnown.x2.fLo) && (y5.1.fKnown.x2.fHi == y8.fB.fKnown.x2.fHi)))))) && (y5.2 == y8.fE))) rfl) (fun W2 hW2 => ⟨rfl, hW2.none⟩)
    · rcases bool_cases (y3 && ((y5.1.fBarrows == y8.fB.fBarrows) && (((y5.1.fSeen.x0 == y8.fB.fSeen.x0) && (y5.1.fSeen.x1 == y8.fB.fSeen.x1) && (y5.1.fSeen.x2 == y8.fB.fSeen.x2)) && (((y5.1.fKnown.x0.fLo == y8.fB.fKnown.x0.fLo) && (y5.1.fKnown.x0.fHi == y8.fB.fKnown.x0.fHi)) && ((y5.1.fKnown.x1.fLo == y8.fB.fKnown.x1.fLo) && (y5.1.fKnown.x1.fHi == y8.fB.fKnown.x1.fHi)) && ((y5.1.fKnown.x2.fLo == y8.fB.fKnown.x2.fLo) && (y5.1.fKnown.x2.fHi == y8.fB.fKnown.x2.fHi)))))) with hp12 | hp12
      · refine ox_y (sees_t rfl rfl rfl rfl hp12) (y_move_int rfl) ?_
        refine ox_y (sees_t rfl rfl rfl rfl hp12) (y_fieldAddr fo_92_1 rfl) ?_
        refine ox_y (sees_t rfl rfl rfl rfl hp12) (y_load1 3 (v := .int .i64 y8.fE) sc_27 rfl rfl rfl) ?_
        refine ox_y (sees_t rfl rfl rfl rfl hp12) (y_eql rfl rfl) ?_
        refine ox_y rfl (y_pick_tb (congrArg Value.bool hp12) rfl) ?_
        exact key _ _ (keep (keep (keep (keep (keep (keep (keep (keep (keep (keep rfl rfl) rfl) rfl) rfl) rfl) rfl) rfl) rfl) rfl) (congrArg Value.bool (and_t hp12)))
      · refine ox_skip (sees_f rfl rfl rfl rfl hp12) ?_
        refine ox_skip (sees_f rfl rfl rfl rfl hp12) ?_
        refine ox_skip (sees_f rfl rfl rfl rfl hp12) ?_
        refine ox_skip (sees_f rfl rfl rfl rfl hp12) ?_
        refine ox_y rfl (y_pick_fb (congrArg Value.bool hp12) rfl) ?_
        exact key _ _ (keep (keep (keep (keep (keep (keep (keep (keep (keep (keep rfl rfl) rfl) rfl) rfl) rfl) rfl) rfl) rfl) rfl) (congrArg Value.bool (and_f hp12)))
  · rcases bool_cases y3 with hp11 | hp11
    · refine ox_y (sees_t rfl rfl rfl rfl hp11) (y_loadN 2 [.int .i64 y5.1.fBarrows, .int .i64 y5.1.fSeen.x0, .int .i64 y5.1.fSeen.x1, .int .i64 y5.1.fSeen.x2, .int .i64 y5.1.fKnown.x0.fLo, .int .i64 y5.1.fKnown.x0.fHi, .int .i64 y5.1.fKnown.x1.fLo, .int .i64 y5.1.fKnown.x1.fHi, .int .i64 y5.1.fKnown.x2.fLo, .int .i64 y5.1.fKnown.x2.fHi] ag_52 rfl rfl rfl) ?_
      refine ox_y (sees_t rfl rfl rfl rfl hp11) (y_fieldAddr fo_92_0 rfl) ?_
      refine ox_y (sees_t rfl rfl rfl rfl hp11) (y_loadN 3 [.int .i64 y8.fB.fBarrows, .int .i64 y8.fB.fSeen.x0, .int .i64 y8.fB.fSeen.x1, .int .i64 y8.fB.fSeen.x2, .int .i64 y8.fB.fKnown.x0.fLo, .int .i64 y8.fB.fKnown.x0.fHi, .int .i64 y8.fB.fKnown.x1.fLo, .int .i64 y8.fB.fKnown.x1.fHi, .int .i64 y8.fB.fKnown.x2.fLo, .int .i64 y8.fB.fKnown.x2.fHi] ag_52 rfl rfl rfl) ?_
      refine ox_y (sees_t rfl rfl rfl rfl hp11) (y_eqla (b := ((y5.1.fBarrows == y8.fB.fBarrows) && (((y5.1.fSeen.x0 == y8.fB.fSeen.x0) && (y5.1.fSeen.x1 == y8.fB.fSeen.x1) && (y5.1.fSeen.x2 == y8.fB.fSeen.x2)) && (((y5.1.fKnown.x0.fLo == y8.fB.fKnown.x0.fLo) && (y5.1.fKnown.x0.fHi == y8.fB.fKnown.x0.fHi)) && ((y5.1.fKnown.x1.fLo == y8.fB.fKnown.x1.fLo) && (y5.1.fKnown.x1.fHi == y8.fB.fKnown.x1.fHi)) && ((y5.1.fKnown.x2.fLo == y8.fB.fKnown.x2.fLo) && (y5.1.fKnown.x2.fHi == y8.fB.fKnown.x2.fHi)))))) eg_52 rfl rfl (fun _ => (eqS3 fl_52 (part1 sc_3 rfl) (partN (cs := #[.int .i64 y5.1.fSeen.x0, .int .i64 y5.1.fSeen.x1, .int .i64 y5.1.fSeen.x2]) ag_43 (by kernel_rfl)) (partN (cs := #[.int .i64 y5.1.fKnown.x0.fLo, .int .i64 y5.1.fKnown.x0.fHi, .int .i64 y5.1.fKnown.x1.fLo, .int .i64 y5.1.fKnown.x1.fHi, .int .i64 y5.1.fKnown.x2.fLo, .int .i64 y5.1.fKnown.x2.fHi]) ag_50 (by kernel_rfl)) (part1 sc_3 rfl) (partN (cs := #[.int .i64 y8.fB.fSeen.x0, .int .i64 y8.fB.fSeen.x1, .int .i64 y8.fB.fSeen.x2]) ag_43 (by kernel_rfl)) (partN (cs := #[.int .i64 y8.fB.fKnown.x0.fLo, .int .i64 y8.fB.fKnown.x0.fHi, .int .i64 y8.fB.fKnown.x1.fLo, .int .i64 y8.fB.fKnown.x1.fHi, .int .i64 y8.fB.fKnown.x2.fLo, .int .i64 y8.fB.fKnown.x2.fHi]) ag_50 (by kernel_rfl)) (run_equalIn_int _ _ _ _ _ _ _ ui_3) (eqA3 ua_43 sz_3 (part1 sc_3 rfl) (part1 sc_3 rfl) (part1 sc_3 rfl) (part1 sc_3 rfl) (part1 sc_3 rfl) (part1 sc_3 rfl) (run_equalIn_int _ _ _ _ _ _ _ ui_3) (run_equalIn_int _ _ _ _ _ _ _ ui_3) (run_equalIn_int _ _ _ _ _ _ _ ui_3)) (eqA3 ua_50 sz_33 (partN (cs := #[.int .i64 y5.1.fKnown.x0.fLo, .int .i64 y5.1.fKnown.x0.fHi]) ag_33 (by kernel_rfl)) (partN (cs := #[.int .i64 y5.1.fKnown.x1.fLo, .int .i64 y5.1.fKnown.x1.fHi]) ag_33 (by kernel_rfl)) (partN (cs := #[.int .i64 y5.1.fKnown.x2.fLo, .int .i64 y5.1.fKnown.x2.fHi]) ag_33 (by kernel_rfl)) (partN (cs := #[.int .i64 y8.fB.fKnown.x0.fLo, .int .i64 y8.fB.fKnown.x0.fHi]) ag_33 (by kernel_rfl)) (partN (cs := #[.int .i64 y8.fB.fKnown.x1.fLo, .int .i64 y8.fB.fKnown.x1.fHi]) ag_33 (by kernel_rfl)) (partN (cs := #[.int .i64 y8.fB.fKnown.x2.fLo, .int .i64 y8.fB.fKnown.x2.fHi]) ag_33 (by kernel_rfl)) (eqS2 fl_33 (part1 sc_3 rfl) (part1 sc_3 rfl) (part1 sc_3 rfl) (part1 sc_3 rfl) (run_equalIn_int _ _ _ _ _ _ _ ui_3) (run_equalIn_int _ _ _ _ _ _ _ ui_3)) (eqS2 fl_33 (part1 sc_3 rfl) (part1 sc_3 rfl) (part1 sc_3 rfl) (part1 sc_3 rfl) (run_equalIn_int _ _ _ _ _ _ _ ui_3) (run_equalIn_int _ _ _ _ _ _ _ ui_3)) (eqS2 fl_33 (part1 sc_3 rfl) (part1 sc_3 rfl) (part1 sc_3 rfl) (part1 sc_3 rfl) (run_equalIn_int _ _ _ _ _ _ _ ui_3) (run_equalIn_int _ _ _ _ _ _ _ ui_3)))))) ?_
      refine ox_y rfl (y_pick_tb (congrArg Value.bool hp11) rfl) ?_
      exact key _ _ (keep (keep (keep (keep (keep (keep (keep (keep (keep (keep rfl rfl) rfl) rfl) rfl) rfl) rfl) rfl) rfl) rfl) (congrArg Value.bool (and_t hp11)))
    · refine ox_skip (sees_f rfl rfl rfl rfl hp11) ?_
      refine ox_skip (sees_f rfl rfl rfl rfl hp11) ?_
      refine ox_skip (sees_f rfl rfl rfl rfl hp11) ?_
      refine ox_skip (sees_f rfl rfl rfl rfl hp11) ?_
      refine ox_y rfl (y_pick_fb (congrArg Value.bool hp11) rfl) ?_
      exact key _ _ (keep (keep (keep (keep (keep (keep (keep (keep (keep (keep rfl rfl) rfl) rfl) rfl) rfl) rfl) rfl) rfl) rfl) (congrArg Value.bool (and_f hp11)))

end Go.Proofs.Ytepfgdfahinpkaa
