/- The calls hand back what the plain functions say. -/
import Derived.Test.YtepfgdfahinpkaaF
import Derived.Test.YtepfgdfahinpkaaC5
set_option linter.unusedVariables false
set_option maxHeartbeats 4000000
namespace Go.Proofs.Ytepfgdfahinpkaa
open Go.RowKit (Below)
attribute [local irreducible] OX QX CX EX OpY Calls CallsIn

/-! calx/calxref03.ends -/
set_option maxRecDepth 100000 in
theorem calxref03_ends_ok (p0_b : TBatch) (p1_sort : Int) (res : TSpan) (h : calxref03_ends p0_b p1_sort = some res) (W : World)  :
    Calls Try.prog 88 [.agg #[.int .i64 p0_b.fBarrows, .int .i64 p0_b.fSeen.x0, .int .i64 p0_b.fSeen.x1, .int .i64 p0_b.fSeen.x2, .int .i64 p0_b.fKnown.x0.fLo, .int .i64 p0_b.fKnown.x0.fHi, .int .i64 p0_b.fKnown.x1.fLo, .int .i64 p0_b.fKnown.x1.fHi, .int .i64 p0_b.fKnown.x2.fLo, .int .i64 p0_b.fKnown.x2.fHi], .int .i64 p1_sort].toArray W fun e W2 => e = .returned (.agg #[.int .i64 res.fLo, .int .i64 res.fHi]) ∧ Ext W W2 [] := by
  unfold calxref03_ends at h
  refine calls_enter (m := 48) Try.func88 rfl rfl (Nat.le_of_ble_eq_true rfl) ?_
  refine cx_seq ?_
  refine cx_region ?_
  refine ox_box [.int .i64 p0_b.fBarrows, .int .i64 p0_b.fSeen.x0, .int .i64 p0_b.fSeen.x1, .int .i64 p0_b.fSeen.x2, .int .i64 p0_b.fKnown.x0.fLo, .int .i64 p0_b.fKnown.x0.fHi, .int .i64 p0_b.fKnown.x1.fLo, .int .i64 p0_b.fKnown.x1.fHi, .int .i64 p0_b.fKnown.x2.fLo, .int .i64 p0_b.fKnown.x2.fHi] rfl rfl rfl (fun b1 => ?_)
  refine ox_alloc ze_33 rfl (fun b2 => ?_)
  refine ox_nil ?_
  refine ex_then ?_
  refine cx_seq ?_
  refine cx_region ?_
  refine ox_y rfl (y_loadN 0 [.int .i64 p0_b.fBarrows, .int .i64 p0_b.fSeen.x0, .int .i64 p0_b.fSeen.x1, .int .i64 p0_b.fSeen.x2, .int .i64 p0_b.fKnown.x0.fLo, .int .i64 p0_b.fKnown.x0.fHi, .int .i64 p0_b.fKnown.x1.fLo, .int .i64 p0_b.fKnown.x1.fHi, .int .i64 p0_b.fKnown.x2.fLo, .int .i64 p0_b.fKnown.x2.fHi] ag_52 rfl rfl rfl) ?_
  obtain ⟨y3, hy4, h⟩ := bind_some h
  refine ox_call [.agg #[.int .i64 p0_b.fBarrows, .int .i64 p0_b.fSeen.x0, .int .i64 p0_b.fSeen.x1, .int .i64 p0_b.fSeen.x2, .int .i64 p0_b.fKnown.x0.fLo, .int .i64 p0_b.fKnown.x0.fHi, .int .i64 p0_b.fKnown.x1.fLo, .int .i64 p0_b.fKnown.x1.fHi, .int .i64 p0_b.fKnown.x2.fLo, .int .i64 p0_b.fKnown.x2.fHi]] _ _ _ rfl go_100 rfl (fun W2 hW2 => calxref03_wholes_ok p0_b y3 hy4 W2 ) ?_
  rintro ⟨A5, n7, c6⟩ hn8
  replace hn8 : n7 = y3.length := hn8; subst hn8
  refine ox_y rfl (y_assign_slice rfl) ?_
  refine ox_nil ?_
  refine ex_then ?_
  refine cx_seq ?_
  refine cx_drawsA 11 mixed (by kernel_rfl) (by kernel_rfl) (by kernel_rfl) ?_
  refine ax_y rfl (fun _ => y_move_slice rfl) ?_
  refine ax_y rfl (fun _ => y_move_int rfl) ?_
  obtain ⟨hg9, h⟩ := guardO_some h
  refine ax_y rfl (fun _ => y_indexR sl_53 (by decide) hg9.1 hg9.2 (RdL.row 2 rfl) (encL_len TKinds_cells_len rfl) rfl rfl) ?_
  obtain ⟨hg10, h⟩ := guardO_some h
  refine ax_y rfl (fun _ => y_indexArrR (A := A5) (j := (Int.toNat 0 * 3)) ar_43 hg10.1 hg10.2 rfl rfl) ?_
  refine ax_y rfl (fun _ => y_loadR1 (A := A5) (j := ((Int.toNat 0 * 3) + Int.toNat p1_sort * 1)) (v := .int .i64 (sel3 ((rdL y3 0).x0) ((rdL y3 0).x1) ((rdL y3 0).x2) p1_sort)) sc_3 (RdL.row 2 rfl) rfl (encL_get TKinds_cells_len hg9.1 (lt_nat hg9.2 rfl) (by rcases in3 hg10 with e | e | e <;> rw [e] <;> rfl))) ?_
  refine ax_y rfl (fun _ => y_move_slice rfl) ?_
  refine ax_y rfl (fun _ => y_move_int rfl) ?_
  obtain ⟨hg11, h⟩ := guardO_some h
  refine ax_y rfl (fun _ => y_indexR sl_53 (by decide) hg11.1 hg11.2 (RdL.row 2 rfl) (encL_len TKinds_cells_len rfl) rfl rfl) ?_
  obtain ⟨hg12, h⟩ := guardO_some h
  refine ax_y rfl (fun _ => y_indexArrR (A := A5) (j := (Int.toNat 0 * 3)) ar_43 hg12.1 hg12.2 rfl rfl) ?_
  refine ax_y rfl (fun _ => y_loadR1 (A := A5) (j := ((Int.toNat 0 * 3) + Int.toNat p1_sort * 1)) (v := .int .i64 (sel3 ((rdL y3 0).x0) ((rdL y3 0).x1) ((rdL y3 0).x2) p1_sort)) sc_3 (RdL.row 2 rfl) rfl (encL_get TKinds_cells_len hg11.1 (lt_nat hg11.2 rfl) (by rcases in3 hg12 with e | e | e <;> rw [e] <;> rfl))) ?_
  refine ax_y rfl (fun _ => y_buildS [.int .i64 (sel3 ((rdL y3 0).x0) ((rdL y3 0).x1) ((rdL y3 0).x2) p1_sort), .int .i64 (sel3 ((rdL y3 0).x0) ((rdL y3 0).x1) ((rdL y3 0).x2) p1_sort)] [(0, 1), (1, 1)] ust_33 ze_33 (by kernel_rfl)) ?_
  refine ax_nil rfl ze_33 (fun b13 => ?_)
  refine ox_n rfl (y_storeN 3 [.int .i64 (sel3 ((rdL y3 0).x0) ((rdL y3 0).x1) ((rdL y3 0).x2) p1_sort), .int .i64 (sel3 ((rdL y3 0).x0) ((rdL y3 0).x1) ((rdL y3 0).x2) p1_sort)] sz_33 rfl (Nat.le_of_ble_eq_true rfl) rfl rfl rfl) ?_
  refine ox_nil ?_
  refine ex_only ?_
  refine ex_then ?_
  refine cx_seq ?_
  refine cx_seq ?_
  refine cx_region ?_
  refine ox_y rfl (y_assign_int rfl) ?_
  refine ox_nil ?_
  refine ex_then ?_
  refine cx_block ?_
  obtain ⟨u17, hl23, h⟩ := bind_some h
  refine cx_loop (fun (s : (Int × Int × Int)) L tm => ∃ (tm0 : Nat → Value), L = [cellsR b1 52 [.int .i64 p0_b.fBarrows, .int .i64 p0_b.fSeen.x0, .int .i64 p0_b.fSeen.x1, .int .i64 p0_b.fSeen.x2, .int .i64 p0_b.fKnown.x0.fLo, .int .i64 p0_b.fKnown.x0.fHi, .int .i64 p0_b.fKnown.x1.fLo, .int .i64 p0_b.fKnown.x1.fHi, .int .i64 p0_b.fKnown.x2.fLo, .int .i64 p0_b.fKnown.x2.fHi], cellsR b2 33 [.int .i64 0, .int .i64 0], rowR A5 c6 43 3 y3.length (encL TKinds_cells y3), cellsR b13 33 [.int .i64 s.2.1, .int .i64 s.2.2]] ∧ tm = (upd (upd (upd (upd (upd (upd (upd tm0 0 (.agg #[.int .i64 p0_b.fBarrows, .int .i64 p0_b.fSeen.x0, .int .i64 p0_b.fSeen.x1, .int .i64 p0_b.fSeen.x2, .int .i64 p0_b.fKnown.x0.fLo, .int .i64 p0_b.fKnown.x0.fHi, .int .i64 p0_b.fKnown.x1.fLo, .int .i64 p0_b.fKnown.x1.fHi, .int .i64 p0_b.fKnown.x2.fLo, .int .i64 p0_b.fKnown.x2.fHi])) 1 (.int .i64 p1_sort)) 2 (.pointer (some ⟨b1, 0, none⟩))) 4 (.pointer (some ⟨b2, 0, none⟩))) 5 (.slice A5 y3.length c6)) 6 (.pointer (some ⟨b13, 0, none⟩))) 7 (.int .i64 s.1))) (fun s e L tm => e = .exit 0 ∧ ∃ (tm0 : Nat → Value), L = [cellsR b1 52 [.int .i64 p0_b.fBarrows, .int .i64 p0_b.fSeen.x0, .int .i64 p0_b.fSeen.x1, .int .i64 p0_b.fSeen.x2, .int .i64 p0_b.fKnown.x0.fLo, .int .i64 p0_b.fKnown.x0.fHi, .int .i64 p0_b.fKnown.x1.fLo, .int .i64 p0_b.fKnown.x1.fHi, .int .i64 p0_b.fKnown.x2.fLo, .int .i64 p0_b.fKnown.x2.fHi], cellsR b2 33 [.int .i64 0, .int .i64 0], rowR A5 c6 43 3 y3.length (encL TKinds_cells y3), cellsR b13 33 [.int .i64 s.2.1, .int .i64 s.2.2]] ∧ tm = (upd (upd (upd (upd (upd (upd (upd tm0 0 (.agg #[.int .i64 p0_b.fBarrows, .int .i64 p0_b.fSeen.x0, .int .i64 p0_b.fSeen.x1, .int .i64 p0_b.fSeen.x2, .int .i64 p0_b.fKnown.x0.fLo, .int .i64 p0_b.fKnown.x0.fHi, .int .i64 p0_b.fKnown.x1.fLo, .int .i64 p0_b.fKnown.x1.fHi, .int .i64 p0_b.fKnown.x2.fLo, .int .i64 p0_b.fKnown.x2.fHi])) 1 (.int .i64 p1_sort)) 2 (.pointer (some ⟨b1, 0, none⟩))) 4 (.pointer (some ⟨b2, 0, none⟩))) 5 (.slice A5 y3.length c6)) 6 (.pointer (some ⟨b13, 0, none⟩))) 7 (.int .i64 s.1))) hl23 ⟨_, rfl, (keep (keep (keep (keep (keep (keep (keep rfl rfl) rfl) rfl) rfl) rfl) rfl) rfl)⟩ ?_ ?_
  · rintro s16 L tm st ⟨tm0_s16, rfl, rfl⟩ h
    unfold calxref03_ends_l1 at h
    refine cx_seq ?_
    refine cx_seq ?_
    refine cx_region ?_
    refine ox_y rfl (y_move_int rfl) ?_
    refine ox_y rfl (y_move_slice rfl) ?_
    refine ox_y rfl (y_len (us := []) us_53 rfl) ?_
    refine ox_y rfl (y_lss rfl rfl) ?_
    refine ox_nil ?_
    refine ex_then ?_
    rcases ite_some h with ⟨hp18, h⟩ | ⟨hp18, h⟩
    · refine cx_true (congrArg Value.bool hp18) ?_
      refine cx_skip ?_
      refine ex_then ?_
      refine cx_seq ?_
      refine cx_block ?_
      refine cx_seq ?_
      refine cx_draws 10 mixed (by kernel_rfl) (by kernel_rfl) ?_
      refine qx_y rfl (y_fieldAddr fo_33_0 rfl) ?_
      refine qx_y rfl (y_load1 3 (v := .int .i64 s16.2.1) sc_3 rfl rfl rfl) ?_
      refine qx_y rfl (y_move_slice rfl) ?_
      refine qx_y rfl (y_move_int rfl) ?_
      refine qx_y rfl (y_move_int rfl) ?_
      obtain ⟨hg19, h⟩ := guardO_some h
      refine qx_y rfl (y_indexR sl_53 (by decide) hg19.1 hg19.2 (RdL.row 2 rfl) (encL_len TKinds_cells_len rfl) rfl rfl) ?_
      obtain ⟨hg20, h⟩ := guardO_some h
      refine qx_y rfl (y_indexArrR (A := A5) (j := (Int.toNat s16.1 * 3)) ar_43 hg20.1 hg20.2 rfl rfl) ?_
      refine qx_y rfl (y_loadR1 (A := A5) (j := ((Int.toNat s16.1 * 3) + Int.toNat p1_sort * 1)) (v := .int .i64 (sel3 ((rdL y3 s16.1).x0) ((rdL y3 s16.1).x1) ((rdL y3 s16.1).x2) p1_sort)) sc_3 (RdL.row 2 rfl) rfl (encL_get TKinds_cells_len hg19.1 (lt_nat hg19.2 rfl) (by rcases in3 hg20 with e | e | e <;> rw [e] <;> rfl))) ?_
      refine qx_y rfl (y_min rfl rfl) ?_
      refine qx_y rfl (y_fieldAddr fo_33_0 rfl) ?_
      refine qx_nil ?_
      refine ox_n rfl (y_store1 3 (v := .int .i64 (min s16.2.1 (sel3 ((rdL y3 s16.1).x0) ((rdL y3 s16.1).x1) ((rdL y3 s16.1).x2) p1_sort))) sz_3 rfl (Nat.lt_of_lt_of_le (Nat.lt_succ_self _) (Nat.le_of_ble_eq_true rfl)) rfl rfl rfl) ?_
      refine ox_nil ?_
      refine ex_then ?_
      refine cx_draws 10 mixed (by kernel_rfl) (by kernel_rfl) ?_
      refine qx_y rfl (y_fieldAddr fo_33_1 rfl) ?_
      refine qx_y rfl (y_load1 3 (v := .int .i64 s16.2.2) sc_3 rfl rfl rfl) ?_
      refine qx_y rfl (y_move_slice rfl) ?_
      refine qx_y rfl (y_move_int rfl) ?_
      refine qx_y rfl (y_move_int rfl) ?_
      obtain ⟨hg21, h⟩ := guardO_some h
      refine qx_y rfl (y_indexR sl_53 (by decide) hg21.1 hg21.2 (RdL.row 2 rfl) (encL_len TKinds_cells_len rfl) rfl rfl) ?_
      obtain ⟨hg22, h⟩ := guardO_some h
      refine qx_y rfl (y_indexArrR (A := A5) (j := (Int.toNat s16.1 * 3)) ar_43 hg22.1 hg22.2 rfl rfl) ?_
      refine qx_y rfl (y_loadR1 (A := A5) (j := ((Int.toNat s16.1 * 3) + Int.toNat p1_sort * 1)) (v := .int .i64 (sel3 ((rdL y3 s16.1).x0) ((rdL y3 s16.1).x1) ((rdL y3 s16.1).x2) p1_sort)) sc_3 (RdL.row 2 rfl) rfl (encL_get TKinds_cells_len hg21.1 (lt_nat hg21.2 rfl) (by rcases in3 hg22 with e | e | e <;> rw [e] <;> rfl))) ?_
      refine qx_y rfl (y_max rfl rfl) ?_
      refine qx_y rfl (y_fieldAddr fo_33_1 rfl) ?_
      refine qx_nil ?_
      refine ox_n rfl (y_store1 3 (v := .int .i64 (max s16.2.2 (sel3 ((rdL y3 s16.1).x0) ((rdL y3 s16.1).x1) ((rdL y3 s16.1).x2) p1_sort))) sz_3 rfl (Nat.lt_of_lt_of_le (Nat.lt_succ_self _) (Nat.le_of_ble_eq_true rfl)) rfl rfl rfl) ?_
      refine ox_nil ?_
      refine ex_block ?_
      refine ex_then ?_
      refine cx_region ?_
      refine ox_y rfl (y_move_int rfl) ?_
      refine ox_y rfl (y_add rfl rfl) ?_
      refine ox_y rfl (y_assign_int rfl) ?_
      refine ox_nil ?_
      obtain rfl := Option.some.inj h
      exact ex_next ⟨_, rfl, (keep (keep (keep (keep (keep (keep (keep rfl rfl) rfl) rfl) rfl) rfl) rfl) rfl)⟩
    · refine cx_false (congrArg Value.bool hp18) ?_
      refine cx_exit ?_
      refine ex_then_exit ?_
      obtain rfl := Option.some.inj h
      exact ex_stop ⟨rfl, _, rfl, (keep (keep (keep (keep (keep (keep (keep rfl rfl) rfl) rfl) rfl) rfl) rfl) rfl)⟩
  · intro e L tm hJ
    obtain ⟨rfl, tm0_u17, rfl, rfl⟩ := hJ
    refine ⟨(by intro hc; cases hc), ?_⟩
    refine ex_block_here ?_
    refine ex_then ?_
    refine cx_seq ?_
    refine cx_region ?_
    refine ox_y rfl (y_loadN 3 [.int .i64 u17.2.1, .int .i64 u17.2.2] ag_33 rfl rfl rfl) ?_
    refine ox_n rfl (y_storeN 1 [.int .i64 u17.2.1, .int .i64 u17.2.2] sz_33 rfl (Nat.le_of_ble_eq_true rfl) rfl rfl rfl) ?_
    refine ox_nil ?_
    refine ex_then ?_
    refine cx_ret ?_
    obtain rfl := Option.some.inj h
    exact ex_res1 (.inl rfl) rfl (resV_cellN 1 [.int .i64 u17.2.1, .int .i64 u17.2.2] ag_33 rfl rfl rfl) (fun W2 hW2 => ⟨rfl, hW2.none⟩)

end Go.Proofs.Ytepfgdfahinpkaa
