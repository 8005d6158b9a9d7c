/- The calls hand back what the plain functions say. -/
import Derived.Test.YtepfgdfahinpkaaF
import Derived.Test.YtepfgdfahinpkaaC7
import Derived.Test.YtepfgdfahinpkaaC12
set_option linter.unusedVariables false
set_option maxHeartbeats 4000000
namespace Go.Proofs.Ytepfgdfahinpkaa
open Go.RowKit (Below)
attribute [local irreducible] OX QX CX EX OpY Calls CallsIn

/-! calx/calxref03.weights -/
set_option maxRecDepth 100000 in
theorem calxref03_weights_ok (p0_b : TBatch) (p1_sort : Int) (res : (List Int)) (h : calxref03_weights p0_b p1_sort = some res) (W : World)  :
    Calls Try.prog 110 [.agg #[.int .i64 p0_b.fBarrows, .int .i64 p0_b.fSeen.x0, .int .i64 p0_b.fSeen.x1, .int .i64 p0_b.fSeen.x2, .int .i64 p0_b.fKnown.x0.fLo, .int .i64 p0_b.fKnown.x0.fHi, .int .i64 p0_b.fKnown.x1.fLo, .int .i64 p0_b.fKnown.x1.fHi, .int .i64 p0_b.fKnown.x2.fLo, .int .i64 p0_b.fKnown.x2.fHi], .int .i64 p1_sort].toArray W fun e W2 => ∃ x : Option Addr × Nat × Nat, x.2.1 = res.length ∧ e = .returned (.slice x.1 x.2.1 x.2.2) ∧ Ext W W2 [rowR x.1 x.2.2 3 1 x.2.1 (encL cI res)] := by
  unfold calxref03_weights at h
  refine calls_enter (m := 39) Try.func110 rfl rfl (Nat.le_of_ble_eq_true rfl) ?_
  refine cx_seq ?_
  refine cx_region ?_
  refine ox_box [.int .i64 p0_b.fBarrows, .int .i64 p0_b.fSeen.x0, .int .i64 p0_b.fSeen.x1, .int .i64 p0_b.fSeen.x2, .int .i64 p0_b.fKnown.x0.fLo, .int .i64 p0_b.fKnown.x0.fHi, .int .i64 p0_b.fKnown.x1.fLo, .int .i64 p0_b.fKnown.x1.fHi, .int .i64 p0_b.fKnown.x2.fLo, .int .i64 p0_b.fKnown.x2.fHi] rfl rfl rfl (fun b1 => ?_)
  refine ox_y rfl (y_assign_slice rfl) ?_
  refine ox_nil ?_
  refine ex_then ?_
  refine cx_seq ?_
  refine cx_region ?_
  refine ox_y rfl (y_fieldAddr fo_52_0 rfl) ?_
  refine ox_y rfl (y_load1 0 (v := .int .i64 p0_b.fBarrows) sc_3 rfl rfl rfl) ?_
  refine ox_y rfl (y_add rfl rfl) ?_
  obtain ⟨hg3, h⟩ := guardO_some h
  refine ox_make (encL cI (List.replicate (Int.toNat (w64 (p0_b.fBarrows + 1))) 0)) us_66 ze_3 by_3 hg3.1 hg3.2 rfl (made_enc _ _ _ rfl rfl) rfl (fun b2 => ?_)
  refine ox_y rfl (y_assign_slice rfl) ?_
  refine ox_nil ?_
  refine ex_then ?_
  refine cx_seq ?_
  refine cx_region ?_
  refine ox_y rfl (y_loadN 0 [.int .i64 p0_b.fBarrows, .int .i64 p0_b.fSeen.x0, .int .i64 p0_b.fSeen.x1, .int .i64 p0_b.fSeen.x2, .int .i64 p0_b.fKnown.x0.fLo, .int .i64 p0_b.fKnown.x0.fHi, .int .i64 p0_b.fKnown.x1.fLo, .int .i64 p0_b.fKnown.x1.fHi, .int .i64 p0_b.fKnown.x2.fLo, .int .i64 p0_b.fKnown.x2.fHi] ag_52 rfl rfl rfl) ?_
  obtain ⟨y4, hy5, h⟩ := bind_some h
  refine ox_call [.agg #[.int .i64 p0_b.fBarrows, .int .i64 p0_b.fSeen.x0, .int .i64 p0_b.fSeen.x1, .int .i64 p0_b.fSeen.x2, .int .i64 p0_b.fKnown.x0.fLo, .int .i64 p0_b.fKnown.x0.fHi, .int .i64 p0_b.fKnown.x1.fLo, .int .i64 p0_b.fKnown.x1.fHi, .int .i64 p0_b.fKnown.x2.fLo, .int .i64 p0_b.fKnown.x2.fHi]] _ _ _ rfl go_100 rfl (fun W2 hW2 => calxref03_wholes_ok p0_b y4 hy5 W2 ) ?_
  rintro ⟨A6, n8, c7⟩ hn9
  replace hn9 : n8 = y4.length := hn9; subst hn9
  refine ox_y rfl (y_assign_slice rfl) ?_
  refine ox_nil ?_
  refine ex_then ?_
  refine cx_seq ?_
  refine cx_seq ?_
  refine cx_region ?_
  refine ox_y rfl (y_assign_int rfl) ?_
  refine ox_nil ?_
  refine ex_then ?_
  refine cx_block ?_
  obtain ⟨u13, hl22, h⟩ := bind_some h
  refine cx_loop (fun (s : (Int × (List Int))) L tm => ∃ (tm0 : Nat → Value), Int.toNat (w64 (p0_b.fBarrows + 1)) = s.2.length ∧ L = [cellsR b1 52 [.int .i64 p0_b.fBarrows, .int .i64 p0_b.fSeen.x0, .int .i64 p0_b.fSeen.x1, .int .i64 p0_b.fSeen.x2, .int .i64 p0_b.fKnown.x0.fLo, .int .i64 p0_b.fKnown.x0.fHi, .int .i64 p0_b.fKnown.x1.fLo, .int .i64 p0_b.fKnown.x1.fHi, .int .i64 p0_b.fKnown.x2.fLo, .int .i64 p0_b.fKnown.x2.fHi], rowR (some ⟨b2, 0, none⟩) (Int.toNat (w64 (p0_b.fBarrows + 1))) 3 1 (Int.toNat (w64 (p0_b.fBarrows + 1))) (encL cI s.2), rowR A6 c7 43 3 y4.length (encL TKinds_cells y4)] ∧ tm = (upd (upd (upd (upd (upd (upd (upd tm0 0 (.agg #[.int .i64 p0_b.fBarrows, .int .i64 p0_b.fSeen.x0, .int .i64 p0_b.fSeen.x1, .int .i64 p0_b.fSeen.x2, .int .i64 p0_b.fKnown.x0.fLo, .int .i64 p0_b.fKnown.x0.fHi, .int .i64 p0_b.fKnown.x1.fLo, .int .i64 p0_b.fKnown.x1.fHi, .int .i64 p0_b.fKnown.x2.fLo, .int .i64 p0_b.fKnown.x2.fHi])) 1 (.int .i64 p1_sort)) 2 (.pointer (some ⟨b1, 0, none⟩))) 4 (.slice none 0 0)) 5 (.slice (some ⟨b2, 0, none⟩) (Int.toNat (w64 (p0_b.fBarrows + 1))) (Int.toNat (w64 (p0_b.fBarrows + 1))))) 6 (.slice A6 y4.length c7)) 7 (.int .i64 s.1))) (fun s e L tm => e = .exit 0 ∧ ∃ (tm0 : Nat → Value), Int.toNat (w64 (p0_b.fBarrows + 1)) = s.2.length ∧ L = [cellsR b1 52 [.int .i64 p0_b.fBarrows, .int .i64 p0_b.fSeen.x0, .int .i64 p0_b.fSeen.x1, .int .i64 p0_b.fSeen.x2, .int .i64 p0_b.fKnown.x0.fLo, .int .i64 p0_b.fKnown.x0.fHi, .int .i64 p0_b.fKnown.x1.fLo, .int .i64 p0_b.fKnown.x1.fHi, .int .i64 p0_b.fKnown.x2.fLo, .int .i64 p0_b.fKnown.x2.fHi], rowR (some ⟨b2, 0, none⟩) (Int.toNat (w64 (p0_b.fBarrows + 1))) 3 1 (Int.toNat (w64 (p0_b.fBarrows + 1))) (encL cI s.2), rowR A6 c7 43 3 y4.length (encL TKinds_cells y4)] ∧ tm = (upd (upd (upd (upd (upd (upd (upd tm0 0 (.agg #[.int .i64 p0_b.fBarrows, .int .i64 p0_b.fSeen.x0, .int .i64 p0_b.fSeen.x1, .int .i64 p0_b.fSeen.x2, .int .i64 p0_b.fKnown.x0.fLo, .int .i64 p0_b.fKnown.x0.fHi, .int .i64 p0_b.fKnown.x1.fLo, .int .i64 p0_b.fKnown.x1.fHi, .int .i64 p0_b.fKnown.x2.fLo, .int .i64 p0_b.fKnown.x2.fHi])) 1 (.int .i64 p1_sort)) 2 (.pointer (some ⟨b1, 0, none⟩))) 4 (.slice none 0 0)) 5 (.slice (some ⟨b2, 0, none⟩) (Int.toNat (w64 (p0_b.fBarrows + 1))) (Int.toNat (w64 (p0_b.fBarrows + 1))))) 6 (.slice A6 y4.length c7)) 7 (.int .i64 s.1))) hl22 ⟨_, (List.length_replicate).symm, rfl, (keep (keep (keep (keep (keep (keep (keep rfl rfl) rfl) rfl) rfl) rfl) rfl) rfl)⟩ ?_ ?_
  · rintro s12 L tm st ⟨tm0_s12, hn1_s12, rfl, rfl⟩ h
    unfold calxref03_weights_l1 at h
    refine cx_seq ?_
    refine cx_seq ?_
    refine cx_region ?_
    refine ox_y rfl (y_move_int rfl) ?_
    refine ox_y rfl (y_move_slice rfl) ?_
    refine ox_y rfl (y_len (us := []) us_53 rfl) ?_
    refine ox_y rfl (y_lss rfl rfl) ?_
    refine ox_nil ?_
    refine ex_then ?_
    rcases ite_some h with ⟨hp14, h⟩ | ⟨hp14, h⟩
    · refine cx_true (congrArg Value.bool hp14) ?_
      refine cx_skip ?_
      refine ex_then ?_
      refine cx_seq ?_
      refine cx_block ?_
      refine cx_draws 18 mixed (by kernel_rfl) (by kernel_rfl) ?_
      refine qx_y rfl (y_move_slice rfl) ?_
      refine qx_y rfl (y_move_slice rfl) ?_
      refine qx_y rfl (y_move_int rfl) ?_
      refine qx_y rfl (y_move_int rfl) ?_
      obtain ⟨hg15, h⟩ := guardO_some h
      refine qx_y rfl (y_indexR sl_53 (by decide) hg15.1 hg15.2 (RdL.row 2 rfl) (encL_len TKinds_cells_len rfl) rfl rfl) ?_
      obtain ⟨hg16, h⟩ := guardO_some h
      refine qx_y rfl (y_indexArrR (A := A6) (j := (Int.toNat s12.1 * 3)) ar_43 hg16.1 hg16.2 rfl rfl) ?_
      refine qx_y rfl (y_loadR1 (A := A6) (j := ((Int.toNat s12.1 * 3) + Int.toNat p1_sort * 1)) (v := .int .i64 (sel3 ((rdL y4 s12.1).x0) ((rdL y4 s12.1).x1) ((rdL y4 s12.1).x2) p1_sort)) sc_3 (RdL.row 2 rfl) rfl (encL_get TKinds_cells_len hg15.1 (lt_nat hg15.2 rfl) (by rcases in3 hg16 with e | e | e <;> rw [e] <;> rfl))) ?_
      obtain ⟨hg17, h⟩ := guardO_some h
      refine qx_y rfl (y_indexR sl_66 (by decide) hg17.1 hg17.2 (RdL.row 1 rfl) (encL_len cI_len hn1_s12) rfl rfl) ?_
      refine qx_y rfl (y_loadR1 (A := (some ⟨b2, 0, none⟩)) (j := (Int.toNat (sel3 ((rdL y4 s12.1).x0) ((rdL y4 s12.1).x1) ((rdL y4 s12.1).x2) p1_sort) * 1)) (v := .int .i64 (rdL s12.2 (sel3 ((rdL y4 s12.1).x0) ((rdL y4 s12.1).x1) ((rdL y4 s12.1).x2) p1_sort))) sc_3 (RdL.row 1 rfl) rfl (encL_get0 cI_len hg17.1 (lt_nat hg17.2 hn1_s12) rfl)) ?_
      refine qx_y rfl (y_move_slice rfl) ?_
      refine qx_y rfl (y_move_int rfl) ?_
      obtain ⟨hg18, h⟩ := guardO_some h
      refine qx_y rfl (y_indexR sl_53 (by decide) hg18.1 hg18.2 (RdL.row 2 rfl) (encL_len TKinds_cells_len rfl) rfl rfl) ?_
      refine qx_y rfl (y_loadRN (A := A6) (j := (Int.toNat s12.1 * 3)) [.int .i64 ((rdL y4 s12.1).x0), .int .i64 ((rdL y4 s12.1).x1), .int .i64 ((rdL y4 s12.1).x2)] ag_43 (Nat.succ_pos _) (RdL.row 2 rfl) rfl (encL_gets TKinds_cells_len hg18.1 (lt_nat hg18.2 rfl))) ?_
      refine qx_y rfl (y_fieldAddr fo_52_1 rfl) ?_
      refine qx_y rfl (y_loadN 0 [.int .i64 p0_b.fSeen.x0, .int .i64 p0_b.fSeen.x1, .int .i64 p0_b.fSeen.x2] ag_43 rfl rfl rfl) ?_
      obtain ⟨y19, hy20, h⟩ := bind_some h
      refine qx_y rfl (y_call [.agg #[.int .i64 ((rdL y4 s12.1).x0), .int .i64 ((rdL y4 s12.1).x1), .int .i64 ((rdL y4 s12.1).x2)], .agg #[.int .i64 p0_b.fSeen.x0, .int .i64 p0_b.fSeen.x1, .int .i64 p0_b.fSeen.x2]] go_93 rfl (fun W2 hW2 => calxref03_ways_ok (TKinds.mk ((rdL y4 s12.1).x0) ((rdL y4 s12.1).x1) ((rdL y4 s12.1).x2)) p0_b.fSeen y19 hy20 W2 ) rfl) ?_
      refine qx_y rfl (y_add rfl rfl) ?_
      obtain ⟨hg21, h⟩ := guardO_some h
      refine qx_y rfl (y_indexR sl_66 (by decide) hg21.1 hg21.2 (RdL.row 1 rfl) (encL_len cI_len hn1_s12) rfl rfl) ?_
      refine qx_nil ?_
      refine ox_n rfl (y_storeR1 1 (xs := s12.2) cI_len (w64 ((rdL s12.2 (sel3 ((rdL y4 s12.1).x0) ((rdL y4 s12.1).x1) ((rdL y4 s12.1).x2) p1_sort)) + y19)) sz_3 rfl hg21.1 (lt_nat hg21.2 hn1_s12) rfl rfl rfl rfl) ?_
      refine ox_nil ?_
      refine ex_block ?_
      refine ex_then ?_
      refine cx_region ?_
      refine ox_y rfl (y_move_int rfl) ?_
      refine ox_y rfl (y_add rfl rfl) ?_
      refine ox_y rfl (y_assign_int rfl) ?_
      refine ox_nil ?_
      obtain rfl := Option.some.inj h
      exact ex_next ⟨_, (hn_set hn1_s12), rfl, (keep (keep (keep (keep (keep (keep (keep rfl rfl) rfl) rfl) rfl) rfl) rfl) rfl)⟩
    · refine cx_false (congrArg Value.bool hp14) ?_
      refine cx_exit ?_
      refine ex_then_exit ?_
      obtain rfl := Option.some.inj h
      exact ex_stop ⟨rfl, _, hn1_s12, rfl, (keep (keep (keep (keep (keep (keep (keep rfl rfl) rfl) rfl) rfl) rfl) rfl) rfl)⟩
  · intro e L tm hJ
    obtain ⟨rfl, tm0_u13, hn1_u13, rfl, rfl⟩ := hJ
    refine ⟨(by intro hc; cases hc), ?_⟩
    refine ex_block_here ?_
    refine ex_then ?_
    refine cx_seq ?_
    refine cx_region ?_
    refine ox_y rfl (y_move_slice rfl) ?_
    refine ox_y rfl (y_assign_slice rfl) ?_
    refine ox_nil ?_
    refine ex_then ?_
    refine cx_ret ?_
    obtain rfl := Option.some.inj h
    exact ex_res1 (.inl rfl) rfl (resV_tmp (v := .slice (some ⟨b2, 0, none⟩) (Int.toNat (w64 (p0_b.fBarrows + 1))) (Int.toNat (w64 (p0_b.fBarrows + 1)))) rfl) (fun W2 hW2 => ⟨((some ⟨b2, 0, none⟩), Int.toNat (w64 (p0_b.fBarrows + 1)), Int.toNat (w64 (p0_b.fBarrows + 1))), hn1_u13, rfl, (hW2.pick 1 rfl)⟩)

/-! calx/calxref03.weight -/
set_option maxRecDepth 100000 in
theorem calxref03_weight_ok (p0_l : (List Int)) (p1_s : TSpan) (res : Int) (h : calxref03_weight p0_l p1_s = some res) (W : World) (A0_0 : Option Addr) (n0_0 c0_0 : Nat) (hn0_0 : n0_0 = p0_l.length) (hr0_0 : Rd W A0_0 n0_0 c0_0 (encL cI p0_l)) :
    Calls Try.prog 112 [.slice A0_0 n0_0 c0_0, .agg #[.int .i64 p1_s.fLo, .int .i64 p1_s.fHi]].toArray W fun e W2 => e = .returned (.int .i64 res) ∧ Ext W W2 [] := by
  subst hn0_0
  unfold calxref03_weight at h
  refine calls_enter (m := 29) Try.func112 rfl rfl (Nat.le_of_ble_eq_true rfl) ?_
  refine cx_seq ?_
  refine cx_region ?_
  refine ox_box [.int .i64 p1_s.fLo, .int .i64 p1_s.fHi] rfl rfl rfl (fun b1 => ?_)
  refine ox_y rfl (y_assign_int rfl) ?_
  refine ox_nil ?_
  refine ex_then ?_
  refine cx_seq ?_
  refine cx_region ?_
  refine ox_y rfl (y_assign_int rfl) ?_
  refine ox_nil ?_
  refine ex_then ?_
  refine cx_seq ?_
  refine cx_seq ?_
  refine cx_region ?_
  refine ox_y rfl (y_fieldAddr fo_33_0 rfl) ?_
  refine ox_y rfl (y_load1 0 (v := .int .i64 p1_s.fLo) sc_3 rfl rfl rfl) ?_
  refine ox_y rfl (y_max rfl rfl) ?_
  refine ox_y rfl (y_assign_int rfl) ?_
  refine ox_nil ?_
  refine ex_then ?_
  refine cx_block ?_
  obtain ⟨u4, hl8, h⟩ := bind_some h
  refine cx_loop (fun (s : (Int × Int)) L tm => ∃ (tm0 : Nat → Value), L = [cellsR b1 33 [.int .i64 p1_s.fLo, .int .i64 p1_s.fHi]] ∧ tm = (upd (upd (upd (upd (upd (upd tm0 0 (.slice A0_0 p0_l.length c0_0)) 1 (.agg #[.int .i64 p1_s.fLo, .int .i64 p1_s.fHi])) 3 (.pointer (some ⟨b1, 0, none⟩))) 4 (.int .i64 0)) 5 (.int .i64 s.1)) 6 (.int .i64 s.2))) (fun s e L tm => e = .exit 0 ∧ ∃ (tm0 : Nat → Value), L = [cellsR b1 33 [.int .i64 p1_s.fLo, .int .i64 p1_s.fHi]] ∧ tm = (upd (upd (upd (upd (upd (upd tm0 0 (.slice A0_0 p0_l.length c0_0)) 1 (.agg #[.int .i64 p1_s.fLo, .int .i64 p1_s.fHi])) 3 (.pointer (some ⟨b1, 0, none⟩))) 4 (.int .i64 0)) 5 (.int .i64 s.1)) 6 (.int .i64 s.2))) hl8 ⟨_, rfl, (keep (keep (keep (keep (keep (keep rfl rfl) rfl) rfl) rfl) rfl) rfl)⟩ ?_ ?_
  · rintro s3 L tm st ⟨tm0_s3, rfl, rfl⟩ h
    unfold calxref03_weight_l1 at h
    refine cx_seq ?_
    refine cx_seq ?_
    refine cx_region ?_
    refine ox_y rfl (y_move_int rfl) ?_
    refine ox_y rfl (y_move_slice rfl) ?_
    refine ox_y rfl (y_len (us := []) us_66 rfl) ?_
    refine ox_y rfl (y_lss rfl rfl) ?_
    refine ox_y rfl (y_move_bool rfl) ?_
    refine ox_join 5 (fun tm0 => (upd (upd (upd (upd (upd (upd (upd tm0 0 (.slice A0_0 p0_l.length c0_0)) 1 (.agg #[.int .i64 p1_s.fLo, .int .i64 p1_s.fHi])) 3 (.pointer (some ⟨b1, 0, none⟩))) 4 (.int .i64 0)) 5 (.int .i64 s3.1)) 6 (.int .i64 s3.2)) 19 (.bool ((decide (s3.2 < ((p0_l.length : Nat) : Int))) && (decide (s3.2 ≤ p1_s.fHi)))))) (fun tm0 => ?_) (fun key => ?_)
    · refine ox_nil ?_
      refine ex_then ?_
      rcases ite_some h with ⟨hp6, h⟩ | ⟨hp6, h⟩
      · refine cx_true (congrArg Value.bool hp6) ?_
        refine cx_skip ?_
        refine ex_then ?_
        refine cx_seq ?_
        refine cx_block ?_
        refine cx_region ?_
        refine ox_y rfl (y_move_int rfl) ?_
        refine ox_y rfl (y_move_slice rfl) ?_
        refine ox_y rfl (y_move_int rfl) ?_
        obtain ⟨hg7, h⟩ := guardO_some h
        refine ox_y rfl (y_indexR sl_66 (by decide) hg7.1 hg7.2 (RdL.arg hr0_0) (encL_len cI_len rfl) rfl rfl) ?_
        refine ox_y rfl (y_loadR1 (A := A0_0) (j := (Int.toNat s3.2 * 1)) (v := .int .i64 (rdL p0_l s3.2)) sc_3 (RdL.arg hr0_0) rfl (encL_get0 cI_len hg7.1 (lt_nat hg7.2 rfl) rfl)) ?_
        refine ox_y rfl (y_add rfl rfl) ?_
        refine ox_y rfl (y_assign_int rfl) ?_
        refine ox_nil ?_
        refine ex_block ?_
        refine ex_then ?_
        refine cx_region ?_
        refine ox_y rfl (y_move_int rfl) ?_
        refine ox_y rfl (y_add rfl rfl) ?_
        refine ox_y rfl (y_assign_int rfl) ?_
        refine ox_nil ?_
        obtain rfl := Option.some.inj h
        exact ex_next ⟨_, rfl, (keep (keep (keep (keep (keep (keep rfl rfl) rfl) rfl) rfl) rfl) rfl)⟩
      · refine cx_false (congrArg Value.bool hp6) ?_
        refine cx_exit ?_
        refine ex_then_exit ?_
        obtain rfl := Option.some.inj h
        exact ex_stop ⟨rfl, _, rfl, (keep (keep (keep (keep (keep (keep rfl rfl) rfl) rfl) rfl) rfl) rfl)⟩
    · rcases bool_cases (decide (s3.2 < ((p0_l.length : Nat) : Int))) with hp5 | hp5
      · refine ox_y (sees_t rfl rfl rfl rfl hp5) (y_move_int rfl) ?_
        refine ox_y (sees_t rfl rfl rfl rfl hp5) (y_fieldAddr fo_33_1 rfl) ?_
        refine ox_y (sees_t rfl rfl rfl rfl hp5) (y_load1 0 (v := .int .i64 p1_s.fHi) sc_3 rfl rfl rfl) ?_
        refine ox_y (sees_t rfl rfl rfl rfl hp5) (y_leq rfl rfl) ?_
        refine ox_y rfl (y_pick_tb (congrArg Value.bool hp5) rfl) ?_
        exact key _ _ (keep (keep (keep (keep (keep (keep (keep rfl rfl) rfl) rfl) rfl) rfl) rfl) (congrArg Value.bool (and_t hp5)))
      · refine ox_skip (sees_f rfl rfl rfl rfl hp5) ?_
        refine ox_skip (sees_f rfl rfl rfl rfl hp5) ?_
        refine ox_skip (sees_f rfl rfl rfl rfl hp5) ?_
        refine ox_skip (sees_f rfl rfl rfl rfl hp5) ?_
        refine ox_y rfl (y_pick_fb (congrArg Value.bool hp5) rfl) ?_
        exact key _ _ (keep (keep (keep (keep (keep (keep (keep rfl rfl) rfl) rfl) rfl) rfl) rfl) (congrArg Value.bool (and_f hp5)))
  · intro e L tm hJ
    obtain ⟨rfl, tm0_u4, rfl, rfl⟩ := hJ
    refine ⟨(by intro hc; cases hc), ?_⟩
    refine ex_block_here ?_
    refine ex_then ?_
    refine cx_seq ?_
    refine cx_region ?_
    refine ox_y rfl (y_move_int rfl) ?_
    refine ox_y rfl (y_assign_int rfl) ?_
    refine ox_nil ?_
    refine ex_then ?_
    refine cx_ret ?_
    obtain rfl := Option.some.inj h
    exact ex_res1 (.inl rfl) rfl (resV_tmp (v := .int .i64 u4.1) rfl) (fun W2 hW2 => ⟨rfl, hW2.none⟩)

/-! calx/calxref03.total -/
set_option maxRecDepth 100000 in
theorem calxref03_total_ok (p0_l : (List Int)) (res : Int) (h : calxref03_total p0_l = some res) (W : World) (A0_0 : Option Addr) (n0_0 c0_0 : Nat) (hn0_0 : n0_0 = p0_l.length) (hr0_0 : Rd W A0_0 n0_0 c0_0 (encL cI p0_l)) :
    Calls Try.prog 111 [.slice A0_0 n0_0 c0_0].toArray W fun e W2 => e = .returned (.int .i64 res) ∧ Ext W W2 [] := by
  subst hn0_0
  unfold calxref03_total at h
  refine calls_enter (m := 8) Try.func111 rfl rfl (Nat.le_of_ble_eq_true rfl) ?_
  refine cx_seq ?_
  refine cx_region ?_
  refine ox_y rfl (y_assign_int rfl) ?_
  refine ox_nil ?_
  refine ex_then ?_
  refine cx_seq ?_
  refine cx_region ?_
  refine ox_y rfl (y_move_slice rfl) ?_
  refine ox_y rfl (y_move_slice rfl) ?_
  refine ox_y rfl (y_len (us := []) us_66 rfl) ?_
  refine ox_y rfl (y_buildS [.int .i64 0, .int .i64 ((p0_l.length : Nat) : Int)] [(0, 1), (1, 1)] ust_33 ze_33 (by kernel_rfl)) ?_
  obtain ⟨y1, hy2, h⟩ := bind_some h
  refine ox_y rfl (y_call [.slice A0_0 p0_l.length c0_0, .agg #[.int .i64 0, .int .i64 ((p0_l.length : Nat) : Int)]] go_112 rfl (fun W2 hW2 => calxref03_weight_ok p0_l (TSpan.mk 0 ((p0_l.length : Nat) : Int)) y1 hy2 W2 A0_0 p0_l.length c0_0 rfl ((RdL.arg hr0_0) W2 hW2)) rfl) ?_
  refine ox_y rfl (y_assign_int rfl) ?_
  refine ox_nil ?_
  refine ex_then ?_
  refine cx_ret ?_
  obtain rfl := Option.some.inj h
  exact ex_res1 (.inl rfl) rfl (resV_tmp (v := .int .i64 y1) rfl) (fun W2 hW2 => ⟨rfl, hW2.none⟩)

end Go.Proofs.Ytepfgdfahinpkaa
