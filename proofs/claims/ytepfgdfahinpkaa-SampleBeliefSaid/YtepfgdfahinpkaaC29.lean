/- The calls hand back what the plain functions say. -/
import Derived.Test.YtepfgdfahinpkaaF
import Derived.Test.YtepfgdfahinpkaaC1
import Derived.Test.YtepfgdfahinpkaaC2
import Derived.Test.YtepfgdfahinpkaaC3
import Derived.Test.YtepfgdfahinpkaaC5
import Derived.Test.YtepfgdfahinpkaaC6
import Derived.Test.YtepfgdfahinpkaaC8
import Derived.Test.YtepfgdfahinpkaaC16
import Derived.Test.YtepfgdfahinpkaaC17
import Derived.Test.YtepfgdfahinpkaaC18
set_option linter.unusedVariables false
set_option maxHeartbeats 4000000
namespace Go.Proofs.Ytepfgdfahinpkaa
open Go.RowKit (Below)
attribute [local irreducible] OX QX CX EX OpY Calls CallsIn

/-! calx/calxref03.weights -/
set_option maxRecDepth 100000 in
theorem calxref03_weights_ok (p0_b : TBatch) (p1_sort : Int) (res : (List Int)) (h : calxref03_weights p0_b p1_sort = some res) (W : World)  :
    Calls Try.prog 110 [.agg #[.int .i64 p0_b.fBarrows, .int .i64 p0_b.fSeen.x0, .int .i64 p0_b.fSeen.x1, .int .i64 p0_b.fSeen.x2, .int .i64 p0_b.fKnown.x0.fLo, .int .i64 p0_b.fKnown.x0.fHi, .int .i64 p0_b.fKnown.x1.fLo, .int .i64 p0_b.fKnown.x1.fHi, .int .i64 p0_b.fKnown.x2.fLo, .int .i64 p0_b.fKnown.x2.fHi], .int .i64 p1_sort].toArray W fun e W2 => ∃ x : Option Addr × Nat × Nat, x.2.1 = res.length ∧ e = .returned (.slice x.1 x.2.1 x.2.2) ∧ Ext W W2 [rowR x.1 x.2.2 3 1 x.2.1 (encL cI res)] := by
  unfold calxref03_weights at h
  refine calls_enter (m := 39) Try.func110 rfl rfl (Nat.le_of_ble_eq_true rfl) ?_
  refine cx_seq ?_
  refine cx_region ?_
  refine ox_box [.int .i64 p0_b.fBarrows, .int .i64 p0_b.fSeen.x0, .int .i64 p0_b.fSeen.x1, .int .i64 p0_b.fSeen.x2, .int .i64 p0_b.fKnown.x0.fLo, .int .i64 p0_b.fKnown.x0.fHi, .int .i64 p0_b.fKnown.x1.fLo, .int .i64 p0_b.fKnown.x1.fHi, .int .i64 p0_b.fKnown.x2.fLo, .int .i64 p0_b.fKnown.x2.fHi] rfl rfl rfl (fun b1 => ?_)
  refine ox_y rfl (y_assign_slice rfl) ?_
  refine ox_nil ?_
  refine ex_then ?_
  refine cx_seq ?_
  refine cx_region ?_
  refine ox_y rfl (y_fieldAddr fo_52_0 rfl) ?_
  refine ox_y rfl (y_load1 0 (v := .int .i64 p0_b.fBarrows) sc_3 rfl rfl rfl) ?_
  refine ox_y rfl (y_add rfl rfl) ?_
  obtain ⟨hg3, h⟩ := guardO_some h
  refine ox_make (encL cI (List.replicate (Int.toNat (w64 (p0_b.fBarrows + 1))) 0)) us_66 ze_3 by_3 hg3.1 hg3.2 rfl (made_enc _ _ _ rfl rfl) rfl (fun b2 => ?_)
  refine ox_y rfl (y_assign_slice rfl) ?_
  refine ox_nil ?_
  refine ex_then ?_
  refine cx_seq ?_
  refine cx_region ?_
  refine ox_y rfl (y_loadN 0 [.int .i64 p0_b.fBarrows, .int .i64 p0_b.fSeen.x0, .int .i64 p0_b.fSeen.x1, .int .i64 p0_b.fSeen.x2, .int .i64 p0_b.fKnown.x0.fLo, .int .i64 p0_b.fKnown.x0.fHi, .int .i64 p0_b.fKnown.x1.fLo, .int .i64 p0_b.fKnown.x1.fHi, .int .i64 p0_b.fKnown.x2.fLo, .int .i64 p0_b.fKnown.x2.fHi] ag_52 rfl rfl rfl) ?_
  obtain ⟨y4, hy5, h⟩ := bind_some h
  refine ox_call [.agg #[.int .i64 p0_b.fBarrows, .int .i64 p0_b.fSeen.x0, .int .i64 p0_b.fSeen.x1, .int .i64 p0_b.fSeen.x2, .int .i64 p0_b.fKnown.x0.fLo, .int .i64 p0_b.fKnown.x0.fHi, .int .i64 p0_b.fKnown.x1.fLo, .int .i64 p0_b.fKnown.x1.fHi, .int .i64 p0_b.fKnown.x2.fLo, .int .i64 p0_b.fKnown.x2.fHi]] _ _ _ rfl go_100 rfl (fun W2 hW2 => calxref03_wholes_ok p0_b y4 hy5 W2 ) ?_
  rintro ⟨A6, n8, c7⟩ hn9
  replace hn9 : n8 = y4.length := hn9; subst hn9
  refine ox_y rfl (y_assign_slice rfl) ?_
  refine ox_nil ?_
  refine ex_then ?_
  refine cx_seq ?_
  refine cx_seq ?_
  refine cx_region ?_
  refine ox_y rfl (y_assign_int rfl) ?_
  refine ox_nil ?_
  refine ex_then ?_
  refine cx_block ?_
  obtain ⟨u13, hl22, h⟩ := bind_some h
  refine cx_loop (fun (s : (Int × (List Int))) L tm => ∃ (tm0 : Nat → Value), Int.toNat (w64 (p0_b.fBarrows + 1)) = s.2.length ∧ L = [cellsR b1 52 [.int .i64 p0_b.fBarrows, .int .i64 p0_b.fSeen.x0, .int .i64 p0_b.fSeen.x1, .int .i64 p0_b.fSeen.x2, .int .i64 p0_b.fKnown.x0.fLo, .int .i64 p0_b.fKnown.x0.fHi, .int .i64 p0_b.fKnown.x1.fLo, .int .i64 p0_b.fKnown.x1.fHi, .int .i64 p0_b.fKnown.x2.fLo, .int .i64 p0_b.fKnown.x2.fHi], rowR (some ⟨b2, 0, none⟩) (Int.toNat (w64 (p0_b.fBarrows + 1))) 3 1 (Int.toNat (w64 (p0_b.fBarrows + 1))) (encL cI s.2), rowR A6 c7 43 3 y4.length (encL TKinds_cells y4)] ∧ tm = (upd (upd (upd (upd (upd (upd (upd tm0 0 (.agg #[.int .i64 p0_b.fBarrows, .int .i64 p0_b.fSeen.x0, .int .i64 p0_b.fSeen.x1, .int .i64 p0_b.fSeen.x2, .int .i64 p0_b.fKnown.x0.fLo, .int .i64 p0_b.fKnown.x0.fHi, .int .i64 p0_b.fKnown.x1.fLo, .int .i64 p0_b.fKnown.x1.fHi, .int .i64 p0_b.fKnown.x2.fLo, .int .i64 p0_b.fKnown.x2.fHi])) 1 (.int .i64 p1_sort)) 2 (.pointer (some ⟨b1, 0, none⟩))) 4 (.slice none 0 0)) 5 (.slice (some ⟨b2, 0, none⟩) (Int.toNat (w64 (p0_b.fBarrows + 1))) (Int.toNat (w64 (p0_b.fBarrows + 1))))) 6 (.slice A6 y4.length c7)) 7 (.int .i64 s.1))) (fun s e L tm => e = .exit 0 ∧ ∃ (tm0 : Nat → Value), Int.toNat (w64 (p0_b.fBarrows + 1)) = s.2.length ∧ L = [cellsR b1 52 [.int .i64 p0_b.fBarrows, .int .i64 p0_b.fSeen.x0, .int .i64 p0_b.fSeen.x1, .int .i64 p0_b.fSeen.x2, .int .i64 p0_b.fKnown.x0.fLo, .int .i64 p0_b.fKnown.x0.fHi, .int .i64 p0_b.fKnown.x1.fLo, .int .i64 p0_b.fKnown.x1.fHi, .int .i64 p0_b.fKnown.x2.fLo, .int .i64 p0_b.fKnown.x2.fHi], rowR (some ⟨b2, 0, none⟩) (Int.toNat (w64 (p0_b.fBarrows + 1))) 3 1 (Int.toNat (w64 (p0_b.fBarrows + 1))) (encL cI s.2), rowR A6 c7 43 3 y4.length (encL TKinds_cells y4)] ∧ tm = (upd (upd (upd (upd (upd (upd (upd tm0 0 (.agg #[.int .i64 p0_b.fBarrows, .int .i64 p0_b.fSeen.x0, .int .i64 p0_b.fSeen.x1, .int .i64 p0_b.fSeen.x2, .int .i64 p0_b.fKnown.x0.fLo, .int .i64 p0_b.fKnown.x0.fHi, .int .i64 p0_b.fKnown.x1.fLo, .int .i64 p0_b.fKnown.x1.fHi, .int .i64 p0_b.fKnown.x2.fLo, .int .i64 p0_b.fKnown.x2.fHi])) 1 (.int .i64 p1_sort)) 2 (.pointer (some ⟨b1, 0, none⟩))) 4 (.slice none 0 0)) 5 (.slice (some ⟨b2, 0, none⟩) (Int.toNat (w64 (p0_b.fBarrows + 1))) (Int.toNat (w64 (p0_b.fBarrows + 1))))) 6 (.slice A6 y4.length c7)) 7 (.int .i64 s.1))) hl22 ⟨_, (List.length_replicate).symm, rfl, (keep (keep (keep (keep (keep (keep (keep rfl rfl) rfl) rfl) rfl) rfl) rfl) rfl)⟩ ?_ ?_
  · rintro s12 L tm st ⟨tm0_s12, hn1_s12, rfl, rfl⟩ h
    unfold calxref03_weights_l1 at h
    refine cx_seq ?_
    refine cx_seq ?_
    refine cx_region ?_
    refine ox_y rfl (y_move_int rfl) ?_
    refine ox_y rfl (y_move_slice rfl) ?_
    refine ox_y rfl (y_len (us := []) us_53 rfl) ?_
    refine ox_y rfl (y_lss rfl rfl) ?_
    refine ox_nil ?_
    refine ex_then ?_
    rcases ite_some h with ⟨hp14, h⟩ | ⟨hp14, h⟩
    · refine cx_true (congrArg Value.bool hp14) ?_
      refine cx_skip ?_
      refine ex_then ?_
      refine cx_seq ?_
      refine cx_block ?_
      refine cx_draws 18 mixed (by kernel_rfl) (by kernel_rfl) ?_
      refine qx_y rfl (y_move_slice rfl) ?_
      refine qx_y rfl (y_move_slice rfl) ?_
      refine qx_y rfl (y_move_int rfl) ?_
      refine qx_y rfl (y_move_int rfl) ?_
      obtain ⟨hg15, h⟩ := guardO_some h
      refine qx_y rfl (y_indexR sl_53 (by decide) hg15.1 hg15.2 (RdL.row 2 rfl) (encL_len TKinds_cells_len rfl) rfl rfl) ?_
      obtain ⟨hg16, h⟩ := guardO_some h
      refine qx_y rfl (y_indexArrR (A := A6) (j := (Int.toNat s12.1 * 3)) ar_43 hg16.1 hg16.2 rfl rfl) ?_
      refine qx_y rfl (y_loadR1 (A := A6) (j := ((Int.toNat s12.1 * 3) + Int.toNat p1_sort * 1)) (v := .int .i64 (sel3 ((rdL y4 s12.1).x0) ((rdL y4 s12.1).x1) ((rdL y4 s12.1).x2) p1_sort)) sc_3 (RdL.row 2 rfl) rfl (encL_get TKinds_cells_len hg15.1 (lt_nat hg15.2 rfl) (by rcases in3 hg16 with e | e | e <;> rw [e] <;> rfl))) ?_
      obtain ⟨hg17, h⟩ := guardO_some h
      refine qx_y rfl (y_indexR sl_66 (by decide) hg17.1 hg17.2 (RdL.row 1 rfl) (encL_len cI_len hn1_s12) rfl rfl) ?_
      refine qx_y rfl (y_loadR1 (A := (some ⟨b2, 0, none⟩)) (j := (Int.toNat (sel3 ((rdL y4 s12.1).x0) ((rdL y4 s12.1).x1) ((rdL y4 s12.1).x2) p1_sort) * 1)) (v := .int .i64 (rdL s12.2 (sel3 ((rdL y4 s12.1).x0) ((rdL y4 s12.1).x1) ((rdL y4 s12.1).x2) p1_sort))) sc_3 (RdL.row 1 rfl) rfl (encL_get0 cI_len hg17.1 (lt_nat hg17.2 hn1_s12) rfl)) ?_
      refine qx_y rfl (y_move_slice rfl) ?_
      refine qx_y rfl (y_move_int rfl) ?_
      obtain ⟨hg18, h⟩ := guardO_some h
      refine qx_y rfl (y_indexR sl_53 (by decide) hg18.1 hg18.2 (RdL.row 2 rfl) (encL_len TKinds_cells_len rfl) rfl rfl) ?_
      refine qx_y rfl (y_loadRN (A := A6) (j := (Int.toNat s12.1 * 3)) [.int .i64 ((rdL y4 s12.1).x0), .int .i64 ((rdL y4 s12.1).x1), .int .i64 ((rdL y4 s12.1).x2)] ag_43 (Nat.succ_pos _) (RdL.row 2 rfl) rfl (encL_gets TKinds_cells_len hg18.1 (lt_nat hg18.2 rfl))) ?_
      refine qx_y rfl (y_fieldAddr fo_52_1 rfl) ?_
      refine qx_y rfl (y_loadN 0 [.int .i64 p0_b.fSeen.x0, .int .i64 p0_b.fSeen.x1, .int .i64 p0_b.fSeen.x2] ag_43 rfl rfl rfl) ?_
      obtain ⟨y19, hy20, h⟩ := bind_some h
      refine qx_y rfl (y_call [.agg #[.int .i64 ((rdL y4 s12.1).x0), .int .i64 ((rdL y4 s12.1).x1), .int .i64 ((rdL y4 s12.1).x2)], .agg #[.int .i64 p0_b.fSeen.x0, .int .i64 p0_b.fSeen.x1, .int .i64 p0_b.fSeen.x2]] go_93 rfl (fun W2 hW2 => calxref03_ways_ok (TKinds.mk ((rdL y4 s12.1).x0) ((rdL y4 s12.1).x1) ((rdL y4 s12.1).x2)) p0_b.fSeen y19 hy20 W2 ) rfl) ?_
      refine qx_y rfl (y_add rfl rfl) ?_
      obtain ⟨hg21, h⟩ := guardO_some h
      refine qx_y rfl (y_indexR sl_66 (by decide) hg21.1 hg21.2 (RdL.row 1 rfl) (encL_len cI_len hn1_s12) rfl rfl) ?_
      refine qx_nil ?_
      refine ox_n rfl (y_storeR1 1 (xs := s12.2) cI_len (w64 ((rdL s12.2 (sel3 ((rdL y4 s12.1).x0) ((rdL y4 s12.1).x1) ((rdL y4 s12.1).x2) p1_sort)) + y19)) sz_3 rfl hg21.1 (lt_nat hg21.2 hn1_s12) rfl rfl rfl rfl) ?_
      refine ox_nil ?_
      refine ex_block ?_
      refine ex_then ?_
      refine cx_region ?_
      refine ox_y rfl (y_move_int rfl) ?_
      refine ox_y rfl (y_add rfl rfl) ?_
      refine ox_y rfl (y_assign_int rfl) ?_
      refine ox_nil ?_
      obtain rfl := Option.some.inj h
      exact ex_next ⟨_, (hn_set hn1_s12), rfl, (keep (keep (keep (keep (keep (keep (keep rfl rfl) rfl) rfl) rfl) rfl) rfl) rfl)⟩
    · refine cx_false (congrArg Value.bool hp14) ?_
      refine cx_exit ?_
      refine ex_then_exit ?_
      obtain rfl := Option.some.inj h
      exact ex_stop ⟨rfl, _, hn1_s12, rfl, (keep (keep (keep (keep (keep (keep (keep rfl rfl) rfl) rfl) rfl) rfl) rfl) rfl)⟩
  · intro e L tm hJ
    obtain ⟨rfl, tm0_u13, hn1_u13, rfl, rfl⟩ := hJ
    refine ⟨(by intro hc; cases hc), ?_⟩
    refine ex_block_here ?_
    refine ex_then ?_
    refine cx_seq ?_
    refine cx_region ?_
    refine ox_y rfl (y_move_slice rfl) ?_
    refine ox_y rfl (y_assign_slice rfl) ?_
    refine ox_nil ?_
    refine ex_then ?_
    refine cx_ret ?_
    obtain rfl := Option.some.inj h
    exact ex_res1 (.inl rfl) rfl (resV_tmp (v := .slice (some ⟨b2, 0, none⟩) (Int.toNat (w64 (p0_b.fBarrows + 1))) (Int.toNat (w64 (p0_b.fBarrows + 1)))) rfl) (fun W2 hW2 => ⟨((some ⟨b2, 0, none⟩), Int.toNat (w64 (p0_b.fBarrows + 1)), Int.toNat (w64 (p0_b.fBarrows + 1))), hn1_u13, rfl, (hW2.pick 1 rfl)⟩)

/-! calx/calxref03.weight -/
set_option maxRecDepth 100000 in
theorem calxref03_weight_ok (p0_l : (List Int)) (p1_s : TSpan) (res : Int) (h : calxref03_weight p0_l p1_s = some res) (W : World) (A0_0 : Option Addr) (n0_0 c0_0 : Nat) (hn0_0 : n0_0 = p0_l.length) (hr0_0 : Rd W A0_0 n0_0 c0_0 (encL cI p0_l)) :
    Calls Try.prog 112 [.slice A0_0 n0_0 c0_0, .agg #[.int .i64 p1_s.fLo, .int .i64 p1_s.fHi]].toArray W fun e W2 => e = .returned (.int .i64 res) ∧ Ext W W2 [] := by
  subst hn0_0
  unfold calxref03_weight at h
  refine calls_enter (m := 29) Try.func112 rfl rfl (Nat.le_of_ble_eq_true rfl) ?_
  refine cx_seq ?_
  refine cx_region ?_
  refine ox_box [.int .i64 p1_s.fLo, .int .i64 p1_s.fHi] rfl rfl rfl (fun b1 => ?_)
  refine ox_y rfl (y_assign_int rfl) ?_
  refine ox_nil ?_
  refine ex_then ?_
  refine cx_seq ?_
  refine cx_region ?_
  refine ox_y rfl (y_assign_int rfl) ?_
  refine ox_nil ?_
  refine ex_then ?_
  refine cx_seq ?_
  refine cx_seq ?_
  refine cx_region ?_
  refine ox_y rfl (y_fieldAddr fo_33_0 rfl) ?_
  refine ox_y rfl (y_load1 0 (v := .int .i64 p1_s.fLo) sc_3 rfl rfl rfl) ?_
  refine ox_y rfl (y_max rfl rfl) ?_
  refine ox_y rfl (y_assign_int rfl) ?_
  refine ox_nil ?_
  refine ex_then ?_
  refine cx_block ?_
  obtain ⟨u4, hl8, h⟩ := bind_some h
  refine cx_loop (fun (s : (Int × Int)) L tm => ∃ (tm0 : Nat → Value), L = [cellsR b1 33 [.int .i64 p1_s.fLo, .int .i64 p1_s.fHi]] ∧ tm = (upd (upd (upd (upd (upd (upd tm0 0 (.slice A0_0 p0_l.length c0_0)) 1 (.agg #[.int .i64 p1_s.fLo, .int .i64 p1_s.fHi])) 3 (.pointer (some ⟨b1, 0, none⟩))) 4 (.int .i64 0)) 5 (.int .i64 s.1)) 6 (.int .i64 s.2))) (fun s e L tm => e = .exit 0 ∧ ∃ (tm0 : Nat → Value), L = [cellsR b1 33 [.int .i64 p1_s.fLo, .int .i64 p1_s.fHi]] ∧ tm = (upd (upd (upd (upd (upd (upd tm0 0 (.slice A0_0 p0_l.length c0_0)) 1 (.agg #[.int .i64 p1_s.fLo, .int .i64 p1_s.fHi])) 3 (.pointer (some ⟨b1, 0, none⟩))) 4 (.int .i64 0)) 5 (.int .i64 s.1)) 6 (.int .i64 s.2))) hl8 ⟨_, rfl, (keep (keep (keep (keep (keep (keep rfl rfl) rfl) rfl) rfl) rfl) rfl)⟩ ?_ ?_
  · rintro s3 L tm st ⟨tm0_s3, rfl, rfl⟩ h
    unfold calxref03_weight_l1 at h
    refine cx_seq ?_
    refine cx_seq ?_
    refine cx_region ?_
    refine ox_y rfl (y_move_int rfl) ?_
    refine ox_y rfl (y_move_slice rfl) ?_
    refine ox_y rfl (y_len (us := []) us_66 rfl) ?_
    refine ox_y rfl (y_lss rfl rfl) ?_
    refine ox_y rfl (y_move_bool rfl) ?_
    refine ox_join 5 (fun tm0 => (upd (upd (upd (upd (upd (upd (upd tm0 0 (.slice A0_0 p0_l.length c0_0)) 1 (.agg #[.int .i64 p1_s.fLo, .int .i64 p1_s.fHi])) 3 (.pointer (some ⟨b1, 0, none⟩))) 4 (.int .i64 0)) 5 (.int .i64 s3.1)) 6 (.int .i64 s3.2)) 19 (.bool ((decide (s3.2 < ((p0_l.length : Nat) : Int))) && (decide (s3.2 ≤ p1_s.fHi)))))) (fun tm0 => ?_) (fun key => ?_)
    · refine ox_nil ?_
      refine ex_then ?_
      rcases ite_some h with ⟨hp6, h⟩ | ⟨hp6, h⟩
      · refine cx_true (congrArg Value.bool hp6) ?_
        refine cx_skip ?_
        refine ex_then ?_
        refine cx_seq ?_
        refine cx_block ?_
        refine cx_region ?_
        refine ox_y rfl (y_move_int rfl) ?_
        refine ox_y rfl (y_move_slice rfl) ?_
        refine ox_y rfl (y_move_int rfl) ?_
        obtain ⟨hg7, h⟩ := guardO_some h
        refine ox_y rfl (y_indexR sl_66 (by decide) hg7.1 hg7.2 (RdL.arg hr0_0) (encL_len cI_len rfl) rfl rfl) ?_
        refine ox_y rfl (y_loadR1 (A := A0_0) (j := (Int.toNat s3.2 * 1)) (v := .int .i64 (rdL p0_l s3.2)) sc_3 (RdL.arg hr0_0) rfl (encL_get0 cI_len hg7.1 (lt_nat hg7.2 rfl) rfl)) ?_
        refine ox_y rfl (y_add rfl rfl) ?_
        refine ox_y rfl (y_assign_int rfl) ?_
        refine ox_nil ?_
        refine ex_block ?_
        refine ex_then ?_
        refine cx_region ?_
        refine ox_y rfl (y_move_int rfl) ?_
        refine ox_y rfl (y_add rfl rfl) ?_
        refine ox_y rfl (y_assign_int rfl) ?_
        refine ox_nil ?_
        obtain rfl := Option.some.inj h
        exact ex_next ⟨_, rfl, (keep (keep (keep (keep (keep (keep rfl rfl) rfl) rfl) rfl) rfl) rfl)⟩
      · refine cx_false (congrArg Value.bool hp6) ?_
        refine cx_exit ?_
        refine ex_then_exit ?_
        obtain rfl := Option.some.inj h
        exact ex_stop ⟨rfl, _, rfl, (keep (keep (keep (keep (keep (keep rfl rfl) rfl) rfl) rfl) rfl) rfl)⟩
    · rcases bool_cases (decide (s3.2 < ((p0_l.length : Nat) : Int))) with hp5 | hp5
      · refine ox_y (sees_t rfl rfl rfl rfl hp5) (y_move_int rfl) ?_
        refine ox_y (sees_t rfl rfl rfl rfl hp5) (y_fieldAddr fo_33_1 rfl) ?_
        refine ox_y (sees_t rfl rfl rfl rfl hp5) (y_load1 0 (v := .int .i64 p1_s.fHi) sc_3 rfl rfl rfl) ?_
        refine ox_y (sees_t rfl rfl rfl rfl hp5) (y_leq rfl rfl) ?_
        refine ox_y rfl (y_pick_tb (congrArg Value.bool hp5) rfl) ?_
        exact key _ _ (keep (keep (keep (keep (keep (keep (keep rfl rfl) rfl) rfl) rfl) rfl) rfl) (congrArg Value.bool (and_t hp5)))
      · refine ox_skip (sees_f rfl rfl rfl rfl hp5) ?_
        refine ox_skip (sees_f rfl rfl rfl rfl hp5) ?_
        refine ox_skip (sees_f rfl rfl rfl rfl hp5) ?_
        refine ox_skip (sees_f rfl rfl rfl rfl hp5) ?_
        refine ox_y rfl (y_pick_fb (congrArg Value.bool hp5) rfl) ?_
        exact key _ _ (keep (keep (keep (keep (keep (keep (keep rfl rfl) rfl) rfl) rfl) rfl) rfl) (congrArg Value.bool (and_f hp5)))
  · intro e L tm hJ
    obtain ⟨rfl, tm0_u4, rfl, rfl⟩ := hJ
    refine ⟨(by intro hc; cases hc), ?_⟩
    refine ex_block_here ?_
    refine ex_then ?_
    refine cx_seq ?_
    refine cx_region ?_
    refine ox_y rfl (y_move_int rfl) ?_
    refine ox_y rfl (y_assign_int rfl) ?_
    refine ox_nil ?_
    refine ex_then ?_
    refine cx_ret ?_
    obtain rfl := Option.some.inj h
    exact ex_res1 (.inl rfl) rfl (resV_tmp (v := .int .i64 u4.1) rfl) (fun W2 hW2 => ⟨rfl, hW2.none⟩)

/-! calx/calxref03.total -/
set_option maxRecDepth 100000 in
theorem calxref03_total_ok (p0_l : (List Int)) (res : Int) (h : calxref03_total p0_l = some res) (W : World) (A0_0 : Option Addr) (n0_0 c0_0 : Nat) (hn0_0 : n0_0 = p0_l.length) (hr0_0 : Rd W A0_0 n0_0 c0_0 (encL cI p0_l)) :
    Calls Try.prog 111 [.slice A0_0 n0_0 c0_0].toArray W fun e W2 => e = .returned (.int .i64 res) ∧ Ext W W2 [] := by
  subst hn0_0
  unfold calxref03_total at h
  refine calls_enter (m := 8) Try.func111 rfl rfl (Nat.le_of_ble_eq_true rfl) ?_
  refine cx_seq ?_
  refine cx_region ?_
  refine ox_y rfl (y_assign_int rfl) ?_
  refine ox_nil ?_
  refine ex_then ?_
  refine cx_seq ?_
  refine cx_region ?_
  refine ox_y rfl (y_move_slice rfl) ?_
  refine ox_y rfl (y_move_slice rfl) ?_
  refine ox_y rfl (y_len (us := []) us_66 rfl) ?_
  refine ox_y rfl (y_buildS [.int .i64 0, .int .i64 ((p0_l.length : Nat) : Int)] [(0, 1), (1, 1)] ust_33 ze_33 (by kernel_rfl)) ?_
  obtain ⟨y1, hy2, h⟩ := bind_some h
  refine ox_y rfl (y_call [.slice A0_0 p0_l.length c0_0, .agg #[.int .i64 0, .int .i64 ((p0_l.length : Nat) : Int)]] go_112 rfl (fun W2 hW2 => calxref03_weight_ok p0_l (TSpan.mk 0 ((p0_l.length : Nat) : Int)) y1 hy2 W2 A0_0 p0_l.length c0_0 rfl ((RdL.arg hr0_0) W2 hW2)) rfl) ?_
  refine ox_y rfl (y_assign_int rfl) ?_
  refine ox_nil ?_
  refine ex_then ?_
  refine cx_ret ?_
  obtain rfl := Option.some.inj h
  exact ex_res1 (.inl rfl) rfl (resV_tmp (v := .int .i64 y1) rfl) (fun W2 hW2 => ⟨rfl, hW2.none⟩)

/-! calx/calxref03.Weights -/
set_option maxRecDepth 100000 in
theorem calxref03_Weights_ok (p0_b : TBatch) (p1_sort : Int) (res : TInts) (h : calxref03_Weights p0_b p1_sort = some res) (W : World)  :
    Calls Try.prog 48 [.agg #[.int .i64 p0_b.fBarrows, .int .i64 p0_b.fSeen.x0, .int .i64 p0_b.fSeen.x1, .int .i64 p0_b.fSeen.x2, .int .i64 p0_b.fKnown.x0.fLo, .int .i64 p0_b.fKnown.x0.fHi, .int .i64 p0_b.fKnown.x1.fLo, .int .i64 p0_b.fKnown.x1.fHi, .int .i64 p0_b.fKnown.x2.fLo, .int .i64 p0_b.fKnown.x2.fHi], .int .i64 p1_sort].toArray W fun e W2 => ∃ x : Option Addr × Nat × Nat, x.2.1 = res.fL.length ∧ e = .returned (.agg #[.slice x.1 x.2.1 x.2.2, .int .i64 res.fE]) ∧ Ext W W2 [rowR x.1 x.2.2 3 1 x.2.1 (encL cI res.fL)] := by
  unfold calxref03_Weights at h
  refine calls_enter (m := 17) Try.func48 rfl rfl (Nat.le_of_ble_eq_true rfl) ?_
  refine cx_seq ?_
  refine cx_region ?_
  refine ox_box [.int .i64 p0_b.fBarrows, .int .i64 p0_b.fSeen.x0, .int .i64 p0_b.fSeen.x1, .int .i64 p0_b.fSeen.x2, .int .i64 p0_b.fKnown.x0.fLo, .int .i64 p0_b.fKnown.x0.fHi, .int .i64 p0_b.fKnown.x1.fLo, .int .i64 p0_b.fKnown.x1.fHi, .int .i64 p0_b.fKnown.x2.fLo, .int .i64 p0_b.fKnown.x2.fHi] rfl rfl rfl (fun b1 => ?_)
  refine ox_alloc ze_76 rfl (fun b2 => ?_)
  refine ox_nil ?_
  refine ex_then ?_
  refine cx_seq ?_
  refine cx_region ?_
  refine ox_y rfl (y_loadN 0 [.int .i64 p0_b.fBarrows, .int .i64 p0_b.fSeen.x0, .int .i64 p0_b.fSeen.x1, .int .i64 p0_b.fSeen.x2, .int .i64 p0_b.fKnown.x0.fLo, .int .i64 p0_b.fKnown.x0.fHi, .int .i64 p0_b.fKnown.x1.fLo, .int .i64 p0_b.fKnown.x1.fHi, .int .i64 p0_b.fKnown.x2.fLo, .int .i64 p0_b.fKnown.x2.fHi] ag_52 rfl rfl rfl) ?_
  refine ox_y rfl (y_move_int rfl) ?_
  obtain ⟨y3, hy4, h⟩ := bind_some h
  refine ox_y rfl (y_call [.agg #[.int .i64 p0_b.fBarrows, .int .i64 p0_b.fSeen.x0, .int .i64 p0_b.fSeen.x1, .int .i64 p0_b.fSeen.x2, .int .i64 p0_b.fKnown.x0.fLo, .int .i64 p0_b.fKnown.x0.fHi, .int .i64 p0_b.fKnown.x1.fLo, .int .i64 p0_b.fKnown.x1.fHi, .int .i64 p0_b.fKnown.x2.fLo, .int .i64 p0_b.fKnown.x2.fHi], .int .i64 p1_sort] go_102 rfl (fun W2 hW2 => calxref03_kind_ok p0_b p1_sort y3 hy4 W2 ) rfl) ?_
  refine ox_y rfl (y_assign_int rfl) ?_
  refine ox_nil ?_
  refine ex_then ?_
  refine cx_seq ?_
  refine cx_seq ?_
  refine cx_region ?_
  refine ox_y rfl (y_move_int rfl) ?_
  refine ox_y rfl (y_neq rfl rfl) ?_
  refine ox_nil ?_
  refine ex_then ?_
  rcases ite_some h with ⟨hp5, h⟩ | ⟨hp5, h⟩
  · refine cx_true (congrArg Value.bool hp5) ?_
    refine cx_seq ?_
    refine cx_region ?_
    refine ox_y rfl (y_move_int rfl) ?_
    refine ox_y rfl (y_buildS [.slice none 0 0, .int .i64 y3] [(0, 1), (1, 1)] ust_76 ze_76 (by kernel_rfl)) ?_
    refine ox_n rfl (y_storeN 1 [.slice none 0 0, .int .i64 y3] sz_76 rfl (Nat.le_of_ble_eq_true rfl) rfl rfl rfl) ?_
    refine ox_nil ?_
    refine ex_then ?_
    refine cx_ret ?_
    refine ex_then_ret ?_
    obtain rfl := Option.some.inj h
    exact ex_res1 (.inl rfl) rfl (resV_cellN 1 [.slice none 0 0, .int .i64 y3] ag_76 rfl rfl rfl) (fun W2 hW2 => ⟨(none, 0, 0), rfl, rfl, ((hW2.nilrow 3 1).pick 2 rfl)⟩)
  · refine cx_false (congrArg Value.bool hp5) ?_
    refine cx_skip ?_
    refine ex_then ?_
    refine cx_seq ?_
    refine cx_region ?_
    refine ox_y rfl (y_loadN 0 [.int .i64 p0_b.fBarrows, .int .i64 p0_b.fSeen.x0, .int .i64 p0_b.fSeen.x1, .int .i64 p0_b.fSeen.x2, .int .i64 p0_b.fKnown.x0.fLo, .int .i64 p0_b.fKnown.x0.fHi, .int .i64 p0_b.fKnown.x1.fLo, .int .i64 p0_b.fKnown.x1.fHi, .int .i64 p0_b.fKnown.x2.fLo, .int .i64 p0_b.fKnown.x2.fHi] ag_52 rfl rfl rfl) ?_
    refine ox_y rfl (y_move_int rfl) ?_
    obtain ⟨y6, hy7, h⟩ := bind_some h
    refine ox_call [.agg #[.int .i64 p0_b.fBarrows, .int .i64 p0_b.fSeen.x0, .int .i64 p0_b.fSeen.x1, .int .i64 p0_b.fSeen.x2, .int .i64 p0_b.fKnown.x0.fLo, .int .i64 p0_b.fKnown.x0.fHi, .int .i64 p0_b.fKnown.x1.fLo, .int .i64 p0_b.fKnown.x1.fHi, .int .i64 p0_b.fKnown.x2.fLo, .int .i64 p0_b.fKnown.x2.fHi], .int .i64 p1_sort] _ _ _ rfl go_110 rfl (fun W2 hW2 => calxref03_weights_ok p0_b p1_sort y6 hy7 W2 ) ?_
    rintro ⟨A8, n10, c9⟩ hn11
    replace hn11 : n10 = y6.length := hn11; subst hn11
    refine ox_y rfl (y_buildS [.slice A8 y6.length c9, .int .i64 0] [(0, 1), (1, 1)] ust_76 ze_76 (by kernel_rfl)) ?_
    refine ox_n rfl (y_storeN 1 [.slice A8 y6.length c9, .int .i64 0] sz_76 rfl (Nat.le_of_ble_eq_true rfl) rfl rfl rfl) ?_
    refine ox_nil ?_
    refine ex_then ?_
    refine cx_ret ?_
    obtain rfl := Option.some.inj h
    exact ex_res1 (.inl rfl) rfl (resV_cellN 1 [.slice A8 y6.length c9, .int .i64 0] ag_76 rfl rfl rfl) (fun W2 hW2 => ⟨(A8, y6.length, c9), rfl, rfl, (hW2.pick 2 rfl)⟩)

/-! calx/calxref03.Believed -/
set_option maxRecDepth 100000 in
theorem calxref03_Believed_ok (p0_b : TBatch) (p1_sort : Int) (p2_s : TSpan) (res : (TRatio × Int)) (h : calxref03_Believed p0_b p1_sort p2_s = some res) (W : World)  :
    Calls Try.prog 50 [.agg #[.int .i64 p0_b.fBarrows, .int .i64 p0_b.fSeen.x0, .int .i64 p0_b.fSeen.x1, .int .i64 p0_b.fSeen.x2, .int .i64 p0_b.fKnown.x0.fLo, .int .i64 p0_b.fKnown.x0.fHi, .int .i64 p0_b.fKnown.x1.fLo, .int .i64 p0_b.fKnown.x1.fHi, .int .i64 p0_b.fKnown.x2.fLo, .int .i64 p0_b.fKnown.x2.fHi], .int .i64 p1_sort, .agg #[.int .i64 p2_s.fLo, .int .i64 p2_s.fHi]].toArray W fun e W2 => e = .returned (.tuple #[.agg #[.int .i64 res.1.fNum, .int .i64 res.1.fDen], .int .i64 res.2]) ∧ Ext W W2 [] := by
  unfold calxref03_Believed at h
  refine calls_enter (m := 32) Try.func50 rfl rfl (Nat.le_of_ble_eq_true rfl) ?_
  refine cx_seq ?_
  refine cx_region ?_
  refine ox_box [.int .i64 p0_b.fBarrows, .int .i64 p0_b.fSeen.x0, .int .i64 p0_b.fSeen.x1, .int .i64 p0_b.fSeen.x2, .int .i64 p0_b.fKnown.x0.fLo, .int .i64 p0_b.fKnown.x0.fHi, .int .i64 p0_b.fKnown.x1.fLo, .int .i64 p0_b.fKnown.x1.fHi, .int .i64 p0_b.fKnown.x2.fLo, .int .i64 p0_b.fKnown.x2.fHi] rfl rfl rfl (fun b1 => ?_)
  refine ox_box [.int .i64 p2_s.fLo, .int .i64 p2_s.fHi] rfl rfl rfl (fun b2 => ?_)
  refine ox_alloc ze_23 rfl (fun b3 => ?_)
  refine ox_y rfl (y_assign_int rfl) ?_
  refine ox_nil ?_
  refine ex_then ?_
  refine cx_seq ?_
  refine cx_region ?_
  refine ox_y rfl (y_loadN 0 [.int .i64 p0_b.fBarrows, .int .i64 p0_b.fSeen.x0, .int .i64 p0_b.fSeen.x1, .int .i64 p0_b.fSeen.x2, .int .i64 p0_b.fKnown.x0.fLo, .int .i64 p0_b.fKnown.x0.fHi, .int .i64 p0_b.fKnown.x1.fLo, .int .i64 p0_b.fKnown.x1.fHi, .int .i64 p0_b.fKnown.x2.fLo, .int .i64 p0_b.fKnown.x2.fHi] ag_52 rfl rfl rfl) ?_
  refine ox_y rfl (y_move_int rfl) ?_
  obtain ⟨y4, hy5, h⟩ := bind_some h
  refine ox_y rfl (y_call [.agg #[.int .i64 p0_b.fBarrows, .int .i64 p0_b.fSeen.x0, .int .i64 p0_b.fSeen.x1, .int .i64 p0_b.fSeen.x2, .int .i64 p0_b.fKnown.x0.fLo, .int .i64 p0_b.fKnown.x0.fHi, .int .i64 p0_b.fKnown.x1.fLo, .int .i64 p0_b.fKnown.x1.fHi, .int .i64 p0_b.fKnown.x2.fLo, .int .i64 p0_b.fKnown.x2.fHi], .int .i64 p1_sort] go_102 rfl (fun W2 hW2 => calxref03_kind_ok p0_b p1_sort y4 hy5 W2 ) rfl) ?_
  refine ox_y rfl (y_assign_int rfl) ?_
  refine ox_nil ?_
  refine ex_then ?_
  refine cx_seq ?_
  refine cx_seq ?_
  refine cx_region ?_
  refine ox_y rfl (y_move_int rfl) ?_
  refine ox_y rfl (y_neq rfl rfl) ?_
  refine ox_nil ?_
  refine ex_then ?_
  rcases ite_some h with ⟨hp6, h⟩ | ⟨hp6, h⟩
  · refine cx_true (congrArg Value.bool hp6) ?_
    refine cx_seq ?_
    refine cx_region ?_
    refine ox_y rfl (y_buildS [.int .i64 0, .int .i64 0] [(0, 1), (1, 1)] ust_23 ze_23 (by kernel_rfl)) ?_
    refine ox_y rfl (y_move_int rfl) ?_
    refine ox_n rfl (y_storeN 2 [.int .i64 0, .int .i64 0] sz_23 rfl (Nat.le_of_ble_eq_true rfl) rfl rfl rfl) ?_
    refine ox_y rfl (y_assign_int rfl) ?_
    refine ox_nil ?_
    refine ex_then ?_
    refine cx_ret ?_
    refine ex_then_ret ?_
    obtain rfl := Option.some.inj h
    exact ex_res2 (.inl rfl) rfl (resV_cellN 2 [.int .i64 0, .int .i64 0] ag_23 rfl rfl rfl) (resV_tmp (v := .int .i64 y4) rfl) (fun W2 hW2 => ⟨rfl, hW2.none⟩)
  · refine cx_false (congrArg Value.bool hp6) ?_
    refine cx_skip ?_
    refine ex_then ?_
    refine cx_seq ?_
    refine cx_seq ?_
    refine cx_region ?_
    refine ox_y rfl (y_fieldAddr fo_33_0 rfl) ?_
    refine ox_y rfl (y_load1 1 (v := .int .i64 p2_s.fLo) sc_3 rfl rfl rfl) ?_
    refine ox_y rfl (y_fieldAddr fo_33_1 rfl) ?_
    refine ox_y rfl (y_load1 1 (v := .int .i64 p2_s.fHi) sc_3 rfl rfl rfl) ?_
    refine ox_y rfl (y_gtr rfl rfl) ?_
    refine ox_nil ?_
    refine ex_then ?_
    rcases ite_some h with ⟨hp7, h⟩ | ⟨hp7, h⟩
    · refine cx_true (congrArg Value.bool hp7) ?_
      refine cx_seq ?_
      refine cx_region ?_
      refine ox_y rfl (y_buildS [.int .i64 0, .int .i64 0] [(0, 1), (1, 1)] ust_23 ze_23 (by kernel_rfl)) ?_
      refine ox_n rfl (y_storeN 2 [.int .i64 0, .int .i64 0] sz_23 rfl (Nat.le_of_ble_eq_true rfl) rfl rfl rfl) ?_
      refine ox_y rfl (y_assign_int rfl) ?_
      refine ox_nil ?_
      refine ex_then ?_
      refine cx_ret ?_
      refine ex_then_ret ?_
      obtain rfl := Option.some.inj h
      exact ex_res2 (.inl rfl) rfl (resV_cellN 2 [.int .i64 0, .int .i64 0] ag_23 rfl rfl rfl) (resV_tmp (v := .int .i64 1) rfl) (fun W2 hW2 => ⟨rfl, hW2.none⟩)
    · refine cx_false (congrArg Value.bool hp7) ?_
      refine cx_skip ?_
      refine ex_then ?_
      refine cx_seq ?_
      refine cx_region ?_
      refine ox_y rfl (y_loadN 0 [.int .i64 p0_b.fBarrows, .int .i64 p0_b.fSeen.x0, .int .i64 p0_b.fSeen.x1, .int .i64 p0_b.fSeen.x2, .int .i64 p0_b.fKnown.x0.fLo, .int .i64 p0_b.fKnown.x0.fHi, .int .i64 p0_b.fKnown.x1.fLo, .int .i64 p0_b.fKnown.x1.fHi, .int .i64 p0_b.fKnown.x2.fLo, .int .i64 p0_b.fKnown.x2.fHi] ag_52 rfl rfl rfl) ?_
      refine ox_y rfl (y_move_int rfl) ?_
      obtain ⟨y8, hy9, h⟩ := bind_some h
      refine ox_call [.agg #[.int .i64 p0_b.fBarrows, .int .i64 p0_b.fSeen.x0, .int .i64 p0_b.fSeen.x1, .int .i64 p0_b.fSeen.x2, .int .i64 p0_b.fKnown.x0.fLo, .int .i64 p0_b.fKnown.x0.fHi, .int .i64 p0_b.fKnown.x1.fLo, .int .i64 p0_b.fKnown.x1.fHi, .int .i64 p0_b.fKnown.x2.fLo, .int .i64 p0_b.fKnown.x2.fHi], .int .i64 p1_sort] _ _ _ rfl go_110 rfl (fun W2 hW2 => calxref03_weights_ok p0_b p1_sort y8 hy9 W2 ) ?_
      rintro ⟨A10, n12, c11⟩ hn13
      replace hn13 : n12 = y8.length := hn13; subst hn13
      refine ox_y rfl (y_assign_slice rfl) ?_
      refine ox_nil ?_
      refine ex_then ?_
      refine cx_seq ?_
      refine cx_region ?_
      refine ox_y rfl (y_move_slice rfl) ?_
      refine ox_y rfl (y_loadN 1 [.int .i64 p2_s.fLo, .int .i64 p2_s.fHi] ag_33 rfl rfl rfl) ?_
      obtain ⟨y14, hy15, h⟩ := bind_some h
      refine ox_y rfl (y_call [.slice A10 y8.length c11, .agg #[.int .i64 p2_s.fLo, .int .i64 p2_s.fHi]] go_112 rfl (fun W2 hW2 => calxref03_weight_ok y8 p2_s y14 hy15 W2 A10 y8.length c11 rfl ((RdL.row 3 rfl) W2 hW2)) rfl) ?_
      refine ox_y rfl (y_move_slice rfl) ?_
      obtain ⟨y16, hy17, h⟩ := bind_some h
      refine ox_y rfl (y_call [.slice A10 y8.length c11] go_111 rfl (fun W2 hW2 => calxref03_total_ok y8 y16 hy17 W2 A10 y8.length c11 rfl ((RdL.row 3 rfl) W2 hW2)) rfl) ?_
      obtain ⟨y18, hy19, h⟩ := bind_some h
      refine ox_y rfl (y_call [.int .i64 y14, .int .i64 y16] go_97 rfl (fun W2 hW2 => calxref03_ratio_ok y14 y16 y18 hy19 W2 ) rfl) ?_
      refine ox_n rfl (y_storeN 2 [.int .i64 y18.fNum, .int .i64 y18.fDen] sz_23 rfl (Nat.le_of_ble_eq_true rfl) rfl rfl rfl) ?_
      refine ox_y rfl (y_assign_int rfl) ?_
      refine ox_nil ?_
      refine ex_then ?_
      refine cx_ret ?_
      obtain rfl := Option.some.inj h
      exact ex_res2 (.inl rfl) rfl (resV_cellN 2 [.int .i64 y18.fNum, .int .i64 y18.fDen] ag_23 rfl rfl rfl) (resV_tmp (v := .int .i64 0) rfl) (fun W2 hW2 => ⟨rfl, hW2.none⟩)

/-! calx/calxref03.Mean -/
set_option maxRecDepth 100000 in
theorem calxref03_Mean_ok (p0_b : TBatch) (p1_sort : Int) (res : (TRatio × Int)) (h : calxref03_Mean p0_b p1_sort = some res) (W : World)  :
    Calls Try.prog 51 [.agg #[.int .i64 p0_b.fBarrows, .int .i64 p0_b.fSeen.x0, .int .i64 p0_b.fSeen.x1, .int .i64 p0_b.fSeen.x2, .int .i64 p0_b.fKnown.x0.fLo, .int .i64 p0_b.fKnown.x0.fHi, .int .i64 p0_b.fKnown.x1.fLo, .int .i64 p0_b.fKnown.x1.fHi, .int .i64 p0_b.fKnown.x2.fLo, .int .i64 p0_b.fKnown.x2.fHi], .int .i64 p1_sort].toArray W fun e W2 => e = .returned (.tuple #[.agg #[.int .i64 res.1.fNum, .int .i64 res.1.fDen], .int .i64 res.2]) ∧ Ext W W2 [] := by
  unfold calxref03_Mean at h
  refine calls_enter (m := 38) Try.func51 rfl rfl (Nat.le_of_ble_eq_true rfl) ?_
  refine cx_seq ?_
  refine cx_region ?_
  refine ox_box [.int .i64 p0_b.fBarrows, .int .i64 p0_b.fSeen.x0, .int .i64 p0_b.fSeen.x1, .int .i64 p0_b.fSeen.x2, .int .i64 p0_b.fKnown.x0.fLo, .int .i64 p0_b.fKnown.x0.fHi, .int .i64 p0_b.fKnown.x1.fLo, .int .i64 p0_b.fKnown.x1.fHi, .int .i64 p0_b.fKnown.x2.fLo, .int .i64 p0_b.fKnown.x2.fHi] rfl rfl rfl (fun b1 => ?_)
  refine ox_alloc ze_23 rfl (fun b2 => ?_)
  refine ox_y rfl (y_assign_int rfl) ?_
  refine ox_nil ?_
  refine ex_then ?_
  refine cx_seq ?_
  refine cx_region ?_
  refine ox_y rfl (y_loadN 0 [.int .i64 p0_b.fBarrows, .int .i64 p0_b.fSeen.x0, .int .i64 p0_b.fSeen.x1, .int .i64 p0_b.fSeen.x2, .int .i64 p0_b.fKnown.x0.fLo, .int .i64 p0_b.fKnown.x0.fHi, .int .i64 p0_b.fKnown.x1.fLo, .int .i64 p0_b.fKnown.x1.fHi, .int .i64 p0_b.fKnown.x2.fLo, .int .i64 p0_b.fKnown.x2.fHi] ag_52 rfl rfl rfl) ?_
  refine ox_y rfl (y_move_int rfl) ?_
  obtain ⟨y3, hy4, h⟩ := bind_some h
  refine ox_y rfl (y_call [.agg #[.int .i64 p0_b.fBarrows, .int .i64 p0_b.fSeen.x0, .int .i64 p0_b.fSeen.x1, .int .i64 p0_b.fSeen.x2, .int .i64 p0_b.fKnown.x0.fLo, .int .i64 p0_b.fKnown.x0.fHi, .int .i64 p0_b.fKnown.x1.fLo, .int .i64 p0_b.fKnown.x1.fHi, .int .i64 p0_b.fKnown.x2.fLo, .int .i64 p0_b.fKnown.x2.fHi], .int .i64 p1_sort] go_102 rfl (fun W2 hW2 => calxref03_kind_ok p0_b p1_sort y3 hy4 W2 ) rfl) ?_
  refine ox_y rfl (y_assign_int rfl) ?_
  refine ox_nil ?_
  refine ex_then ?_
  refine cx_seq ?_
  refine cx_seq ?_
  refine cx_region ?_
  refine ox_y rfl (y_move_int rfl) ?_
  refine ox_y rfl (y_neq rfl rfl) ?_
  refine ox_nil ?_
  refine ex_then ?_
  rcases ite_some h with ⟨hp5, h⟩ | ⟨hp5, h⟩
  · refine cx_true (congrArg Value.bool hp5) ?_
    refine cx_seq ?_
    refine cx_region ?_
    refine ox_y rfl (y_buildS [.int .i64 0, .int .i64 0] [(0, 1), (1, 1)] ust_23 ze_23 (by kernel_rfl)) ?_
    refine ox_y rfl (y_move_int rfl) ?_
    refine ox_n rfl (y_storeN 1 [.int .i64 0, .int .i64 0] sz_23 rfl (Nat.le_of_ble_eq_true rfl) rfl rfl rfl) ?_
    refine ox_y rfl (y_assign_int rfl) ?_
    refine ox_nil ?_
    refine ex_then ?_
    refine cx_ret ?_
    refine ex_then_ret ?_
    obtain rfl := Option.some.inj h
    exact ex_res2 (.inl rfl) rfl (resV_cellN 1 [.int .i64 0, .int .i64 0] ag_23 rfl rfl rfl) (resV_tmp (v := .int .i64 y3) rfl) (fun W2 hW2 => ⟨rfl, hW2.none⟩)
  · refine cx_false (congrArg Value.bool hp5) ?_
    refine cx_skip ?_
    refine ex_then ?_
    refine cx_seq ?_
    refine cx_region ?_
    refine ox_y rfl (y_loadN 0 [.int .i64 p0_b.fBarrows, .int .i64 p0_b.fSeen.x0, .int .i64 p0_b.fSeen.x1, .int .i64 p0_b.fSeen.x2, .int .i64 p0_b.fKnown.x0.fLo, .int .i64 p0_b.fKnown.x0.fHi, .int .i64 p0_b.fKnown.x1.fLo, .int .i64 p0_b.fKnown.x1.fHi, .int .i64 p0_b.fKnown.x2.fLo, .int .i64 p0_b.fKnown.x2.fHi] ag_52 rfl rfl rfl) ?_
    refine ox_y rfl (y_move_int rfl) ?_
    obtain ⟨y6, hy7, h⟩ := bind_some h
    refine ox_call [.agg #[.int .i64 p0_b.fBarrows, .int .i64 p0_b.fSeen.x0, .int .i64 p0_b.fSeen.x1, .int .i64 p0_b.fSeen.x2, .int .i64 p0_b.fKnown.x0.fLo, .int .i64 p0_b.fKnown.x0.fHi, .int .i64 p0_b.fKnown.x1.fLo, .int .i64 p0_b.fKnown.x1.fHi, .int .i64 p0_b.fKnown.x2.fLo, .int .i64 p0_b.fKnown.x2.fHi], .int .i64 p1_sort] _ _ _ rfl go_110 rfl (fun W2 hW2 => calxref03_weights_ok p0_b p1_sort y6 hy7 W2 ) ?_
    rintro ⟨A8, n10, c9⟩ hn11
    replace hn11 : n10 = y6.length := hn11; subst hn11
    refine ox_y rfl (y_assign_slice rfl) ?_
    refine ox_nil ?_
    refine ex_then ?_
    refine cx_seq ?_
    refine cx_region ?_
    refine ox_y rfl (y_assign_int rfl) ?_
    refine ox_nil ?_
    refine ex_then ?_
    refine cx_seq ?_
    refine cx_seq ?_
    refine cx_region ?_
    refine ox_y rfl (y_assign_int rfl) ?_
    refine ox_nil ?_
    refine ex_then ?_
    refine cx_block ?_
    obtain ⟨u14, hl17, h⟩ := bind_some h
    refine cx_loop (fun (s : (Int × Int)) L tm => ∃ (tm0 : Nat → Value), L = [cellsR b1 52 [.int .i64 p0_b.fBarrows, .int .i64 p0_b.fSeen.x0, .int .i64 p0_b.fSeen.x1, .int .i64 p0_b.fSeen.x2, .int .i64 p0_b.fKnown.x0.fLo, .int .i64 p0_b.fKnown.x0.fHi, .int .i64 p0_b.fKnown.x1.fLo, .int .i64 p0_b.fKnown.x1.fHi, .int .i64 p0_b.fKnown.x2.fLo, .int .i64 p0_b.fKnown.x2.fHi], cellsR b2 23 [.int .i64 0, .int .i64 0], rowR A8 c9 3 1 y6.length (encL cI y6)] ∧ tm = (upd (upd (upd (upd (upd (upd (upd (upd (upd (upd tm0 0 (.agg #[.int .i64 p0_b.fBarrows, .int .i64 p0_b.fSeen.x0, .int .i64 p0_b.fSeen.x1, .int .i64 p0_b.fSeen.x2, .int .i64 p0_b.fKnown.x0.fLo, .int .i64 p0_b.fKnown.x0.fHi, .int .i64 p0_b.fKnown.x1.fLo, .int .i64 p0_b.fKnown.x1.fHi, .int .i64 p0_b.fKnown.x2.fLo, .int .i64 p0_b.fKnown.x2.fHi])) 1 (.int .i64 p1_sort)) 2 (.pointer (some ⟨b1, 0, none⟩))) 4 (.pointer (some ⟨b2, 0, none⟩))) 5 (.int .i64 0)) 6 (.int .i64 y3)) 14 (.bool (y3 != 0))) 7 (.slice A8 y6.length c9)) 8 (.int .i64 s.1)) 9 (.int .i64 s.2))) (fun s e L tm => e = .exit 0 ∧ ∃ (tm0 : Nat → Value), L = [cellsR b1 52 [.int .i64 p0_b.fBarrows, .int .i64 p0_b.fSeen.x0, .int .i64 p0_b.fSeen.x1, .int .i64 p0_b.fSeen.x2, .int .i64 p0_b.fKnown.x0.fLo, .int .i64 p0_b.fKnown.x0.fHi, .int .i64 p0_b.fKnown.x1.fLo, .int .i64 p0_b.fKnown.x1.fHi, .int .i64 p0_b.fKnown.x2.fLo, .int .i64 p0_b.fKnown.x2.fHi], cellsR b2 23 [.int .i64 0, .int .i64 0], rowR A8 c9 3 1 y6.length (encL cI y6)] ∧ tm = (upd (upd (upd (upd (upd (upd (upd (upd (upd (upd tm0 0 (.agg #[.int .i64 p0_b.fBarrows, .int .i64 p0_b.fSeen.x0, .int .i64 p0_b.fSeen.x1, .int .i64 p0_b.fSeen.x2, .int .i64 p0_b.fKnown.x0.fLo, .int .i64 p0_b.fKnown.x0.fHi, .int .i64 p0_b.fKnown.x1.fLo, .int .i64 p0_b.fKnown.x1.fHi, .int .i64 p0_b.fKnown.x2.fLo, .int .i64 p0_b.fKnown.x2.fHi])) 1 (.int .i64 p1_sort)) 2 (.pointer (some ⟨b1, 0, none⟩))) 4 (.pointer (some ⟨b2, 0, none⟩))) 5 (.int .i64 0)) 6 (.int .i64 y3)) 14 (.bool (y3 != 0))) 7 (.slice A8 y6.length c9)) 8 (.int .i64 s.1)) 9 (.int .i64 s.2))) hl17 ⟨_, rfl, (keep (keep (keep (keep (keep (keep (keep (keep (keep (keep rfl rfl) rfl) rfl) rfl) rfl) rfl) rfl) rfl) rfl) rfl)⟩ ?_ ?_
    · rintro s13 L tm st ⟨tm0_s13, rfl, rfl⟩ h
      unfold calxref03_Mean_l1 at h
      refine cx_seq ?_
      refine cx_seq ?_
      refine cx_region ?_
      refine ox_y rfl (y_move_int rfl) ?_
      refine ox_y rfl (y_move_slice rfl) ?_
      refine ox_y rfl (y_len (us := []) us_66 rfl) ?_
      refine ox_y rfl (y_lss rfl rfl) ?_
      refine ox_nil ?_
      refine ex_then ?_
      rcases ite_some h with ⟨hp15, h⟩ | ⟨hp15, h⟩
      · refine cx_true (congrArg Value.bool hp15) ?_
        refine cx_skip ?_
        refine ex_then ?_
        refine cx_seq ?_
        refine cx_block ?_
        refine cx_region ?_
        refine ox_y rfl (y_move_int rfl) ?_
        refine ox_y rfl (y_move_int rfl) ?_
        refine ox_y rfl (y_move_slice rfl) ?_
        refine ox_y rfl (y_move_int rfl) ?_
        obtain ⟨hg16, h⟩ := guardO_some h
        refine ox_y rfl (y_indexR sl_66 (by decide) hg16.1 hg16.2 (RdL.row 2 rfl) (encL_len cI_len rfl) rfl rfl) ?_
        refine ox_y rfl (y_loadR1 (A := A8) (j := (Int.toNat s13.2 * 1)) (v := .int .i64 (rdL y6 s13.2)) sc_3 (RdL.row 2 rfl) rfl (encL_get0 cI_len hg16.1 (lt_nat hg16.2 rfl) rfl)) ?_
        refine ox_y rfl (y_mul rfl rfl) ?_
        refine ox_y rfl (y_add rfl rfl) ?_
        refine ox_y rfl (y_assign_int rfl) ?_
        refine ox_nil ?_
        refine ex_block ?_
        refine ex_then ?_
        refine cx_region ?_
        refine ox_y rfl (y_move_int rfl) ?_
        refine ox_y rfl (y_add rfl rfl) ?_
        refine ox_y rfl (y_assign_int rfl) ?_
        refine ox_nil ?_
        obtain rfl := Option.some.inj h
        exact ex_next ⟨_, rfl, (keep (keep (keep (keep (keep (keep (keep (keep (keep (keep rfl rfl) rfl) rfl) rfl) rfl) rfl) rfl) rfl) rfl) rfl)⟩
      · refine cx_false (congrArg Value.bool hp15) ?_
        refine cx_exit ?_
        refine ex_then_exit ?_
        obtain rfl := Option.some.inj h
        exact ex_stop ⟨rfl, _, rfl, (keep (keep (keep (keep (keep (keep (keep (keep (keep (keep rfl rfl) rfl) rfl) rfl) rfl) rfl) rfl) rfl) rfl) rfl)⟩
    · intro e L tm hJ
      obtain ⟨rfl, tm0_u14, rfl, rfl⟩ := hJ
      refine ⟨(by intro hc; cases hc), ?_⟩
      refine ex_block_here ?_
      refine ex_then ?_
      refine cx_seq ?_
      refine cx_region ?_
      refine ox_y rfl (y_move_int rfl) ?_
      refine ox_y rfl (y_move_slice rfl) ?_
      obtain ⟨y18, hy19, h⟩ := bind_some h
      refine ox_y rfl (y_call [.slice A8 y6.length c9] go_111 rfl (fun W2 hW2 => calxref03_total_ok y6 y18 hy19 W2 A8 y6.length c9 rfl ((RdL.row 2 rfl) W2 hW2)) rfl) ?_
      obtain ⟨y20, hy21, h⟩ := bind_some h
      refine ox_y rfl (y_call [.int .i64 u14.1, .int .i64 y18] go_97 rfl (fun W2 hW2 => calxref03_ratio_ok u14.1 y18 y20 hy21 W2 ) rfl) ?_
      refine ox_n rfl (y_storeN 1 [.int .i64 y20.fNum, .int .i64 y20.fDen] sz_23 rfl (Nat.le_of_ble_eq_true rfl) rfl rfl rfl) ?_
      refine ox_y rfl (y_assign_int rfl) ?_
      refine ox_nil ?_
      refine ex_then ?_
      refine cx_ret ?_
      obtain rfl := Option.some.inj h
      exact ex_res2 (.inl rfl) rfl (resV_cellN 1 [.int .i64 y20.fNum, .int .i64 y20.fDen] ag_23 rfl rfl rfl) (resV_tmp (v := .int .i64 0) rfl) (fun W2 hW2 => ⟨rfl, hW2.none⟩)

/-! calx/calxref03.Next -/
set_option maxRecDepth 100000 in
theorem calxref03_Next_ok (p0_b : TBatch) (p1_sort : Int) (res : (TRatio × Int)) (h : calxref03_Next p0_b p1_sort = some res) (W : World)  :
    Calls Try.prog 52 [.agg #[.int .i64 p0_b.fBarrows, .int .i64 p0_b.fSeen.x0, .int .i64 p0_b.fSeen.x1, .int .i64 p0_b.fSeen.x2, .int .i64 p0_b.fKnown.x0.fLo, .int .i64 p0_b.fKnown.x0.fHi, .int .i64 p0_b.fKnown.x1.fLo, .int .i64 p0_b.fKnown.x1.fHi, .int .i64 p0_b.fKnown.x2.fLo, .int .i64 p0_b.fKnown.x2.fHi], .int .i64 p1_sort].toArray W fun e W2 => e = .returned (.tuple #[.agg #[.int .i64 res.1.fNum, .int .i64 res.1.fDen], .int .i64 res.2]) ∧ Ext W W2 [] := by
  unfold calxref03_Next at h
  refine calls_enter (m := 55) Try.func52 rfl rfl (Nat.le_of_ble_eq_true rfl) ?_
  refine cx_seq ?_
  refine cx_region ?_
  refine ox_box [.int .i64 p0_b.fBarrows, .int .i64 p0_b.fSeen.x0, .int .i64 p0_b.fSeen.x1, .int .i64 p0_b.fSeen.x2, .int .i64 p0_b.fKnown.x0.fLo, .int .i64 p0_b.fKnown.x0.fHi, .int .i64 p0_b.fKnown.x1.fLo, .int .i64 p0_b.fKnown.x1.fHi, .int .i64 p0_b.fKnown.x2.fLo, .int .i64 p0_b.fKnown.x2.fHi] rfl rfl rfl (fun b1 => ?_)
  refine ox_alloc ze_23 rfl (fun b2 => ?_)
  refine ox_y rfl (y_assign_int rfl) ?_
  refine ox_nil ?_
  refine ex_then ?_
  refine cx_seq ?_
  refine cx_region ?_
  refine ox_y rfl (y_loadN 0 [.int .i64 p0_b.fBarrows, .int .i64 p0_b.fSeen.x0, .int .i64 p0_b.fSeen.x1, .int .i64 p0_b.fSeen.x2, .int .i64 p0_b.fKnown.x0.fLo, .int .i64 p0_b.fKnown.x0.fHi, .int .i64 p0_b.fKnown.x1.fLo, .int .i64 p0_b.fKnown.x1.fHi, .int .i64 p0_b.fKnown.x2.fLo, .int .i64 p0_b.fKnown.x2.fHi] ag_52 rfl rfl rfl) ?_
  refine ox_y rfl (y_move_int rfl) ?_
  obtain ⟨y3, hy4, h⟩ := bind_some h
  refine ox_y rfl (y_call [.agg #[.int .i64 p0_b.fBarrows, .int .i64 p0_b.fSeen.x0, .int .i64 p0_b.fSeen.x1, .int .i64 p0_b.fSeen.x2, .int .i64 p0_b.fKnown.x0.fLo, .int .i64 p0_b.fKnown.x0.fHi, .int .i64 p0_b.fKnown.x1.fLo, .int .i64 p0_b.fKnown.x1.fHi, .int .i64 p0_b.fKnown.x2.fLo, .int .i64 p0_b.fKnown.x2.fHi], .int .i64 p1_sort] go_102 rfl (fun W2 hW2 => calxref03_kind_ok p0_b p1_sort y3 hy4 W2 ) rfl) ?_
  refine ox_y rfl (y_assign_int rfl) ?_
  refine ox_nil ?_
  refine ex_then ?_
  refine cx_seq ?_
  refine cx_seq ?_
  refine cx_region ?_
  refine ox_y rfl (y_move_int rfl) ?_
  refine ox_y rfl (y_neq rfl rfl) ?_
  refine ox_nil ?_
  refine ex_then ?_
  rcases ite_some h with ⟨hp5, h⟩ | ⟨hp5, h⟩
  · refine cx_true (congrArg Value.bool hp5) ?_
    refine cx_seq ?_
    refine cx_region ?_
    refine ox_y rfl (y_buildS [.int .i64 0, .int .i64 0] [(0, 1), (1, 1)] ust_23 ze_23 (by kernel_rfl)) ?_
    refine ox_y rfl (y_move_int rfl) ?_
    refine ox_n rfl (y_storeN 1 [.int .i64 0, .int .i64 0] sz_23 rfl (Nat.le_of_ble_eq_true rfl) rfl rfl rfl) ?_
    refine ox_y rfl (y_assign_int rfl) ?_
    refine ox_nil ?_
    refine ex_then ?_
    refine cx_ret ?_
    refine ex_then_ret ?_
    obtain rfl := Option.some.inj h
    exact ex_res2 (.inl rfl) rfl (resV_cellN 1 [.int .i64 0, .int .i64 0] ag_23 rfl rfl rfl) (resV_tmp (v := .int .i64 y3) rfl) (fun W2 hW2 => ⟨rfl, hW2.none⟩)
  · refine cx_false (congrArg Value.bool hp5) ?_
    refine cx_skip ?_
    refine ex_then ?_
    refine cx_seq ?_
    refine cx_draws 7 mixed (by kernel_rfl) (by kernel_rfl) ?_
    refine qx_y rfl (y_fieldAddr fo_52_0 rfl) ?_
    refine qx_y rfl (y_load1 0 (v := .int .i64 p0_b.fBarrows) sc_3 rfl rfl rfl) ?_
    refine qx_y rfl (y_fieldAddr fo_52_1 rfl) ?_
    refine qx_y rfl (y_loadN 0 [.int .i64 p0_b.fSeen.x0, .int .i64 p0_b.fSeen.x1, .int .i64 p0_b.fSeen.x2] ag_43 rfl rfl rfl) ?_
    obtain ⟨y6, hy7, h⟩ := bind_some h
    refine qx_y rfl (y_call [.agg #[.int .i64 p0_b.fSeen.x0, .int .i64 p0_b.fSeen.x1, .int .i64 p0_b.fSeen.x2]] go_96 rfl (fun W2 hW2 => calxref03_all_ok p0_b.fSeen y6 hy7 W2 ) rfl) ?_
    refine qx_y rfl (y_sub rfl rfl) ?_
    refine qx_y rfl (y_assign_int rfl) ?_
    refine qx_nil ?_
    refine ox_nil ?_
    refine ex_then ?_
    refine cx_seq ?_
    refine cx_seq ?_
    refine cx_region ?_
    refine ox_y rfl (y_move_int rfl) ?_
    refine ox_y rfl (y_eql rfl rfl) ?_
    refine ox_nil ?_
    refine ex_then ?_
    rcases ite_some h with ⟨hp8, h⟩ | ⟨hp8, h⟩
    · refine cx_true (congrArg Value.bool hp8) ?_
      refine cx_seq ?_
      refine cx_region ?_
      refine ox_y rfl (y_buildS [.int .i64 0, .int .i64 0] [(0, 1), (1, 1)] ust_23 ze_23 (by kernel_rfl)) ?_
      refine ox_n rfl (y_storeN 1 [.int .i64 0, .int .i64 0] sz_23 rfl (Nat.le_of_ble_eq_true rfl) rfl rfl rfl) ?_
      refine ox_y rfl (y_assign_int rfl) ?_
      refine ox_nil ?_
      refine ex_then ?_
      refine cx_ret ?_
      refine ex_then_ret ?_
      obtain rfl := Option.some.inj h
      exact ex_res2 (.inl rfl) rfl (resV_cellN 1 [.int .i64 0, .int .i64 0] ag_23 rfl rfl rfl) (resV_tmp (v := .int .i64 5) rfl) (fun W2 hW2 => ⟨rfl, hW2.none⟩)
    · refine cx_false (congrArg Value.bool hp8) ?_
      refine cx_skip ?_
      refine ex_then ?_
      refine cx_seq ?_
      refine cx_region ?_
      refine ox_y rfl (y_loadN 0 [.int .i64 p0_b.fBarrows, .int .i64 p0_b.fSeen.x0, .int .i64 p0_b.fSeen.x1, .int .i64 p0_b.fSeen.x2, .int .i64 p0_b.fKnown.x0.fLo, .int .i64 p0_b.fKnown.x0.fHi, .int .i64 p0_b.fKnown.x1.fLo, .int .i64 p0_b.fKnown.x1.fHi, .int .i64 p0_b.fKnown.x2.fLo, .int .i64 p0_b.fKnown.x2.fHi] ag_52 rfl rfl rfl) ?_
      refine ox_y rfl (y_move_int rfl) ?_
      obtain ⟨y9, hy10, h⟩ := bind_some h
      refine ox_call [.agg #[.int .i64 p0_b.fBarrows, .int .i64 p0_b.fSeen.x0, .int .i64 p0_b.fSeen.x1, .int .i64 p0_b.fSeen.x2, .int .i64 p0_b.fKnown.x0.fLo, .int .i64 p0_b.fKnown.x0.fHi, .int .i64 p0_b.fKnown.x1.fLo, .int .i64 p0_b.fKnown.x1.fHi, .int .i64 p0_b.fKnown.x2.fLo, .int .i64 p0_b.fKnown.x2.fHi], .int .i64 p1_sort] _ _ _ rfl go_110 rfl (fun W2 hW2 => calxref03_weights_ok p0_b p1_sort y9 hy10 W2 ) ?_
      rintro ⟨A11, n13, c12⟩ hn14
      replace hn14 : n13 = y9.length := hn14; subst hn14
      refine ox_y rfl (y_assign_slice rfl) ?_
      refine ox_nil ?_
      refine ex_then ?_
      refine cx_seq ?_
      refine cx_region ?_
      refine ox_y rfl (y_assign_int rfl) ?_
      refine ox_nil ?_
      refine ex_then ?_
      refine cx_seq ?_
      refine cx_seq ?_
      refine cx_region ?_
      refine ox_y rfl (y_assign_int rfl) ?_
      refine ox_nil ?_
      refine ex_then ?_
      refine cx_block ?_
      obtain ⟨u17, hl21, h⟩ := bind_some h
      refine cx_loop (fun (s : (Int × Int)) L tm => ∃ (tm0 : Nat → Value), L = [cellsR b1 52 [.int .i64 p0_b.fBarrows, .int .i64 p0_b.fSeen.x0, .int .i64 p0_b.fSeen.x1, .int .i64 p0_b.fSeen.x2, .int .i64 p0_b.fKnown.x0.fLo, .int .i64 p0_b.fKnown.x0.fHi, .int .i64 p0_b.fKnown.x1.fLo, .int .i64 p0_b.fKnown.x1.fHi, .int .i64 p0_b.fKnown.x2.fLo, .int .i64 p0_b.fKnown.x2.fHi], cellsR b2 23 [.int .i64 0, .int .i64 0], rowR A11 c12 3 1 y9.length (encL cI y9)] ∧ tm = (upd (upd (upd (upd (upd (upd (upd (upd (upd (upd (upd (upd tm0 0 (.agg #[.int .i64 p0_b.fBarrows, .int .i64 p0_b.fSeen.x0, .int .i64 p0_b.fSeen.x1, .int .i64 p0_b.fSeen.x2, .int .i64 p0_b.fKnown.x0.fLo, .int .i64 p0_b.fKnown.x0.fHi, .int .i64 p0_b.fKnown.x1.fLo, .int .i64 p0_b.fKnown.x1.fHi, .int .i64 p0_b.fKnown.x2.fLo, .int .i64 p0_b.fKnown.x2.fHi])) 1 (.int .i64 p1_sort)) 2 (.pointer (some ⟨b1, 0, none⟩))) 4 (.pointer (some ⟨b2, 0, none⟩))) 5 (.int .i64 0)) 6 (.int .i64 y3)) 15 (.bool (y3 != 0))) 7 (.int .i64 (w64 (p0_b.fBarrows - y6)))) 25 (.bool ((w64 (p0_b.fBarrows - y6)) == 0))) 8 (.slice A11 y9.length c12)) 9 (.int .i64 s.1)) 10 (.int .i64 s.2))) (fun s e L tm => e = .exit 0 ∧ ∃ (tm0 : Nat → Value), L = [cellsR b1 52 [.int .i64 p0_b.fBarrows, .int .i64 p0_b.fSeen.x0, .int .i64 p0_b.fSeen.x1, .int .i64 p0_b.fSeen.x2, .int .i64 p0_b.fKnown.x0.fLo, .int .i64 p0_b.fKnown.x0.fHi, .int .i64 p0_b.fKnown.x1.fLo, .int .i64 p0_b.fKnown.x1.fHi, .int .i64 p0_b.fKnown.x2.fLo, .int .i64 p0_b.fKnown.x2.fHi], cellsR b2 23 [.int .i64 0, .int .i64 0], rowR A11 c12 3 1 y9.length (encL cI y9)] ∧ tm = (upd (upd (upd (upd (upd (upd (upd (upd (upd (upd (upd (upd tm0 0 (.agg #[.int .i64 p0_b.fBarrows, .int .i64 p0_b.fSeen.x0, .int .i64 p0_b.fSeen.x1, .int .i64 p0_b.fSeen.x2, .int .i64 p0_b.fKnown.x0.fLo, .int .i64 p0_b.fKnown.x0.fHi, .int .i64 p0_b.fKnown.x1.fLo, .int .i64 p0_b.fKnown.x1.fHi, .int .i64 p0_b.fKnown.x2.fLo, .int .i64 p0_b.fKnown.x2.fHi])) 1 (.int .i64 p1_sort)) 2 (.pointer (some ⟨b1, 0, none⟩))) 4 (.pointer (some ⟨b2, 0, none⟩))) 5 (.int .i64 0)) 6 (.int .i64 y3)) 15 (.bool (y3 != 0))) 7 (.int .i64 (w64 (p0_b.fBarrows - y6)))) 25 (.bool ((w64 (p0_b.fBarrows - y6)) == 0))) 8 (.slice A11 y9.length c12)) 9 (.int .i64 s.1)) 10 (.int .i64 s.2))) hl21 ⟨_, rfl, (keep (keep (keep (keep (keep (keep (keep (keep (keep (keep (keep (keep rfl rfl) rfl) rfl) rfl) rfl) rfl) rfl) rfl) rfl) rfl) rfl) rfl)⟩ ?_ ?_
      · rintro s16 L tm st ⟨tm0_s16, rfl, rfl⟩ h
        unfold calxref03_Next_l1 at h
        refine cx_seq ?_
        refine cx_seq ?_
        refine cx_region ?_
        refine ox_y rfl (y_move_int rfl) ?_
        refine ox_y rfl (y_move_slice rfl) ?_
        refine ox_y rfl (y_len (us := []) us_66 rfl) ?_
        refine ox_y rfl (y_lss rfl rfl) ?_
        refine ox_nil ?_
        refine ex_then ?_
        rcases ite_some h with ⟨hp18, h⟩ | ⟨hp18, h⟩
        · refine cx_true (congrArg Value.bool hp18) ?_
          refine cx_skip ?_
          refine ex_then ?_
          refine cx_seq ?_
          refine cx_block ?_
          refine cx_draws 14 mixed (by kernel_rfl) (by kernel_rfl) ?_
          refine qx_y rfl (y_move_int rfl) ?_
          refine qx_y rfl (y_move_int rfl) ?_
          refine qx_y rfl (y_move_int rfl) ?_
          refine qx_y rfl (y_fieldAddr fo_52_1 rfl) ?_
          obtain ⟨hg19, h⟩ := guardO_some h
          refine qx_y rfl (y_indexArr ar_43 hg19.1 hg19.2 rfl rfl) ?_
          refine qx_y rfl (y_load1 0 (v := .int .i64 (sel3 p0_b.fSeen.x0 p0_b.fSeen.x1 p0_b.fSeen.x2 p1_sort)) sc_3 rfl rfl (by rcases in3 hg19 with e | e | e <;> rw [e] <;> rfl)) ?_
          refine qx_y rfl (y_sub rfl rfl) ?_
          refine qx_y rfl (y_move_slice rfl) ?_
          refine qx_y rfl (y_move_int rfl) ?_
          obtain ⟨hg20, h⟩ := guardO_some h
          refine qx_y rfl (y_indexR sl_66 (by decide) hg20.1 hg20.2 (RdL.row 2 rfl) (encL_len cI_len rfl) rfl rfl) ?_
          refine qx_y rfl (y_loadR1 (A := A11) (j := (Int.toNat s16.2 * 1)) (v := .int .i64 (rdL y9 s16.2)) sc_3 (RdL.row 2 rfl) rfl (encL_get0 cI_len hg20.1 (lt_nat hg20.2 rfl) rfl)) ?_
          refine qx_y rfl (y_mul rfl rfl) ?_
          refine qx_y rfl (y_add rfl rfl) ?_
          refine qx_y rfl (y_assign_int rfl) ?_
          refine qx_nil ?_
          refine ox_nil ?_
          refine ex_block ?_
          refine ex_then ?_
          refine cx_region ?_
          refine ox_y rfl (y_move_int rfl) ?_
          refine ox_y rfl (y_add rfl rfl) ?_
          refine ox_y rfl (y_assign_int rfl) ?_
          refine ox_nil ?_
          obtain rfl := Option.some.inj h
          exact ex_next ⟨_, rfl, (keep (keep (keep (keep (keep (keep (keep (keep (keep (keep (keep (keep rfl rfl) rfl) rfl) rfl) rfl) rfl) rfl) rfl) rfl) rfl) rfl) rfl)⟩
        · refine cx_false (congrArg Value.bool hp18) ?_
          refine cx_exit ?_
          refine ex_then_exit ?_
          obtain rfl := Option.some.inj h
          exact ex_stop ⟨rfl, _, rfl, (keep (keep (keep (keep (keep (keep (keep (keep (keep (keep (keep (keep rfl rfl) rfl) rfl) rfl) rfl) rfl) rfl) rfl) rfl) rfl) rfl) rfl)⟩
      · intro e L tm hJ
        obtain ⟨rfl, tm0_u17, rfl, rfl⟩ := hJ
        refine ⟨(by intro hc; cases hc), ?_⟩
        refine ex_block_here ?_
        refine ex_then ?_
        refine cx_seq ?_
        refine cx_region ?_
        refine ox_y rfl (y_move_int rfl) ?_
        refine ox_y rfl (y_move_int rfl) ?_
        refine ox_y rfl (y_move_slice rfl) ?_
        obtain ⟨y22, hy23, h⟩ := bind_some h
        refine ox_y rfl (y_call [.slice A11 y9.length c12] go_111 rfl (fun W2 hW2 => calxref03_total_ok y9 y22 hy23 W2 A11 y9.length c12 rfl ((RdL.row 2 rfl) W2 hW2)) rfl) ?_
        refine ox_y rfl (y_mul rfl rfl) ?_
        obtain ⟨y24, hy25, h⟩ := bind_some h
        refine ox_y rfl (y_call [.int .i64 u17.1, .int .i64 (w64 ((w64 (p0_b.fBarrows - y6)) * y22))] go_97 rfl (fun W2 hW2 => calxref03_ratio_ok u17.1 (w64 ((w64 (p0_b.fBarrows - y6)) * y22)) y24 hy25 W2 ) rfl) ?_
        refine ox_n rfl (y_storeN 1 [.int .i64 y24.fNum, .int .i64 y24.fDen] sz_23 rfl (Nat.le_of_ble_eq_true rfl) rfl rfl rfl) ?_
        refine ox_y rfl (y_assign_int rfl) ?_
        refine ox_nil ?_
        refine ex_then ?_
        refine cx_ret ?_
        obtain rfl := Option.some.inj h
        exact ex_res2 (.inl rfl) rfl (resV_cellN 1 [.int .i64 y24.fNum, .int .i64 y24.fDen] ag_23 rfl rfl rfl) (resV_tmp (v := .int .i64 0) rfl) (fun W2 hW2 => ⟨rfl, hW2.none⟩)

/-! calx/calxlaw03.SampleBelief -/
set_option maxRecDepth 100000 in
theorem calxlaw03_SampleBelief_ok (p0 : TBatch) (p1 : Int) (p2 : TSpan) (res : Bool) (h : calxlaw03_SampleBelief p0 p1 p2 = some res) (W : World)  :
    Calls Try.prog 12 [.agg #[.int .i64 p0.fBarrows, .int .i64 p0.fSeen.x0, .int .i64 p0.fSeen.x1, .int .i64 p0.fSeen.x2, .int .i64 p0.fKnown.x0.fLo, .int .i64 p0.fKnown.x0.fHi, .int .i64 p0.fKnown.x1.fLo, .int .i64 p0.fKnown.x1.fHi, .int .i64 p0.fKnown.x2.fLo, .int .i64 p0.fKnown.x2.fHi], .int .i64 p1, .agg #[.int .i64 p2.fLo, .int .i64 p2.fHi]].toArray W fun e W2 => e = .returned (.bool res) ∧ Ext W W2 [] := by
  unfold calxlaw03_SampleBelief at h
  refine calls_enter (m := 116) Try.func12 rfl rfl (Nat.le_of_ble_eq_true rfl) ?_
  refine cx_seq ?_
  refine cx_region ?_
  refine ox_box [.int .i64 p0.fBarrows, .int .i64 p0.fSeen.x0, .int .i64 p0.fSeen.x1, .int .i64 p0.fSeen.x2, .int .i64 p0.fKnown.x0.fLo, .int .i64 p0.fKnown.x0.fHi, .int .i64 p0.fKnown.x1.fLo, .int .i64 p0.fKnown.x1.fHi, .int .i64 p0.fKnown.x2.fLo, .int .i64 p0.fKnown.x2.fHi] rfl rfl rfl (fun b1 => ?_)
  refine ox_box [.int .i64 p2.fLo, .int .i64 p2.fHi] rfl rfl rfl (fun b2 => ?_)
  refine ox_y rfl (y_assign_bool rfl) ?_
  refine ox_nil ?_
  refine ex_then ?_
  refine cx_seq ?_
  refine cx_region ?_
  obtain ⟨y3, hy4, h⟩ := bind_some h
  refine ox_y rfl (y_call [] go_22 rfl (fun W2 hW2 => calxlaw03_head_ok  y3 hy4 W2 ) rfl) ?_
  refine ox_y rfl (y_assign_bool rfl) ?_
  refine ox_nil ?_
  refine ex_then ?_
  refine cx_seq ?_
  refine cx_region ?_
  refine ox_y rfl (y_loadN 0 [.int .i64 p0.fBarrows, .int .i64 p0.fSeen.x0, .int .i64 p0.fSeen.x1, .int .i64 p0.fSeen.x2, .int .i64 p0.fKnown.x0.fLo, .int .i64 p0.fKnown.x0.fHi, .int .i64 p0.fKnown.x1.fLo, .int .i64 p0.fKnown.x1.fHi, .int .i64 p0.fKnown.x2.fLo, .int .i64 p0.fKnown.x2.fHi] ag_52 rfl rfl rfl) ?_
  refine ox_y rfl (y_move_int rfl) ?_
  obtain ⟨y5, hy6, h⟩ := bind_some h
  refine ox_call [.agg #[.int .i64 p0.fBarrows, .int .i64 p0.fSeen.x0, .int .i64 p0.fSeen.x1, .int .i64 p0.fSeen.x2, .int .i64 p0.fKnown.x0.fLo, .int .i64 p0.fKnown.x0.fHi, .int .i64 p0.fKnown.x1.fLo, .int .i64 p0.fKnown.x1.fHi, .int .i64 p0.fKnown.x2.fLo, .int .i64 p0.fKnown.x2.fHi], .int .i64 p1] _ _ _ rfl go_42 rfl (fun W2 hW2 => sample_Weights_ok p0 p1 y5 hy6 W2 ) ?_
  rintro ⟨A7, n9, c8⟩ hn10
  replace hn10 : n9 = y5.1.length := hn10; subst hn10
  refine ox_y rfl (y_move_tuple rfl) ?_
  refine ox_y rfl (y_extract (vs := [.slice A7 y5.1.length c8, .int .i64 y5.2]) (v := .slice A7 y5.1.length c8) rfl rfl) ?_
  refine ox_y rfl (y_extract (vs := [.slice A7 y5.1.length c8, .int .i64 y5.2]) (v := .int .i64 y5.2) rfl rfl) ?_
  refine ox_y rfl (y_assign_slice rfl) ?_
  refine ox_y rfl (y_assign_int rfl) ?_
  refine ox_nil ?_
  refine ex_then ?_
  refine cx_seq ?_
  refine cx_region ?_
  refine ox_y rfl (y_loadN 0 [.int .i64 p0.fBarrows, .int .i64 p0.fSeen.x0, .int .i64 p0.fSeen.x1, .int .i64 p0.fSeen.x2, .int .i64 p0.fKnown.x0.fLo, .int .i64 p0.fKnown.x0.fHi, .int .i64 p0.fKnown.x1.fLo, .int .i64 p0.fKnown.x1.fHi, .int .i64 p0.fKnown.x2.fLo, .int .i64 p0.fKnown.x2.fHi] ag_52 rfl rfl rfl) ?_
  refine ox_y rfl (y_move_int rfl) ?_
  obtain ⟨y11, hy12, h⟩ := bind_some h
  refine ox_call [.agg #[.int .i64 p0.fBarrows, .int .i64 p0.fSeen.x0, .int .i64 p0.fSeen.x1, .int .i64 p0.fSeen.x2, .int .i64 p0.fKnown.x0.fLo, .int .i64 p0.fKnown.x0.fHi, .int .i64 p0.fKnown.x1.fLo, .int .i64 p0.fKnown.x1.fHi, .int .i64 p0.fKnown.x2.fLo, .int .i64 p0.fKnown.x2.fHi], .int .i64 p1] _ _ _ rfl go_48 rfl (fun W2 hW2 => calxref03_Weights_ok p0 p1 y11 hy12 W2 ) ?_
  rintro ⟨A13, n15, c14⟩ hn16
  replace hn16 : n15 = y11.fL.length := hn16; subst hn16
  refine ox_alloc ze_76 rfl (fun b17 => ?_)
  refine ox_n rfl (y_storeN 4 [.slice A13 y11.fL.length c14, .int .i64 y11.fE] sz_76 rfl (Nat.le_of_ble_eq_true rfl) rfl rfl rfl) ?_
  refine ox_nil ?_
  refine ex_then ?_
  refine cx_seq ?_
  refine cx_region ?_
  refine ox_y rfl (y_loadN 0 [.int .i64 p0.fBarrows, .int .i64 p0.fSeen.x0, .int .i64 p0.fSeen.x1, .int .i64 p0.fSeen.x2, .int .i64 p0.fKnown.x0.fLo, .int .i64 p0.fKnown.x0.fHi, .int .i64 p0.fKnown.x1.fLo, .int .i64 p0.fKnown.x1.fHi, .int .i64 p0.fKnown.x2.fLo, .int .i64 p0.fKnown.x2.fHi] ag_52 rfl rfl rfl) ?_
  refine ox_y rfl (y_move_int rfl) ?_
  refine ox_y rfl (y_loadN 1 [.int .i64 p2.fLo, .int .i64 p2.fHi] ag_33 rfl rfl rfl) ?_
  obtain ⟨y18, hy19, h⟩ := bind_some h
  refine ox_y rfl (y_call [.agg #[.int .i64 p0.fBarrows, .int .i64 p0.fSeen.x0, .int .i64 p0.fSeen.x1, .int .i64 p0.fSeen.x2, .int .i64 p0.fKnown.x0.fLo, .int .i64 p0.fKnown.x0.fHi, .int .i64 p0.fKnown.x1.fLo, .int .i64 p0.fKnown.x1.fHi, .int .i64 p0.fKnown.x2.fLo, .int .i64 p0.fKnown.x2.fHi], .int .i64 p1, .agg #[.int .i64 p2.fLo, .int .i64 p2.fHi]] go_49 rfl (fun W2 hW2 => sample_Believed_ok p0 p1 p2 y18 hy19 W2 ) rfl) ?_
  refine ox_y rfl (y_move_tuple rfl) ?_
  refine ox_y rfl (y_extract (vs := [.agg #[.int .i64 y18.1.fNum, .int .i64 y18.1.fDen], .int .i64 y18.2]) (v := .agg #[.int .i64 y18.1.fNum, .int .i64 y18.1.fDen]) rfl rfl) ?_
  refine ox_y rfl (y_extract (vs := [.agg #[.int .i64 y18.1.fNum, .int .i64 y18.1.fDen], .int .i64 y18.2]) (v := .int .i64 y18.2) rfl rfl) ?_
  refine ox_alloc ze_23 rfl (fun b20 => ?_)
  try dsimp only [List.nil_append, List.cons_append, List.set_cons_zero, List.set_cons_succ]
  refine ox_n rfl (y_storeN 5 [.int .i64 y18.1.fNum, .int .i64 y18.1.fDen] sz_23 rfl (Nat.le_of_ble_eq_true rfl) rfl rfl rfl) ?_
  refine ox_y rfl (y_assign_int rfl) ?_
  refine ox_nil ?_
  refine ex_then ?_
  refine cx_seq ?_
  refine cx_region ?_
  refine ox_y rfl (y_loadN 0 [.int .i64 p0.fBarrows, .int .i64 p0.fSeen.x0, .int .i64 p0.fSeen.x1, .int .i64 p0.fSeen.x2, .int .i64 p0.fKnown.x0.fLo, .int .i64 p0.fKnown.x0.fHi, .int .i64 p0.fKnown.x1.fLo, .int .i64 p0.fKnown.x1.fHi, .int .i64 p0.fKnown.x2.fLo, .int .i64 p0.fKnown.x2.fHi] ag_52 rfl rfl rfl) ?_
  refine ox_y rfl (y_move_int rfl) ?_
  refine ox_y rfl (y_loadN 1 [.int .i64 p2.fLo, .int .i64 p2.fHi] ag_33 rfl rfl rfl) ?_
  obtain ⟨y21, hy22, h⟩ := bind_some h
  refine ox_y rfl (y_call [.agg #[.int .i64 p0.fBarrows, .int .i64 p0.fSeen.x0, .int .i64 p0.fSeen.x1, .int .i64 p0.fSeen.x2, .int .i64 p0.fKnown.x0.fLo, .int .i64 p0.fKnown.x0.fHi, .int .i64 p0.fKnown.x1.fLo, .int .i64 p0.fKnown.x1.fHi, .int .i64 p0.fKnown.x2.fLo, .int .i64 p0.fKnown.x2.fHi], .int .i64 p1, .agg #[.int .i64 p2.fLo, .int .i64 p2.fHi]] go_50 rfl (fun W2 hW2 => calxref03_Believed_ok p0 p1 p2 y21 hy22 W2 ) rfl) ?_
  refine ox_y rfl (y_move_tuple rfl) ?_
  refine ox_y rfl (y_extract (vs := [.agg #[.int .i64 y21.1.fNum, .int .i64 y21.1.fDen], .int .i64 y21.2]) (v := .agg #[.int .i64 y21.1.fNum, .int .i64 y21.1.fDen]) rfl rfl) ?_
  refine ox_y rfl (y_extract (vs := [.agg #[.int .i64 y21.1.fNum, .int .i64 y21.1.fDen], .int .i64 y21.2]) (v := .int .i64 y21.2) rfl rfl) ?_
  refine ox_alloc ze_23 rfl (fun b23 => ?_)
  try dsimp only [List.nil_append, List.cons_append, List.set_cons_zero, List.set_cons_succ]
  refine ox_n rfl (y_storeN 6 [.int .i64 y21.1.fNum, .int .i64 y21.1.fDen] sz_23 rfl (Nat.le_of_ble_eq_true rfl) rfl rfl rfl) ?_
  refine ox_y rfl (y_assign_int rfl) ?_
  refine ox_nil ?_
  refine ex_then ?_
  refine cx_seq ?_
  refine cx_region ?_
  refine ox_y rfl (y_loadN 0 [.int .i64 p0.fBarrows, .int .i64 p0.fSeen.x0, .int .i64 p0.fSeen.x1, .int .i64 p0.fSeen.x2, .int .i64 p0.fKnown.x0.fLo, .int .i64 p0.fKnown.x0.fHi, .int .i64 p0.fKnown.x1.fLo, .int .i64 p0.fKnown.x1.fHi, .int .i64 p0.fKnown.x2.fLo, .int .i64 p0.fKnown.x2.fHi] ag_52 rfl rfl rfl) ?_
  refine ox_y rfl (y_move_int rfl) ?_
  obtain ⟨y24, hy25, h⟩ := bind_some h
  refine ox_y rfl (y_call [.agg #[.int .i64 p0.fBarrows, .int .i64 p0.fSeen.x0, .int .i64 p0.fSeen.x1, .int .i64 p0.fSeen.x2, .int .i64 p0.fKnown.x0.fLo, .int .i64 p0.fKnown.x0.fHi, .int .i64 p0.fKnown.x1.fLo, .int .i64 p0.fKnown.x1.fHi, .int .i64 p0.fKnown.x2.fLo, .int .i64 p0.fKnown.x2.fHi], .int .i64 p1] go_41 rfl (fun W2 hW2 => sample_Mean_ok p0 p1 y24 hy25 W2 ) rfl) ?_
  refine ox_y rfl (y_move_tuple rfl) ?_
  refine ox_y rfl (y_extract (vs := [.agg #[.int .i64 y24.1.fNum, .int .i64 y24.1.fDen], .int .i64 y24.2]) (v := .agg #[.int .i64 y24.1.fNum, .int .i64 y24.1.fDen]) rfl rfl) ?_
  refine ox_y rfl (y_extract (vs := [.agg #[.int .i64 y24.1.fNum, .int .i64 y24.1.fDen], .int .i64 y24.2]) (v := .int .i64 y24.2) rfl rfl) ?_
  refine ox_alloc ze_23 rfl (fun b26 => ?_)
  try dsimp only [List.nil_append, List.cons_append, List.set_cons_zero, List.set_cons_succ]
  refine ox_n rfl (y_storeN 7 [.int .i64 y24.1.fNum, .int .i64 y24.1.fDen] sz_23 rfl (Nat.le_of_ble_eq_true rfl) rfl rfl rfl) ?_
  refine ox_y rfl (y_assign_int rfl) ?_
  refine ox_nil ?_
  refine ex_then ?_
  refine cx_seq ?_
  refine cx_region ?_
  refine ox_y rfl (y_loadN 0 [.int .i64 p0.fBarrows, .int .i64 p0.fSeen.x0, .int .i64 p0.fSeen.x1, .int .i64 p0.fSeen.x2, .int .i64 p0.fKnown.x0.fLo, .int .i64 p0.fKnown.x0.fHi, .int .i64 p0.fKnown.x1.fLo, .int .i64 p0.fKnown.x1.fHi, .int .i64 p0.fKnown.x2.fLo, .int .i64 p0.fKnown.x2.fHi] ag_52 rfl rfl rfl) ?_
  refine ox_y rfl (y_move_int rfl) ?_
  obtain ⟨y27, hy28, h⟩ := bind_some h
  refine ox_y rfl (y_call [.agg #[.int .i64 p0.fBarrows, .int .i64 p0.fSeen.x0, .int .i64 p0.fSeen.x1, .int .i64 p0.fSeen.x2, .int .i64 p0.fKnown.x0.fLo, .int .i64 p0.fKnown.x0.fHi, .int .i64 p0.fKnown.x1.fLo, .int .i64 p0.fKnown.x1.fHi, .int .i64 p0.fKnown.x2.fLo, .int .i64 p0.fKnown.x2.fHi], .int .i64 p1] go_51 rfl (fun W2 hW2 => calxref03_Mean_ok p0 p1 y27 hy28 W2 ) rfl) ?_
  refine ox_y rfl (y_move_tuple rfl) ?_
  refine ox_y rfl (y_extract (vs := [.agg #[.int .i64 y27.1.fNum, .int .i64 y27.1.fDen], .int .i64 y27.2]) (v := .agg #[.int .i64 y27.1.fNum, .int .i64 y27.1.fDen]) rfl rfl) ?_
  refine ox_y rfl (y_extract (vs := [.agg #[.int .i64 y27.1.fNum, .int .i64 y27.1.fDen], .int .i64 y27.2]) (v := .int .i64 y27.2) rfl rfl) ?_
  refine ox_alloc ze_23 rfl (fun b29 => ?_)
  try dsimp only [List.nil_append, List.cons_append, List.set_cons_zero, List.set_cons_succ]
  refine ox_n rfl (y_storeN 8 [.int .i64 y27.1.fNum, .int .i64 y27.1.fDen] sz_23 rfl (Nat.le_of_ble_eq_true rfl) rfl rfl rfl) ?_
  refine ox_y rfl (y_assign_int rfl) ?_
  refine ox_nil ?_
  refine ex_then ?_
  refine cx_seq ?_
  refine cx_region ?_
  refine ox_y rfl (y_loadN 0 [.int .i64 p0.fBarrows, .int .i64 p0.fSeen.x0, .int .i64 p0.fSeen.x1, .int .i64 p0.fSeen.x2, .int .i64 p0.fKnown.x0.fLo, .int .i64 p0.fKnown.x0.fHi, .int .i64 p0.fKnown.x1.fLo, .int .i64 p0.fKnown.x1.fHi, .int .i64 p0.fKnown.x2.fLo, .int .i64 p0.fKnown.x2.fHi] ag_52 rfl rfl rfl) ?_
  refine ox_y rfl (y_move_int rfl) ?_
  obtain ⟨y30, hy31, h⟩ := bind_some h
  refine ox_y rfl (y_call [.agg #[.int .i64 p0.fBarrows, .int .i64 p0.fSeen.x0, .int .i64 p0.fSeen.x1, .int .i64 p0.fSeen.x2, .int .i64 p0.fKnown.x0.fLo, .int .i64 p0.fKnown.x0.fHi, .int .i64 p0.fKnown.x1.fLo, .int .i64 p0.fKnown.x1.fHi, .int .i64 p0.fKnown.x2.fLo, .int .i64 p0.fKnown.x2.fHi], .int .i64 p1] go_43 rfl (fun W2 hW2 => sample_Next_ok p0 p1 y30 hy31 W2 ) rfl) ?_
  refine ox_y rfl (y_move_tuple rfl) ?_
  refine ox_y rfl (y_extract (vs := [.agg #[.int .i64 y30.1.fNum, .int .i64 y30.1.fDen], .int .i64 y30.2]) (v := .agg #[.int .i64 y30.1.fNum, .int .i64 y30.1.fDen]) rfl rfl) ?_
  refine ox_y rfl (y_extract (vs := [.agg #[.int .i64 y30.1.fNum, .int .i64 y30.1.fDen], .int .i64 y30.2]) (v := .int .i64 y30.2) rfl rfl) ?_
  refine ox_alloc ze_23 rfl (fun b32 => ?_)
  try dsimp only [List.nil_append, List.cons_append, List.set_cons_zero, List.set_cons_succ]
  refine ox_n rfl (y_storeN 9 [.int .i64 y30.1.fNum, .int .i64 y30.1.fDen] sz_23 rfl (Nat.le_of_ble_eq_true rfl) rfl rfl rfl) ?_
  refine ox_y rfl (y_assign_int rfl) ?_
  refine ox_nil ?_
  refine ex_then ?_
  refine cx_seq ?_
  refine cx_region ?_
  refine ox_y rfl (y_loadN 0 [.int .i64 p0.fBarrows, .int .i64 p0.fSeen.x0, .int .i64 p0.fSeen.x1, .int .i64 p0.fSeen.x2, .int .i64 p0.fKnown.x0.fLo, .int .i64 p0.fKnown.x0.fHi, .int .i64 p0.fKnown.x1.fLo, .int .i64 p0.fKnown.x1.fHi, .int .i64 p0.fKnown.x2.fLo, .int .i64 p0.fKnown.x2.fHi] ag_52 rfl rfl rfl) ?_
  refine ox_y rfl (y_move_int rfl) ?_
  obtain ⟨y33, hy34, h⟩ := bind_some h
  refine ox_y rfl (y_call [.agg #[.int .i64 p0.fBarrows, .int .i64 p0.fSeen.x0, .int .i64 p0.fSeen.x1, .int .i64 p0.fSeen.x2, .int .i64 p0.fKnown.x0.fLo, .int .i64 p0.fKnown.x0.fHi, .int .i64 p0.fKnown.x1.fLo, .int .i64 p0.fKnown.x1.fHi, .int .i64 p0.fKnown.x2.fLo, .int .i64 p0.fKnown.x2.fHi], .int .i64 p1] go_52 rfl (fun W2 hW2 => calxref03_Next_ok p0 p1 y33 hy34 W2 ) rfl) ?_
  refine ox_y rfl (y_move_tuple rfl) ?_
  refine ox_y rfl (y_extract (vs := [.agg #[.int .i64 y33.1.fNum, .int .i64 y33.1.fDen], .int .i64 y33.2]) (v := .agg #[.int .i64 y33.1.fNum, .int .i64 y33.1.fDen]) rfl rfl) ?_
  refine ox_y rfl (y_extract (vs := [.agg #[.int .i64 y33.1.fNum, .int .i64 y33.1.fDen], .int .i64 y33.2]) (v := .int .i64 y33.2) rfl rfl) ?_
  refine ox_alloc ze_23 rfl (fun b35 => ?_)
  try dsimp only [List.nil_append, List.cons_append, List.set_cons_zero, List.set_cons_succ]
  refine ox_n rfl (y_storeN 10 [.int .i64 y33.1.fNum, .int .i64 y33.1.fDen] sz_23 rfl (Nat.le_of_ble_eq_true rfl) rfl rfl rfl) ?_
  refine ox_y rfl (y_assign_int rfl) ?_
  refine ox_nil ?_
  refine ex_then ?_
  refine cx_seq ?_
  refine cx_region ?_
  refine ox_y rfl (y_move_slice rfl) ?_
  refine ox_y rfl (y_fieldAddr fo_76_0 rfl) ?_
  refine ox_y rfl (y_load1 4 (v := .slice A13 y11.fL.length c14) sc_66 rfl rfl rfl) ?_
  obtain ⟨y36, hy37, h⟩ := bind_some h
  refine ox_y rfl (y_call [.slice A7 y5.1.length c8, .slice A13 y11.fL.length c14] go_53 rfl (fun W2 hW2 => calxref03_SameInts_ok y5.1 y11.fL y36 hy37 W2 A7 y5.1.length c8 rfl ((RdL.row 2 rfl) W2 hW2) A13 y11.fL.length c14 rfl ((RdL.row 3 rfl) W2 hW2)) rfl) ?_
  refine ox_y rfl (y_assign_bool rfl) ?_
  refine ox_nil ?_
  refine ex_then ?_
  refine cx_seq ?_
  refine cx_region ?_
  refine ox_y rfl (y_move_bool rfl) ?_
  refine ox_y rfl (y_move_bool rfl) ?_
  refine ox_join 2 (fun tm0 => (upd (upd (upd (upd (upd (upd (upd (upd (upd (upd (upd (upd (upd (upd (upd (upd (upd (upd (upd (upd (upd (upd (upd (upd tm0 0 (.agg #[.int .i64 p0.fBarrows, .int .i64 p0.fSeen.x0, .int .i64 p0.fSeen.x1, .int .i64 p0.fSeen.x2, .int .i64 p0.fKnown.x0.fLo, .int .i64 p0.fKnown.x0.fHi, .int .i64 p0.fKnown.x1.fLo, .int .i64 p0.fKnown.x1.fHi, .int .i64 p0.fKnown.x2.fLo, .int .i64 p0.fKnown.x2.fHi])) 1 (.int .i64 p1)) 2 (.agg #[.int .i64 p2.fLo, .int .i64 p2.fHi])) 3 (.pointer (some ⟨b1, 0, none⟩))) 5 (.pointer (some ⟨b2, 0, none⟩))) 6 (.bool false)) 7 (.bool y3)) 8 (.slice A7 y5.1.length c8)) 9 (.int .i64 y5.2)) 10 (.pointer (some ⟨b17, 0, none⟩))) 11 (.pointer (some ⟨b20, 0, none⟩))) 12 (.int .i64 y18.2)) 13 (.pointer (some ⟨b23, 0, none⟩))) 14 (.int .i64 y21.2)) 15 (.pointer (some ⟨b26, 0, none⟩))) 16 (.int .i64 y24.2)) 17 (.pointer (some ⟨b29, 0, none⟩))) 18 (.int .i64 y27.2)) 19 (.pointer (some ⟨b32, 0, none⟩))) 20 (.int .i64 y30.2)) 21 (.pointer (some ⟨b35, 0, none⟩))) 22 (.int .i64 y33.2)) 23 (.bool y36)) 79 (.bool (y3 && y36)))) (fun tm0 => ?_) (fun key => ?_)
  · refine ox_y rfl (y_move_bool rfl) ?_
    refine ox_join 5 (fun tm0 => (upd (upd (upd (upd (upd (upd (upd (upd (upd (upd (upd (upd (upd (upd (upd (upd (upd (upd (upd (upd (upd (upd (upd (upd tm0 0 (.agg #[.int .i64 p0.fBarrows, .int .i64 p0.fSeen.x0, .int .i64 p0.fSeen.x1, .int .i64 p0.fSeen.x2, .int .i64 p0.fKnown.x0.fLo, .int .i64 p0.fKnown.x0.fHi, .int .i64 p0.fKnown.x1.fLo, .int .i64 p0.fKnown.x1.fHi, .int .i64 p0.fKnown.x2.fLo, .int .i64 p0.fKnown.x2.fHi])) 1 (.int .i64 p1)) 2 (.agg #[.int .i64 p2.fLo, .int .i64 p2.fHi])) 3 (.pointer (some ⟨b1, 0, none⟩))) 5 (.pointer (some ⟨b2, 0, none⟩))) 6 (.bool false)) 7 (.bool y3)) 8 (.slice A7 y5.1.length c8)) 9 (.int .i64 y5.2)) 10 (.pointer (some ⟨b17, 0, none⟩))) 11 (.pointer (some ⟨b20, 0, none⟩))) 12 (.int .i64 y18.2)) 13 (.pointer (some ⟨b23, 0, none⟩))) 14 (.int .i64 y21.2)) 15 (.pointer (some ⟨b26, 0, none⟩))) 16 (.int .i64 y24.2)) 17 (.pointer (some ⟨b29, 0, none⟩))) 18 (.int .i64 y27.2)) 19 (.pointer (some ⟨b32, 0, none⟩))) 20 (.int .i64 y30.2)) 21 (.pointer (some ⟨b35, 0, none⟩))) 22 (.int .i64 y33.2)) 23 (.bool y36)) 85 (.bool ((y3 && y36) && (y5.2 == y11.fE))))) (fun tm0 => ?_) (fun key => ?_)
    · refine ox_y rfl (y_move_bool rfl) ?_
      refine ox_join 4 (fun tm0 => (upd (upd (upd (upd (upd (upd (upd (upd (upd (upd (upd (upd (upd (upd (upd (upd (upd (upd (upd (upd (upd (upd (upd (upd tm0 0 (.agg #[.int .i64 p0.fBarrows, .int .i64 p0.fSeen.x0, .int .i64 p0.fSeen.x1, .int .i64 p0.fSeen.x2, .int .i64 p0.fKnown.x0.fLo, .int .i64 p0.fKnown.x0.fHi, .int .i64 p0.fKnown.x1.fLo, .int .i64 p0.fKnown.x1.fHi, .int .i64 p0.fKnown.x2.fLo, .int .i64 p0.fKnown.x2.fHi])) 1 (.int .i64 p1)) 2 (.agg #[.int .i64 p2.fLo, .int .i64 p2.fHi])) 3 (.pointer (some ⟨b1, 0, none⟩))) 5 (.pointer (some ⟨b2, 0, none⟩))) 6 (.bool false)) 7 (.bool y3)) 8 (.slice A7 y5.1.length c8)) 9 (.int .i64 y5.2)) 10 (.pointer (some ⟨b17, 0, none⟩))) 11 (.pointer (some ⟨b20, 0, none⟩))) 12 (.int .i64 y18.2)) 13 (.pointer (some ⟨b23, 0, none⟩))) 14 (.int .i64 y21.2)) 15 (.pointer (some ⟨b26, 0, none⟩))) 16 (.int .i64 y24.2)) 17 (.pointer (some ⟨b29, 0, none⟩))) 18 (.int .i64 y27.2)) 19 (.pointer (some ⟨b32, 0, none⟩))) 20 (.int .i64 y30.2)) 21 (.pointer (some ⟨b35, 0, none⟩))) 22 (.int .i64 y33.2)) 23 (.bool y36)) 90 (.bool (((y3 && y36) && (y5.2 == y11.fE)) && ((y18.1.fNum == y21.1.fNum) && (y18.1.fDen == y21.1.fDen)))))) (fun tm0 => ?_) (fun key => ?_)
      · refine ox_y rfl (y_move_bool rfl) ?_
        refine ox_join 4 (fun tm0 => (upd (upd (upd (upd (upd (upd (upd (upd (upd (upd (upd (upd (upd (upd (upd (upd (upd (upd (upd (upd (upd (upd (upd (upd tm0 0 (.agg #[.int .i64 p0.fBarrows, .int .i64 p0.fSeen.x0, .int .i64 p0.fSeen.x1, .int .i64 p0.fSeen.x2, .int .i64 p0.fKnown.x0.fLo, .int .i64 p0.fKnown.x0.fHi, .int .i64 p0.fKnown.x1.fLo, .int .i64 p0.fKnown.x1.fHi, .int .i64 p0.fKnown.x2.fLo, .int .i64 p0.fKnown.x2.fHi])) 1 (.int .i64 p1)) 2 (.agg #[.int .i64 p2.fLo, .int .i64 p2.fHi])) 3 (.pointer (some ⟨b1, 0, none⟩))) 5 (.pointer (some ⟨b2, 0, none⟩))) 6 (.bool false)) 7 (.bool y3)) 8 (.slice A7 y5.1.length c8)) 9 (.int .i64 y5.2)) 10 (.pointer (some ⟨b17, 0, none⟩))) 11 (.pointer (some ⟨b20, 0, none⟩))) 12 (.int .i64 y18.2)) 13 (.pointer (some ⟨b23, 0, none⟩))) 14 (.int .i64 y21.2)) 15 (.pointer (some ⟨b26, 0, none⟩))) 16 (.int .i64 y24.2)) 17 (.pointer (some ⟨b29, 0, none⟩))) 18 (.int .i64 y27.2)) 19 (.pointer (some ⟨b32, 0, none⟩))) 20 (.int .i64 y30.2)) 21 (.pointer (some ⟨b35, 0, none⟩))) 22 (.int .i64 y33.2)) 23 (.bool y36)) 95 (.bool ((((y3 && y36) && (y5.2 == y11.fE)) && ((y18.1.fNum == y21.1.fNum) && (y18.1.fDen == y21.1.fDen))) && (y18.2 == y21.2))))) (fun tm0 => ?_) (fun key => ?_)
        · refine ox_y rfl (y_move_bool rfl) ?_
          refine ox_join 4 (fun tm0 => (upd (upd (upd (upd (upd (upd (upd (upd (upd (upd (upd (upd (upd (upd (upd (upd (upd (upd (upd (upd (upd (upd (upd (upd tm0 0 (.agg #[.int .i64 p0.fBarrows, .int .i64 p0.fSeen.x0, .int .i64 p0.fSeen.x1, .int .i64 p0.fSeen.x2, .int .i64 p0.fKnown.x0.fLo, .int .i64 p0.fKnown.x0.fHi, .int .i64 p0.fKnown.x1.fLo, .int .i64 p0.fKnown.x1.fHi, .int .i64 p0.fKnown.x2.fLo, .int .i64 p0.fKnown.x2.fHi])) 1 (.int .i64 p1)) 2 (.agg #[.int .i64 p2.fLo, .int .i64 p2.fHi])) 3 (.pointer (some ⟨b1, 0, none⟩))) 5 (.pointer (some ⟨b2, 0, none⟩))) 6 (.bool false)) 7 (.bool y3)) 8 (.slice A7 y5.1.length c8)) 9 (.int .i64 y5.2)) 10 (.pointer (some ⟨b17, 0, none⟩))) 11 (.pointer (some ⟨b20, 0, none⟩))) 12 (.int .i64 y18.2)) 13 (.pointer (some ⟨b23, 0, none⟩))) 14 (.int .i64 y21.2)) 15 (.pointer (some ⟨b26, 0, none⟩))) 16 (.int .i64 y24.2)) 17 (.pointer (some ⟨b29, 0, none⟩))) 18 (.int .i64 y27.2)) 19 (.pointer (some ⟨b32, 0, none⟩))) 20 (.int .i64 y30.2)) 21 (.pointer (some ⟨b35, 0, none⟩))) 22 (.int .i64 y33.2)) 23 (.bool y36)) 100 (.bool (((((y3 && y36) && (y5.2 == y11.fE)) && ((y18.1.fNum == y21.1.fNum) && (y18.1.fDen == y21.1.fDen))) && (y18.2 == y21.2)) && ((y24.1.fNum == y27.1.fNum) && (y24.1.fDen == y27.1.fDen)))))) (fun tm0 => ?_) (fun key => ?_)
          · refine ox_y rfl (y_move_bool rfl) ?_
            refine ox_join 4 (fun tm0 => (upd (upd (upd (upd (upd (upd (upd (upd (upd (upd (upd (upd (upd (upd (upd (upd (upd (upd (upd (upd (upd (upd (upd (upd tm0 0 (.agg #[.int .i64 p0.fBarrows, .int .i64 p0.fSeen.x0, .int .i64 p0.fSeen.x1, .int .i64 p0.fSeen.x2, .int .i64 p0.fKnown.x0.fLo, .int .i64 p0.fKnown.x0.fHi, .int .i64 p0.fKnown.x1.fLo, .int .i64 p0.fKnown.x1.fHi, .int .i64 p0.fKnown.x2.fLo, .int .i64 p0.fKnown.x2.fHi])) 1 (.int .i64 p1)) 2 (.agg #[.int .i64 p2.fLo, .int .i64 p2.fHi])) 3 (.pointer (some ⟨b1, 0, none⟩))) 5 (.pointer (some ⟨b2, 0, none⟩))) 6 (.bool false)) 7 (.bool y3)) 8 (.slice A7 y5.1.length c8)) 9 (.int .i64 y5.2)) 10 (.pointer (some ⟨b17, 0, none⟩))) 11 (.pointer (some ⟨b20, 0, none⟩))) 12 (.int .i64 y18.2)) 13 (.pointer (some ⟨b23, 0, none⟩))) 14 (.int .i64 y21.2)) 15 (.pointer (some ⟨b26, 0, none⟩))) 16 (.int .i64 y24.2)) 17 (.pointer (some ⟨b29, 0, none⟩))) 18 (.int .i64 y27.2)) 19 (.pointer (some ⟨b32, 0, none⟩))) 20 (.int .i64 y30.2)) 21 (.pointer (some ⟨b35, 0, none⟩))) 22 (.int .i64 y33.2)) 23 (.bool y36)) 105 (.bool ((((((y3 && y36) && (y5.2 == y11.fE)) && ((y18.1.fNum == y21.1.fNum) && (y18.1.fDen == y21.1.fDen))) && (y18.2 == y21.2)) && ((y24.1.fNum == y27.1.fNum) && (y24.1.fDen == y27.1.fDen))) && (y24.2 == y27.2))))) (fun tm0 => ?_) (fun key => ?_)
            · refine ox_y rfl (y_move_bool rfl) ?_
              refine ox_join 4 (fun tm0 => (upd (upd (upd (upd (upd (upd (upd (upd (upd (upd (upd (upd (upd (upd (upd (upd (upd (upd (upd (upd (upd (upd (upd (upd tm0 0 (.agg #[.int .i64 p0.fBarrows, .int .i64 p0.fSeen.x0, .int .i64 p0.fSeen.x1, .int .i64 p0.fSeen.x2, .int .i64 p0.fKnown.x0.fLo, .int .i64 p0.fKnown.x0.fHi, .int .i64 p0.fKnown.x1.fLo, .int .i64 p0.fKnown.x1.fHi, .int .i64 p0.fKnown.x2.fLo, .int .i64 p0.fKnown.x2.fHi])) 1 (.int .i64 p1)) 2 (.agg #[.int .i64 p2.fLo, .int .i64 p2.fHi])) 3 (.pointer (some ⟨b1, 0, none⟩))) 5 (.pointer (some ⟨b2, 0, none⟩))) 6 (.bool false)) 7 (.bool y3)) 8 (.slice A7 y5.1.length c8)) 9 (.int .i64 y5.2)) 10 (.pointer (some ⟨b17, 0, none⟩))) 11 (.pointer (some ⟨b20, 0, none⟩))) 12 (.int .i64 y18.2)) 13 (.pointer (some ⟨b23, 0, none⟩))) 14 (.int .i64 y21.2)) 15 (.pointer (some ⟨b26, 0, none⟩))) 16 (.int .i64 y24.2)) 17 (.pointer (some ⟨b29, 0, none⟩))) 18 (.int .i64 y27.2)) 19 (.pointer (some ⟨b32, 0, none⟩))) 20 (.int .i64 y30.2)) 21 (.pointer (some ⟨b35, 0, none⟩))) 22 (.int .i64 y33.2)) 23 (.bool y36)) 110 (.bool (((((((y3 && y36) && (y5.2 == y11.fE)) && ((y18.1.fNum == y21.1.fNum) && (y18.1.fDen == y21.1.fDen))) && (y18.2 == y21.2)) && ((y24.1.fNum == y27.1.fNum) && (y24.1.fDen == y27.1.fDen))) && (y24.2 == y27.2)) && ((y30.1.fNum == y33.1.fNum) && (y30.1.fDen == y33.1.fDen)))))) (fun tm0 => ?_) (fun key => ?_)
              · refine ox_y rfl (y_move_bool rfl) ?_
                refine ox_join 4 (fun tm0 => (upd (upd (upd (upd (upd (upd (upd (upd (upd (upd (upd (upd (upd (upd (upd (upd (upd (upd (upd (upd (upd (upd (upd (upd tm0 0 (.agg #[.int .i64 p0.fBarrows, .int .i64 p0.fSeen.x0, .int .i64 p0.fSeen.x1, .int .i64 p0.fSeen.x2, .int .i64 p0.fKnown.x0.fLo, .int .i64 p0.fKnown.x0.fHi, .int .i64 p0.fKnown.x1.fLo, .int .i64 p0.fKnown.x1.fHi, .int .i64 p0.fKnown.x2.fLo, .int .i64 p0.fKnown.x2.fHi])) 1 (.int .i64 p1)) 2 (.agg #[.int .i64 p2.fLo, .int .i64 p2.fHi])) 3 (.pointer (some ⟨b1, 0, none⟩))) 5 (.pointer (some ⟨b2, 0, none⟩))) 6 (.bool false)) 7 (.bool y3)) 8 (.slice A7 y5.1.length c8)) 9 (.int .i64 y5.2)) 10 (.pointer (some ⟨b17, 0, none⟩))) 11 (.pointer (some ⟨b20, 0, none⟩))) 12 (.int .i64 y18.2)) 13 (.pointer (some ⟨b23, 0, none⟩))) 14 (.int .i64 y21.2)) 15 (.pointer (some ⟨b26, 0, none⟩))) 16 (.int .i64 y24.2)) 17 (.pointer (some ⟨b29, 0, none⟩))) 18 (.int .i64 y27.2)) 19 (.pointer (some ⟨b32, 0, none⟩))) 20 (.int .i64 y30.2)) 21 (.pointer (some ⟨b35, 0, none⟩))) 22 (.int .i64 y33.2)) 23 (.bool y36)) 115 (.bool ((((((((y3 && y36) && (y5.2 == y11.fE)) && ((y18.1.fNum == y21.1.fNum) && (y18.1.fDen == y21.1.fDen))) && (y18.2 == y21.2)) && ((y24.1.fNum == y27.1.fNum) && (y24.1.fDen == y27.1.fDen))) && (y24.2 == y27.2)) && ((y30.1.fNum == y33.1.fNum) && (y30.1.fDen == y33.1.fDen))) && (y30.2 == y33.2))))) (fun tm0 => ?_) (fun key => ?_)
                · refine ox_y rfl (y_assign_bool rfl) ?_
                  refine ox_nil ?_
                  refine ex_then ?_
                  refine cx_ret ?_
                  obtain rfl := Option.some.inj h
                  exact ex_res1 (.inl rfl) rfl (resV_tmp (v := .bool ((((((((y3 && y36) && (y5.2 == y11.fE)) && ((y18.1.fNum == y21.1.fNum) && (y18.1.fDen == y21.1.fDen))) && (y18.2 == y21.2)) && ((y24.1.fNum == y27.1.fNum) && (y24.1.fDen == y27.1.fDen))) && (y24.2 == y27.2)) && ((y30.1.fNum == y33.1.fNum) && (y30.1.fDen == y33.1.fDen))) && (y30.2 == y33.2))) rfl) (fun W2 hW2 => ⟨rfl, hW2.none⟩)
                · rcases bool_cases (((((((y3 && y36) && (y5.2 == y11.fE)) && ((y18.1.fNum == y21.1.fNum) && (y18.1.fDen == y21.1.fDen))) && (y18.2 == y21.2)) && ((y24.1.fNum == y27.1.fNum) && (y24.1.fDen == y27.1.fDen))) && (y24.2 == y27.2)) && ((y30.1.fNum == y33.1.fNum) && (y30.1.fDen == y33.1.fDen))) with hp45 | hp45
                  · refine ox_y (sees_t rfl rfl rfl rfl hp45) (y_move_int rfl) ?_
                    refine ox_y (sees_t rfl rfl rfl rfl hp45) (y_move_int rfl) ?_
                    refine ox_y (sees_t rfl rfl rfl rfl hp45) (y_eql rfl rfl) ?_
                    refine ox_y rfl (y_pick_tb (congrArg Value.bool hp45) rfl) ?_
                    exact key _ _ (keep (keep (keep (keep (keep (keep (keep (keep (keep (keep (keep (keep (keep (keep (keep (keep (keep (keep (keep (keep (keep (keep (keep (keep rfl rfl) rfl) rfl) rfl) rfl) rfl) rfl) rfl) rfl) rfl) rfl) rfl) rfl) rfl) rfl) rfl) rfl) rfl) rfl) rfl) rfl) rfl) rfl) (congrArg Value.bool (and_t hp45)))
                  · refine ox_skip (sees_f rfl rfl rfl rfl hp45) ?_
                    refine ox_skip (sees_f rfl rfl rfl rfl hp45) ?_
                    refine ox_skip (sees_f rfl rfl rfl rfl hp45) ?_
                    refine ox_y rfl (y_pick_fb (congrArg Value.bool hp45) rfl) ?_
                    exact key _ _ (keep (keep (keep (keep (keep (keep (keep (keep (keep (keep (keep (keep (keep (keep (keep (keep (keep (keep (keep (keep (keep (keep (keep (keep rfl rfl) rfl) rfl) rfl) rfl) rfl) rfl) rfl) rfl) rfl) rfl) rfl) rfl) rfl) rfl) rfl) rfl) rfl) rfl) rfl) rfl) rfl) rfl) (congrArg Value.bool (and_f hp45)))
              · rcases bool_cases ((((((y3 && y36) && (y5.2 == y11.fE)) && ((y18.1.fNum == y21.1.fNum) && (y18.1.fDen == y21.1.fDen))) && (y18.2 == y21.2)) && ((y24.1.fNum == y27.1.fNum) && (y24.1.fDen == y27.1.fDen))) && (y24.2 == y27.2)) with hp44 | hp44
                · refine ox_y (sees_t rfl rfl rfl rfl hp44) (y_loadN 9 [.int .i64 y30.1.fNum, .int .i64 y30.1.fDen] ag_23 rfl rfl rfl) ?_
                  refine ox_y (sees_t rfl rfl rfl rfl hp44) (y_loadN 10 [.int .i64 y33.1.fNum, .int .i64 y33.1.fDen] ag_23 rfl rfl rfl) ?_
                  refine ox_y (sees_t rfl rfl rfl rfl hp44) (y_eqla (b := ((y30.1.fNum == y33.1.fNum) && (y30.1.fDen == y33.1.fDen))) eg_23 rfl rfl (fun _ => (eqS2 fl_23 (part1 sc_3 rfl) (part1 sc_3 rfl) (part1 sc_3 rfl) (part1 sc_3 rfl) (run_equalIn_int _ _ _ _ _ _ _ ui_3) (run_equalIn_int _ _ _ _ _ _ _ ui_3)))) ?_
                  refine ox_y rfl (y_pick_tb (congrArg Value.bool hp44) rfl) ?_
                  exact key _ _ (keep (keep (keep (keep (keep (keep (keep (keep (keep (keep (keep (keep (keep (keep (keep (keep (keep (keep (keep (keep (keep (keep (keep (keep rfl rfl) rfl) rfl) rfl) rfl) rfl) rfl) rfl) rfl) rfl) rfl) rfl) rfl) rfl) rfl) rfl) rfl) rfl) rfl) rfl) rfl) rfl) rfl) (congrArg Value.bool (and_t hp44)))
                · refine ox_skip (sees_f rfl rfl rfl rfl hp44) ?_
                  refine ox_skip (sees_f rfl rfl rfl rfl hp44) ?_
                  refine ox_skip (sees_f rfl rfl rfl rfl hp44) ?_
                  refine ox_y rfl (y_pick_fb (congrArg Value.bool hp44) rfl) ?_
                  exact key _ _ (keep (keep (keep (keep (keep (keep (keep (keep (keep (keep (keep (keep (keep (keep (keep (keep (keep (keep (keep (keep (keep (keep (keep (keep rfl rfl) rfl) rfl) rfl) rfl) rfl) rfl) rfl) rfl) rfl) rfl) rfl) rfl) rfl) rfl) rfl) rfl) rfl) rfl) rfl) rfl) rfl) rfl) (congrArg Value.bool (and_f hp44)))
            · rcases bool_cases (((((y3 && y36) && (y5.2 == y11.fE)) && ((y18.1.fNum == y21.1.fNum) && (y18.1.fDen == y21.1.fDen))) && (y18.2 == y21.2)) && ((y24.1.fNum == y27.1.fNum) && (y24.1.fDen == y27.1.fDen))) with hp43 | hp43
              · refine ox_y (sees_t rfl rfl rfl rfl hp43) (y_move_int rfl) ?_
                refine ox_y (sees_t rfl rfl rfl rfl hp43) (y_move_int rfl) ?_
                refine ox_y (sees_t rfl rfl rfl rfl hp43) (y_eql rfl rfl) ?_
                refine ox_y rfl (y_pick_tb (congrArg Value.bool hp43) rfl) ?_
                exact key _ _ (keep (keep (keep (keep (keep (keep (keep (keep (keep (keep (keep (keep (keep (keep (keep (keep (keep (keep (keep (keep (keep (keep (keep (keep rfl rfl) rfl) rfl) rfl) rfl) rfl) rfl) rfl) rfl) rfl) rfl) rfl) rfl) rfl) rfl) rfl) rfl) rfl) rfl) rfl) rfl) rfl) rfl) (congrArg Value.bool (and_t hp43)))
              · refine ox_skip (sees_f rfl rfl rfl rfl hp43) ?_
                refine ox_skip (sees_f rfl rfl rfl rfl hp43) ?_
                refine ox_skip (sees_f rfl rfl rfl rfl hp43) ?_
                refine ox_y rfl (y_pick_fb (congrArg Value.bool hp43) rfl) ?_
                exact key _ _ (keep (keep (keep (keep (keep (keep (keep (keep (keep (keep (keep (keep (keep (keep (keep (keep (keep (keep (keep (keep (keep (keep (keep (keep rfl rfl) rfl) rfl) rfl) rfl) rfl) rfl) rfl) rfl) rfl) rfl) rfl) rfl) rfl) rfl) rfl) rfl) rfl) rfl) rfl) rfl) rfl) rfl) (congrArg Value.bool (and_f hp43)))
          · rcases bool_cases ((((y3 && y36) && (y5.2 == y11.fE)) && ((y18.1.fNum == y21.1.fNum) && (y18.1.fDen == y21.1.fDen))) && (y18.2 == y21.2)) with hp42 | hp42
            · refine ox_y (sees_t rfl rfl rfl rfl hp42) (y_loadN 7 [.int .i64 y24.1.fNum, .int .i64 y24.1.fDen] ag_23 rfl rfl rfl) ?_
              refine ox_y (sees_t rfl rfl rfl rfl hp42) (y_loadN 8 [.int .i64 y27.1.fNum, .int .i64 y27.1.fDen] ag_23 rfl rfl rfl) ?_
              refine ox_y (sees_t rfl rfl rfl rfl hp42) (y_eqla (b := ((y24.1.fNum == y27.1.fNum) && (y24.1.fDen == y27.1.fDen))) eg_23 rfl rfl (fun _ => (eqS2 fl_23 (part1 sc_3 rfl) (part1 sc_3 rfl) (part1 sc_3 rfl) (part1 sc_3 rfl) (run_equalIn_int _ _ _ _ _ _ _ ui_3) (run_equalIn_int _ _ _ _ _ _ _ ui_3)))) ?_
              refine ox_y rfl (y_pick_tb (congrArg Value.bool hp42) rfl) ?_
              exact key _ _ (keep (keep (keep (keep (keep (keep (keep (keep (keep (keep (keep (keep (keep (keep (keep (keep (keep (keep (keep (keep (keep (keep (keep (keep rfl rfl) rfl) rfl) rfl) rfl) rfl) rfl) rfl) rfl) rfl) rfl) rfl) rfl) rfl) rfl) rfl) rfl) rfl) rfl) rfl) rfl) rfl) rfl) (congrArg Value.bool (and_t hp42)))
            · refine ox_skip (sees_f rfl rfl rfl rfl hp42) ?_
              refine ox_skip (sees_f rfl rfl rfl rfl hp42) ?_
              refine ox_skip (sees_f rfl rfl rfl rfl hp42) ?_
              refine ox_y rfl (y_pick_fb (congrArg Value.bool hp42) rfl) ?_
              exact key _ _ (keep (keep (keep (keep (keep (keep (keep (keep (keep (keep (keep (keep (keep (keep (keep (keep (keep (keep (keep (keep (keep (keep (keep (keep rfl rfl) rfl) rfl) rfl) rfl) rfl) rfl) rfl) rfl) rfl) rfl) rfl) rfl) rfl) rfl) rfl) rfl) rfl) rfl) rfl) rfl) rfl) rfl) (congrArg Value.bool (and_f hp42)))
        · rcases bool_cases (((y3 && y36) && (y5.2 == y11.fE)) && ((y18.1.fNum == y21.1.fNum) && (y18.1.fDen == y21.1.fDen))) with hp41 | hp41
          · refine ox_y (sees_t rfl rfl rfl rfl hp41) (y_move_int rfl) ?_
            refine ox_y (sees_t rfl rfl rfl rfl hp41) (y_move_int rfl) ?_
            refine ox_y (sees_t rfl rfl rfl rfl hp41) (y_eql rfl rfl) ?_
            refine ox_y rfl (y_pick_tb (congrArg Value.bool hp41) rfl) ?_
            exact key _ _ (keep (keep (keep (keep (keep (keep (keep (keep (keep (keep (keep (keep (keep (keep (keep (keep (keep (keep (keep (keep (keep (keep (keep (keep rfl rfl) rfl) rfl) rfl) rfl) rfl) rfl) rfl) rfl) rfl) rfl) rfl) rfl) rfl) rfl) rfl) rfl) rfl) rfl) rfl) rfl) rfl) rfl) (congrArg Value.bool (and_t hp41)))
          · refine ox_skip (sees_f rfl rfl rfl rfl hp41) ?_
            refine ox_skip (sees_f rfl rfl rfl rfl hp41) ?_
            refine ox_skip (sees_f rfl rfl rfl rfl hp41) ?_
            refine ox_y rfl (y_pick_fb (congrArg Value.bool hp41) rfl) ?_
            exact key _ _ (keep (keep (keep (keep (keep (keep (keep (keep (keep (keep (keep (keep (keep (keep (keep (keep (keep (keep (keep (keep (keep (keep (keep (keep rfl rfl) rfl) rfl) rfl) rfl) rfl) rfl) rfl) rfl) rfl) rfl) rfl) rfl) rfl) rfl) rfl) rfl) rfl) rfl) rfl) rfl) rfl) rfl) (congrArg Value.bool (and_f hp41)))
      · rcases bool_cases ((y3 && y36) && (y5.2 == y11.fE)) with hp40 | hp40
        · refine ox_y (sees_t rfl rfl rfl rfl hp40) (y_loadN 5 [.int .i64 y18.1.fNum, .int .i64 y18.1.fDen] ag_23 rfl rfl rfl) ?_
          refine ox_y (sees_t rfl rfl rfl rfl hp40) (y_loadN 6 [.int .i64 y21.1.fNum, .int .i64 y21.1.fDen] ag_23 rfl rfl rfl) ?_
          refine ox_y (sees_t rfl rfl rfl rfl hp40) (y_eqla (b := ((y18.1.fNum == y21.1.fNum) && (y18.1.fDen == y21.1.fDen))) eg_23 rfl rfl (fun _ => (eqS2 fl_23 (part1 sc_3 rfl) (part1 sc_3 rfl) (part1 sc_3 rfl) (part1 sc_3 rfl) (run_equalIn_int _ _ _ _ _ _ _ ui_3) (run_equalIn_int _ _ _ _ _ _ _ ui_3)))) ?_
          refine ox_y rfl (y_pick_tb (congrArg Value.bool hp40) rfl) ?_
          exact key _ _ (keep (keep (keep (keep (keep (keep (keep (keep (keep (keep (keep (keep (keep (keep (keep (keep (keep (keep (keep (keep (keep (keep (keep (keep rfl rfl) rfl) rfl) rfl) rfl) rfl) rfl) rfl) rfl) rfl) rfl) rfl) rfl) rfl) rfl) rfl) rfl) rfl) rfl) rfl) rfl) rfl) rfl) (congrArg Value.bool (and_t hp40)))
        · refine ox_skip (sees_f rfl rfl rfl rfl hp40) ?_
          refine ox_skip (sees_f rfl rfl rfl rfl hp40) ?_
          refine ox_skip (sees_f rfl rfl rfl rfl hp40) ?_
          refine ox_y rfl (y_pick_fb (congrArg Value.bool hp40) rfl) ?_
          exact key _ _ (keep (keep (keep (keep (keep (keep (keep (keep (keep (keep (keep (keep (keep (keep (keep (keep (keep (keep (keep (keep (keep (keep (keep (keep rfl rfl) rfl) rfl) rfl) rfl) rfl) rfl) rfl) rfl) rfl) rfl) rfl) rfl) rfl) rfl) rfl) rfl) rfl) rfl) rfl) rfl) rfl) rfl) (congrArg Value.bool (and_f hp40)))
    · rcases bool_cases (y3 && y36) with hp39 | hp39
      · refine ox_y (sees_t rfl rfl rfl rfl hp39) (y_move_int rfl) ?_
        refine ox_y (sees_t rfl rfl rfl rfl hp39) (y_fieldAddr fo_76_1 rfl) ?_
        refine ox_y (sees_t rfl rfl rfl rfl hp39) (y_load1 4 (v := .int .i64 y11.fE) sc_27 rfl rfl rfl) ?_
        refine ox_y (sees_t rfl rfl rfl rfl hp39) (y_eql rfl rfl) ?_
        refine ox_y rfl (y_pick_tb (congrArg Value.bool hp39) rfl) ?_
        exact key _ _ (keep (keep (keep (keep (keep (keep (keep (keep (keep (keep (keep (keep (keep (keep (keep (keep (keep (keep (keep (keep (keep (keep (keep (keep rfl rfl) rfl) rfl) rfl) rfl) rfl) rfl) rfl) rfl) rfl) rfl) rfl) rfl) rfl) rfl) rfl) rfl) rfl) rfl) rfl) rfl) rfl) rfl) (congrArg Value.bool (and_t hp39)))
      · refine ox_skip (sees_f rfl rfl rfl rfl hp39) ?_
        refine ox_skip (sees_f rfl rfl rfl rfl hp39) ?_
        refine ox_skip (sees_f rfl rfl rfl rfl hp39) ?_
        refine ox_skip (sees_f rfl rfl rfl rfl hp39) ?_
        refine ox_y rfl (y_pick_fb (congrArg Value.bool hp39) rfl) ?_
        exact key _ _ (keep (keep (keep (keep (keep (keep (keep (keep (keep (keep (keep (keep (keep (keep (keep (keep (keep (keep (keep (keep (keep (keep (keep (keep rfl rfl) rfl) rfl) rfl) rfl) rfl) rfl) rfl) rfl) rfl) rfl) rfl) rfl) rfl) rfl) rfl) rfl) rfl) rfl) rfl) rfl) rfl) rfl) (congrArg Value.bool (and_f hp39)))
  · rcases bool_cases y3 with hp38 | hp38
    · refine ox_y (sees_t rfl rfl rfl rfl hp38) (y_move_bool rfl) ?_
      refine ox_y rfl (y_pick_tb (congrArg Value.bool hp38) rfl) ?_
      exact key _ _ (keep (keep (keep (keep (keep (keep (keep (keep (keep (keep (keep (keep (keep (keep (keep (keep (keep (keep (keep (keep (keep (keep (keep (keep rfl rfl) rfl) rfl) rfl) rfl) rfl) rfl) rfl) rfl) rfl) rfl) rfl) rfl) rfl) rfl) rfl) rfl) rfl) rfl) rfl) rfl) rfl) rfl) (congrArg Value.bool (and_t hp38)))
    · refine ox_skip (sees_f rfl rfl rfl rfl hp38) ?_
      refine ox_y rfl (y_pick_fb (congrArg Value.bool hp38) rfl) ?_
      exact key _ _ (keep (keep (keep (keep (keep (keep (keep (keep (keep (keep (keep (keep (keep (keep (keep (keep (keep (keep (keep (keep (keep (keep (keep (keep rfl rfl) rfl) rfl) rfl) rfl) rfl) rfl) rfl) rfl) rfl) rfl) rfl) rfl) rfl) rfl) rfl) rfl) rfl) rfl) rfl) rfl) rfl) rfl) (congrArg Value.bool (and_f hp38)))

end Go.Proofs.Ytepfgdfahinpkaa
