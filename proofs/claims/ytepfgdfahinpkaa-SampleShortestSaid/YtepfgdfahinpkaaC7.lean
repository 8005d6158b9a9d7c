/- The calls hand back what the plain functions say. -/
import Derived.Test.YtepfgdfahinpkaaF
import Derived.Test.YtepfgdfahinpkaaC4
import Derived.Test.YtepfgdfahinpkaaC6
set_option linter.unusedVariables false
set_option maxHeartbeats 4000000
namespace Go.Proofs.Ytepfgdfahinpkaa
open Go.RowKit (Below)
attribute [local irreducible] OX QX CX EX OpY Calls CallsIn

/-! calx/calxref03.wholes -/
set_option maxRecDepth 100000 in
theorem calxref03_wholes_ok (p0 : TBatch) (res : (List TKinds)) (h : calxref03_wholes p0 = some res) (W : World)  :
    Calls Try.prog 100 [.agg #[.int .i64 p0.fBarrows, .int .i64 p0.fSeen.x0, .int .i64 p0.fSeen.x1, .int .i64 p0.fSeen.x2, .int .i64 p0.fKnown.x0.fLo, .int .i64 p0.fKnown.x0.fHi, .int .i64 p0.fKnown.x1.fLo, .int .i64 p0.fKnown.x1.fHi, .int .i64 p0.fKnown.x2.fLo, .int .i64 p0.fKnown.x2.fHi]].toArray W fun e W2 => ∃ x : Option Addr × Nat × Nat, x.2.1 = res.length ∧ e = .returned (.slice x.1 x.2.1 x.2.2) ∧ Ext W W2 [rowR x.1 x.2.2 43 3 x.2.1 (encL TKinds_cells res)] := by
  unfold calxref03_wholes at h
  refine calls_enter (m := 69) Try.func100 rfl rfl (Nat.le_of_ble_eq_true rfl) ?_
  refine cx_seq ?_
  refine cx_region ?_
  refine ox_box [.int .i64 p0.fBarrows, .int .i64 p0.fSeen.x0, .int .i64 p0.fSeen.x1, .int .i64 p0.fSeen.x2, .int .i64 p0.fKnown.x0.fLo, .int .i64 p0.fKnown.x0.fHi, .int .i64 p0.fKnown.x1.fLo, .int .i64 p0.fKnown.x1.fHi, .int .i64 p0.fKnown.x2.fLo, .int .i64 p0.fKnown.x2.fHi] rfl rfl rfl (fun b1 => ?_)
  refine ox_y rfl (y_assign_slice rfl) ?_
  refine ox_nil ?_
  refine ex_then ?_
  refine cx_seq ?_
  refine cx_region ?_
  refine ox_y rfl (y_assign_slice rfl) ?_
  refine ox_nil ?_
  refine ex_then ?_
  refine cx_seq ?_
  refine cx_seq ?_
  refine cx_region ?_
  refine ox_y rfl (y_assign_int rfl) ?_
  refine ox_nil ?_
  refine ex_then ?_
  refine cx_block ?_
  obtain ⟨u5, hl37, h⟩ := bind_some h
  refine cx_nilrow 43 3 ?_
  refine cx_loop (fun (s : (Int × (List TKinds))) L tm => ∃ (tm0 : Nat → Value) (A1_s : Option Addr) (c1_s : Nat) (n1_s : Nat), n1_s = s.2.length ∧ L = [cellsR b1 52 [.int .i64 p0.fBarrows, .int .i64 p0.fSeen.x0, .int .i64 p0.fSeen.x1, .int .i64 p0.fSeen.x2, .int .i64 p0.fKnown.x0.fLo, .int .i64 p0.fKnown.x0.fHi, .int .i64 p0.fKnown.x1.fLo, .int .i64 p0.fKnown.x1.fHi, .int .i64 p0.fKnown.x2.fLo, .int .i64 p0.fKnown.x2.fHi], rowR A1_s c1_s 43 3 n1_s (encL TKinds_cells s.2)] ∧ tm = (upd (upd (upd (upd (upd tm0 0 (.agg #[.int .i64 p0.fBarrows, .int .i64 p0.fSeen.x0, .int .i64 p0.fSeen.x1, .int .i64 p0.fSeen.x2, .int .i64 p0.fKnown.x0.fLo, .int .i64 p0.fKnown.x0.fHi, .int .i64 p0.fKnown.x1.fLo, .int .i64 p0.fKnown.x1.fHi, .int .i64 p0.fKnown.x2.fLo, .int .i64 p0.fKnown.x2.fHi])) 1 (.pointer (some ⟨b1, 0, none⟩))) 2 (.slice none 0 0)) 3 (.slice A1_s n1_s c1_s)) 4 (.int .i64 s.1))) (fun s e L tm => e = .exit 0 ∧ ∃ (tm0 : Nat → Value) (A1_s : Option Addr) (c1_s : Nat) (n1_s : Nat), n1_s = s.2.length ∧ L = [cellsR b1 52 [.int .i64 p0.fBarrows, .int .i64 p0.fSeen.x0, .int .i64 p0.fSeen.x1, .int .i64 p0.fSeen.x2, .int .i64 p0.fKnown.x0.fLo, .int .i64 p0.fKnown.x0.fHi, .int .i64 p0.fKnown.x1.fLo, .int .i64 p0.fKnown.x1.fHi, .int .i64 p0.fKnown.x2.fLo, .int .i64 p0.fKnown.x2.fHi], rowR A1_s c1_s 43 3 n1_s (encL TKinds_cells s.2)] ∧ tm = (upd (upd (upd (upd (upd tm0 0 (.agg #[.int .i64 p0.fBarrows, .int .i64 p0.fSeen.x0, .int .i64 p0.fSeen.x1, .int .i64 p0.fSeen.x2, .int .i64 p0.fKnown.x0.fLo, .int .i64 p0.fKnown.x0.fHi, .int .i64 p0.fKnown.x1.fLo, .int .i64 p0.fKnown.x1.fHi, .int .i64 p0.fKnown.x2.fLo, .int .i64 p0.fKnown.x2.fHi])) 1 (.pointer (some ⟨b1, 0, none⟩))) 2 (.slice none 0 0)) 3 (.slice A1_s n1_s c1_s)) 4 (.int .i64 s.1))) hl37 ⟨_, none, 0, 0, rfl, rfl, (keep (keep (keep (keep (keep rfl rfl) rfl) rfl) rfl) rfl)⟩ ?_ ?_
  · rintro s4 L tm st ⟨tm0_s4, A1_s4, c1_s4, n1_s4, rfl, rfl, rfl⟩ h
    unfold calxref03_wholes_l1 at h
    refine cx_seq ?_
    refine cx_seq ?_
    refine cx_region ?_
    refine ox_y rfl (y_move_int rfl) ?_
    refine ox_y rfl (y_fieldAddr fo_52_0 rfl) ?_
    refine ox_y rfl (y_load1 0 (v := .int .i64 p0.fBarrows) sc_3 rfl rfl rfl) ?_
    refine ox_y rfl (y_leq rfl rfl) ?_
    refine ox_nil ?_
    refine ex_then ?_
    rcases ite_some h with ⟨hp6, h⟩ | ⟨hp6, h⟩
    · refine cx_true (congrArg Value.bool hp6) ?_
      refine cx_skip ?_
      refine ex_then ?_
      refine cx_seq ?_
      refine cx_block ?_
      refine cx_seq ?_
      refine cx_region ?_
      refine ox_y rfl (y_assign_int rfl) ?_
      refine ox_nil ?_
      refine ex_then ?_
      refine cx_block ?_
      obtain ⟨u10, hl36, h⟩ := bind_some h
      refine cx_loop (fun (s : (Int × (List TKinds))) L tm => ∃ (tm0 : Nat → Value) (A1_s : Option Addr) (c1_s : Nat) (n1_s : Nat), n1_s = s.2.length ∧ L = [cellsR b1 52 [.int .i64 p0.fBarrows, .int .i64 p0.fSeen.x0, .int .i64 p0.fSeen.x1, .int .i64 p0.fSeen.x2, .int .i64 p0.fKnown.x0.fLo, .int .i64 p0.fKnown.x0.fHi, .int .i64 p0.fKnown.x1.fLo, .int .i64 p0.fKnown.x1.fHi, .int .i64 p0.fKnown.x2.fLo, .int .i64 p0.fKnown.x2.fHi], rowR A1_s c1_s 43 3 n1_s (encL TKinds_cells s.2)] ∧ tm = (upd (upd (upd (upd (upd (upd (upd tm0 0 (.agg #[.int .i64 p0.fBarrows, .int .i64 p0.fSeen.x0, .int .i64 p0.fSeen.x1, .int .i64 p0.fSeen.x2, .int .i64 p0.fKnown.x0.fLo, .int .i64 p0.fKnown.x0.fHi, .int .i64 p0.fKnown.x1.fLo, .int .i64 p0.fKnown.x1.fHi, .int .i64 p0.fKnown.x2.fLo, .int .i64 p0.fKnown.x2.fHi])) 1 (.pointer (some ⟨b1, 0, none⟩))) 2 (.slice none 0 0)) 3 (.slice A1_s n1_s c1_s)) 4 (.int .i64 s4.1)) 12 (.bool (decide (s4.1 ≤ p0.fBarrows)))) 5 (.int .i64 s.1))) (fun s e L tm => e = .exit 2 ∧ ∃ (tm0 : Nat → Value) (A1_s : Option Addr) (c1_s : Nat) (n1_s : Nat), n1_s = s.2.length ∧ L = [cellsR b1 52 [.int .i64 p0.fBarrows, .int .i64 p0.fSeen.x0, .int .i64 p0.fSeen.x1, .int .i64 p0.fSeen.x2, .int .i64 p0.fKnown.x0.fLo, .int .i64 p0.fKnown.x0.fHi, .int .i64 p0.fKnown.x1.fLo, .int .i64 p0.fKnown.x1.fHi, .int .i64 p0.fKnown.x2.fLo, .int .i64 p0.fKnown.x2.fHi], rowR A1_s c1_s 43 3 n1_s (encL TKinds_cells s.2)] ∧ tm = (upd (upd (upd (upd (upd (upd (upd tm0 0 (.agg #[.int .i64 p0.fBarrows, .int .i64 p0.fSeen.x0, .int .i64 p0.fSeen.x1, .int .i64 p0.fSeen.x2, .int .i64 p0.fKnown.x0.fLo, .int .i64 p0.fKnown.x0.fHi, .int .i64 p0.fKnown.x1.fLo, .int .i64 p0.fKnown.x1.fHi, .int .i64 p0.fKnown.x2.fLo, .int .i64 p0.fKnown.x2.fHi])) 1 (.pointer (some ⟨b1, 0, none⟩))) 2 (.slice none 0 0)) 3 (.slice A1_s n1_s c1_s)) 4 (.int .i64 s4.1)) 12 (.bool (decide (s4.1 ≤ p0.fBarrows)))) 5 (.int .i64 s.1))) hl36 ⟨_, A1_s4, c1_s4, s4.2.length, rfl, rfl, (keep (keep (keep (keep (keep (keep (keep rfl rfl) rfl) rfl) rfl) rfl) rfl) rfl)⟩ ?_ ?_
      · rintro s9 L tm st ⟨tm0_s9, A1_s9, c1_s9, n1_s9, rfl, rfl, rfl⟩ h
        unfold calxref03_wholes_l2 at h
        refine cx_seq ?_
        refine cx_seq ?_
        refine cx_region ?_
        refine ox_y rfl (y_move_int rfl) ?_
        refine ox_y rfl (y_move_int rfl) ?_
        refine ox_y rfl (y_add rfl rfl) ?_
        refine ox_y rfl (y_fieldAddr fo_52_0 rfl) ?_
        refine ox_y rfl (y_load1 0 (v := .int .i64 p0.fBarrows) sc_3 rfl rfl rfl) ?_
        refine ox_y rfl (y_leq rfl rfl) ?_
        refine ox_nil ?_
        refine ex_then ?_
        rcases ite_some h with ⟨hp11, h⟩ | ⟨hp11, h⟩
        · refine cx_true (congrArg Value.bool hp11) ?_
          refine cx_skip ?_
          refine ex_then ?_
          refine cx_seq ?_
          refine cx_block ?_
          refine cx_seq ?_
          refine cx_region ?_
          refine ox_y rfl (y_move_int rfl) ?_
          refine ox_y rfl (y_move_int rfl) ?_
          refine ox_y rfl (y_fieldAddr fo_52_0 rfl) ?_
          refine ox_y rfl (y_load1 0 (v := .int .i64 p0.fBarrows) sc_3 rfl rfl rfl) ?_
          refine ox_y rfl (y_move_int rfl) ?_
          refine ox_y rfl (y_sub rfl rfl) ?_
          refine ox_y rfl (y_move_int rfl) ?_
          refine ox_y rfl (y_sub rfl rfl) ?_
          refine ox_y rfl (y_buildA [.int .i64 s4.1, .int .i64 s9.1, .int .i64 (w64 ((w64 (p0.fBarrows - s4.1)) - s9.1))] ua_43 ze_43 sz_3 (by kernel_rfl)) ?_
          refine ox_alloc ze_43 rfl (fun b12 => ?_)
          refine ox_n rfl (y_storeN 2 [.int .i64 s4.1, .int .i64 s9.1, .int .i64 (w64 ((w64 (p0.fBarrows - s4.1)) - s9.1))] sz_43 rfl (Nat.le_of_ble_eq_true rfl) rfl rfl rfl) ?_
          refine ox_nil ?_
          refine ex_then ?_
          refine cx_seq ?_
          refine cx_region ?_
          refine ox_y rfl (y_assign_bool rfl) ?_
          refine ox_nil ?_
          refine ex_then ?_
          refine cx_seq ?_
          refine cx_seq ?_
          refine cx_region ?_
          refine ox_y rfl (y_assign_int rfl) ?_
          refine ox_nil ?_
          refine ex_then ?_
          refine cx_block ?_
          obtain ⟨u15, hl30, h⟩ := bind_some h
          refine cx_loop (fun (s : (Bool × Int)) L tm => ∃ (tm0 : Nat → Value), L = [cellsR b1 52 [.int .i64 p0.fBarrows, .int .i64 p0.fSeen.x0, .int .i64 p0.fSeen.x1, .int .i64 p0.fSeen.x2, .int .i64 p0.fKnown.x0.fLo, .int .i64 p0.fKnown.x0.fHi, .int .i64 p0.fKnown.x1.fLo, .int .i64 p0.fKnown.x1.fHi, .int .i64 p0.fKnown.x2.fLo, .int .i64 p0.fKnown.x2.fHi], rowR A1_s9 c1_s9 43 3 s9.2.length (encL TKinds_cells s9.2), cellsR b12 43 [.int .i64 s4.1, .int .i64 s9.1, .int .i64 (w64 ((w64 (p0.fBarrows - s4.1)) - s9.1))]] ∧ tm = (upd (upd (upd (upd (upd (upd (upd (upd (upd (upd (upd tm0 0 (.agg #[.int .i64 p0.fBarrows, .int .i64 p0.fSeen.x0, .int .i64 p0.fSeen.x1, .int .i64 p0.fSeen.x2, .int .i64 p0.fKnown.x0.fLo, .int .i64 p0.fKnown.x0.fHi, .int .i64 p0.fKnown.x1.fLo, .int .i64 p0.fKnown.x1.fHi, .int .i64 p0.fKnown.x2.fLo, .int .i64 p0.fKnown.x2.fHi])) 1 (.pointer (some ⟨b1, 0, none⟩))) 2 (.slice none 0 0)) 3 (.slice A1_s9 s9.2.length c1_s9)) 4 (.int .i64 s4.1)) 12 (.bool (decide (s4.1 ≤ p0.fBarrows)))) 5 (.int .i64 s9.1)) 20 (.bool (decide (w64 (s4.1 + s9.1) ≤ p0.fBarrows)))) 6 (.pointer (some ⟨b12, 0, none⟩))) 7 (.bool s.1)) 8 (.int .i64 s.2))) (fun s e L tm => e = .exit 4 ∧ ∃ (tm0 : Nat → Value), L = [cellsR b1 52 [.int .i64 p0.fBarrows, .int .i64 p0.fSeen.x0, .int .i64 p0.fSeen.x1, .int .i64 p0.fSeen.x2, .int .i64 p0.fKnown.x0.fLo, .int .i64 p0.fKnown.x0.fHi, .int .i64 p0.fKnown.x1.fLo, .int .i64 p0.fKnown.x1.fHi, .int .i64 p0.fKnown.x2.fLo, .int .i64 p0.fKnown.x2.fHi], rowR A1_s9 c1_s9 43 3 s9.2.length (encL TKinds_cells s9.2), cellsR b12 43 [.int .i64 s4.1, .int .i64 s9.1, .int .i64 (w64 ((w64 (p0.fBarrows - s4.1)) - s9.1))]] ∧ tm = (upd (upd (upd (upd (upd (upd (upd (upd (upd (upd (upd tm0 0 (.agg #[.int .i64 p0.fBarrows, .int .i64 p0.fSeen.x0, .int .i64 p0.fSeen.x1, .int .i64 p0.fSeen.x2, .int .i64 p0.fKnown.x0.fLo, .int .i64 p0.fKnown.x0.fHi, .int .i64 p0.fKnown.x1.fLo, .int .i64 p0.fKnown.x1.fHi, .int .i64 p0.fKnown.x2.fLo, .int .i64 p0.fKnown.x2.fHi])) 1 (.pointer (some ⟨b1, 0, none⟩))) 2 (.slice none 0 0)) 3 (.slice A1_s9 s9.2.length c1_s9)) 4 (.int .i64 s4.1)) 12 (.bool (decide (s4.1 ≤ p0.fBarrows)))) 5 (.int .i64 s9.1)) 20 (.bool (decide (w64 (s4.1 + s9.1) ≤ p0.fBarrows)))) 6 (.pointer (some ⟨b12, 0, none⟩))) 7 (.bool s.1)) 8 (.int .i64 s.2))) hl30 ⟨_, rfl, (keep (keep (keep (keep (keep (keep (keep (keep (keep (keep (keep rfl rfl) rfl) rfl) rfl) rfl) rfl) rfl) rfl) rfl) rfl) rfl)⟩ ?_ ?_
          · rintro s14 L tm st ⟨tm0_s14, rfl, rfl⟩ h
            unfold calxref03_wholes_l3 at h
            refine cx_seq ?_
            refine cx_seq ?_
            refine cx_region ?_
            refine ox_y rfl (y_move_int rfl) ?_
            refine ox_y rfl (y_lss rfl rfl) ?_
            refine ox_nil ?_
            refine ex_then ?_
            rcases ite_some h with ⟨hp16, h⟩ | ⟨hp16, h⟩
            · refine cx_true (congrArg Value.bool hp16) ?_
              refine cx_skip ?_
              refine ex_then ?_
              refine cx_seq ?_
              refine cx_block ?_
              refine cx_draws 28 mixed (by kernel_rfl) (by kernel_rfl) ?_
              refine qx_y rfl (y_move_bool rfl) ?_
              refine qx_y rfl (y_move_bool rfl) ?_
              obtain ⟨b18, hb19, h⟩ := bind_some h
              refine qx_join 9 (fun tm0 => (upd (upd (upd (upd (upd (upd (upd (upd (upd (upd (upd (upd (upd tm0 0 (.agg #[.int .i64 p0.fBarrows, .int .i64 p0.fSeen.x0, .int .i64 p0.fSeen.x1, .int .i64 p0.fSeen.x2, .int .i64 p0.fKnown.x0.fLo, .int .i64 p0.fKnown.x0.fHi, .int .i64 p0.fKnown.x1.fLo, .int .i64 p0.fKnown.x1.fHi, .int .i64 p0.fKnown.x2.fLo, .int .i64 p0.fKnown.x2.fHi])) 1 (.pointer (some ⟨b1, 0, none⟩))) 2 (.slice none 0 0)) 3 (.slice A1_s9 s9.2.length c1_s9)) 4 (.int .i64 s4.1)) 12 (.bool (decide (s4.1 ≤ p0.fBarrows)))) 5 (.int .i64 s9.1)) 20 (.bool (decide (w64 (s4.1 + s9.1) ≤ p0.fBarrows)))) 6 (.pointer (some ⟨b12, 0, none⟩))) 7 (.bool s14.1)) 8 (.int .i64 s14.2)) 33 (.bool (decide (s14.2 < 3)))) 46 (.bool b18))) (fun tm0 => ?_) (fun key => ?_)
              · refine qx_y rfl (y_move_bool rfl) ?_
                obtain ⟨b21, hb22, h⟩ := bind_some h
                refine qx_join 15 (fun tm0 => (upd (upd (upd (upd (upd (upd (upd (upd (upd (upd (upd (upd (upd tm0 0 (.agg #[.int .i64 p0.fBarrows, .int .i64 p0.fSeen.x0, .int .i64 p0.fSeen.x1, .int .i64 p0.fSeen.x2, .int .i64 p0.fKnown.x0.fLo, .int .i64 p0.fKnown.x0.fHi, .int .i64 p0.fKnown.x1.fLo, .int .i64 p0.fKnown.x1.fHi, .int .i64 p0.fKnown.x2.fLo, .int .i64 p0.fKnown.x2.fHi])) 1 (.pointer (some ⟨b1, 0, none⟩))) 2 (.slice none 0 0)) 3 (.slice A1_s9 s9.2.length c1_s9)) 4 (.int .i64 s4.1)) 12 (.bool (decide (s4.1 ≤ p0.fBarrows)))) 5 (.int .i64 s9.1)) 20 (.bool (decide (w64 (s4.1 + s9.1) ≤ p0.fBarrows)))) 6 (.pointer (some ⟨b12, 0, none⟩))) 7 (.bool s14.1)) 8 (.int .i64 s14.2)) 33 (.bool (decide (s14.2 < 3)))) 62 (.bool b21))) (fun tm0 => ?_) (fun key => ?_)
                · refine qx_y rfl (y_assign_bool rfl) ?_
                  refine qx_nil ?_
                  refine ox_nil ?_
                  refine ex_block ?_
                  refine ex_then ?_
                  refine cx_region ?_
                  refine ox_y rfl (y_move_int rfl) ?_
                  refine ox_y rfl (y_add rfl rfl) ?_
                  refine ox_y rfl (y_assign_int rfl) ?_
                  refine ox_nil ?_
                  obtain rfl := Option.some.inj h
                  exact ex_next ⟨_, rfl, (keep (keep (keep (keep (keep (keep (keep (keep (keep (keep (keep rfl rfl) rfl) rfl) rfl) rfl) rfl) rfl) rfl) rfl) rfl) rfl)⟩
                · clear h; rcases ite_some hb22 with ⟨hp20, h⟩ | ⟨hp20, h⟩
                  · refine qx_y (sees_t rfl rfl rfl rfl hp20) (y_move_int rfl) ?_
                    obtain ⟨hg23, h⟩ := guardO_some h
                    refine qx_y (sees_t rfl rfl rfl rfl hp20) (y_indexArr ar_43 hg23.1 hg23.2 rfl rfl) ?_
                    refine qx_y (sees_t rfl rfl rfl rfl hp20) (y_load1 2 (v := .int .i64 (sel3 s4.1 s9.1 (w64 ((w64 (p0.fBarrows - s4.1)) - s9.1)) s14.2)) sc_3 rfl rfl (by rcases in3 hg23 with e | e | e <;> rw [e] <;> rfl)) ?_
                    refine qx_y (sees_t rfl rfl rfl rfl hp20) (y_move_int rfl) ?_
                    refine qx_y (sees_t rfl rfl rfl rfl hp20) (y_fieldAddr fo_52_2 rfl) ?_
                    obtain ⟨hg24, h⟩ := guardO_some h
                    refine qx_y (sees_t rfl rfl rfl rfl hp20) (y_indexArr ar_50 hg24.1 hg24.2 rfl rfl) ?_
                    refine qx_y (sees_t rfl rfl rfl rfl hp20) (y_fieldAddr fo_33_0 rfl) ?_
                    refine qx_y (sees_t rfl rfl rfl rfl hp20) (y_load1 0 (v := .int .i64 (sel3 p0.fKnown.x0.fLo p0.fKnown.x1.fLo p0.fKnown.x2.fLo s14.2)) sc_3 rfl rfl (by rcases in3 hg24 with e | e | e <;> rw [e] <;> rfl)) ?_
                    refine qx_y (sees_t rfl rfl rfl rfl hp20) (y_move_int rfl) ?_
                    refine qx_y (sees_t rfl rfl rfl rfl hp20) (y_fieldAddr fo_52_2 rfl) ?_
                    obtain ⟨hg25, h⟩ := guardO_some h
                    refine qx_y (sees_t rfl rfl rfl rfl hp20) (y_indexArr ar_50 hg25.1 hg25.2 rfl rfl) ?_
                    refine qx_y (sees_t rfl rfl rfl rfl hp20) (y_fieldAddr fo_33_1 rfl) ?_
                    refine qx_y (sees_t rfl rfl rfl rfl hp20) (y_load1 0 (v := .int .i64 (sel3 p0.fKnown.x0.fHi p0.fKnown.x1.fHi p0.fKnown.x2.fHi s14.2)) sc_3 rfl rfl (by rcases in3 hg25 with e | e | e <;> rw [e] <;> rfl)) ?_
                    obtain ⟨y26, hy27, h⟩ := bind_some h
                    refine qx_y (sees_t rfl rfl rfl rfl hp20) (y_call [.int .i64 (sel3 s4.1 s9.1 (w64 ((w64 (p0.fBarrows - s4.1)) - s9.1)) s14.2), .int .i64 (sel3 p0.fKnown.x0.fLo p0.fKnown.x1.fLo p0.fKnown.x2.fLo s14.2), .int .i64 (sel3 p0.fKnown.x0.fHi p0.fKnown.x1.fHi p0.fKnown.x2.fHi s14.2)] go_79 rfl (fun W2 hW2 => calxref03_in_ok (sel3 s4.1 s9.1 (w64 ((w64 (p0.fBarrows - s4.1)) - s9.1)) s14.2) (sel3 p0.fKnown.x0.fLo p0.fKnown.x1.fLo p0.fKnown.x2.fLo s14.2) (sel3 p0.fKnown.x0.fHi p0.fKnown.x1.fHi p0.fKnown.x2.fHi s14.2) y26 hy27 W2 ) rfl) ?_
                    refine qx_y rfl (y_pick_tb (congrArg Value.bool hp20) rfl) ?_
                    obtain rfl := Option.some.inj h
                    exact key _ _ (keep (keep (keep (keep (keep (keep (keep (keep (keep (keep (keep (keep (keep rfl rfl) rfl) rfl) rfl) rfl) rfl) rfl) rfl) rfl) rfl) rfl) rfl) rfl)
                  · refine qx_skip (sees_f rfl rfl rfl rfl hp20) ?_
                    refine qx_skip (sees_f rfl rfl rfl rfl hp20) ?_
                    refine qx_skip (sees_f rfl rfl rfl rfl hp20) ?_
                    refine qx_skip (sees_f rfl rfl rfl rfl hp20) ?_
                    refine qx_skip (sees_f rfl rfl rfl rfl hp20) ?_
                    refine qx_skip (sees_f rfl rfl rfl rfl hp20) ?_
                    refine qx_skip (sees_f rfl rfl rfl rfl hp20) ?_
                    refine qx_skip (sees_f rfl rfl rfl rfl hp20) ?_
                    refine qx_skip (sees_f rfl rfl rfl rfl hp20) ?_
                    refine qx_skip (sees_f rfl rfl rfl rfl hp20) ?_
                    refine qx_skip (sees_f rfl rfl rfl rfl hp20) ?_
                    refine qx_skip (sees_f rfl rfl rfl rfl hp20) ?_
                    refine qx_skip (sees_f rfl rfl rfl rfl hp20) ?_
                    refine qx_skip (sees_f rfl rfl rfl rfl hp20) ?_
                    refine qx_y rfl (y_pick_fb (congrArg Value.bool hp20) rfl) ?_
                    obtain rfl := Option.some.inj h
                    exact key _ _ (keep (keep (keep (keep (keep (keep (keep (keep (keep (keep (keep (keep (keep rfl rfl) rfl) rfl) rfl) rfl) rfl) rfl) rfl) rfl) rfl) rfl) rfl) rfl)
              · clear h; rcases ite_some hb19 with ⟨hp17, h⟩ | ⟨hp17, h⟩
                · refine qx_y (sees_t rfl rfl rfl rfl hp17) (y_move_int rfl) ?_
                  obtain ⟨hg28, h⟩ := guardO_some h
                  refine qx_y (sees_t rfl rfl rfl rfl hp17) (y_indexArr ar_43 hg28.1 hg28.2 rfl rfl) ?_
                  refine qx_y (sees_t rfl rfl rfl rfl hp17) (y_load1 2 (v := .int .i64 (sel3 s4.1 s9.1 (w64 ((w64 (p0.fBarrows - s4.1)) - s9.1)) s14.2)) sc_3 rfl rfl (by rcases in3 hg28 with e | e | e <;> rw [e] <;> rfl)) ?_
                  refine qx_y (sees_t rfl rfl rfl rfl hp17) (y_move_int rfl) ?_
                  refine qx_y (sees_t rfl rfl rfl rfl hp17) (y_fieldAddr fo_52_1 rfl) ?_
                  obtain ⟨hg29, h⟩ := guardO_some h
                  refine qx_y (sees_t rfl rfl rfl rfl hp17) (y_indexArr ar_43 hg29.1 hg29.2 rfl rfl) ?_
                  refine qx_y (sees_t rfl rfl rfl rfl hp17) (y_load1 0 (v := .int .i64 (sel3 p0.fSeen.x0 p0.fSeen.x1 p0.fSeen.x2 s14.2)) sc_3 rfl rfl (by rcases in3 hg29 with e | e | e <;> rw [e] <;> rfl)) ?_
                  refine qx_y (sees_t rfl rfl rfl rfl hp17) (y_geq rfl rfl) ?_
                  refine qx_y rfl (y_pick_tb (congrArg Value.bool hp17) rfl) ?_
                  obtain rfl := Option.some.inj h
                  exact key _ _ (keep (keep (keep (keep (keep (keep (keep (keep (keep (keep (keep (keep (keep rfl rfl) rfl) rfl) rfl) rfl) rfl) rfl) rfl) rfl) rfl) rfl) rfl) rfl)
                · refine qx_skip (sees_f rfl rfl rfl rfl hp17) ?_
                  refine qx_skip (sees_f rfl rfl rfl rfl hp17) ?_
                  refine qx_skip (sees_f rfl rfl rfl rfl hp17) ?_
                  refine qx_skip (sees_f rfl rfl rfl rfl hp17) ?_
                  refine qx_skip (sees_f rfl rfl rfl rfl hp17) ?_
                  refine qx_skip (sees_f rfl rfl rfl rfl hp17) ?_
                  refine qx_skip (sees_f rfl rfl rfl rfl hp17) ?_
                  refine qx_skip (sees_f rfl rfl rfl rfl hp17) ?_
                  refine qx_y rfl (y_pick_fb (congrArg Value.bool hp17) rfl) ?_
                  obtain rfl := Option.some.inj h
                  exact key _ _ (keep (keep (keep (keep (keep (keep (keep (keep (keep (keep (keep (keep (keep rfl rfl) rfl) rfl) rfl) rfl) rfl) rfl) rfl) rfl) rfl) rfl) rfl) rfl)
            · refine cx_false (congrArg Value.bool hp16) ?_
              refine cx_exit ?_
              refine ex_then_exit ?_
              obtain rfl := Option.some.inj h
              exact ex_stop ⟨rfl, _, rfl, (keep (keep (keep (keep (keep (keep (keep (keep (keep (keep (keep rfl rfl) rfl) rfl) rfl) rfl) rfl) rfl) rfl) rfl) rfl) rfl)⟩
          · intro e L tm hJ
            obtain ⟨rfl, tm0_u15, rfl, rfl⟩ := hJ
            refine ⟨(by intro hc; cases hc), ?_⟩
            refine ex_block_here ?_
            refine ex_then ?_
            refine cx_seq ?_
            refine cx_region ?_
            refine ox_y rfl (y_move_bool rfl) ?_
            refine ox_nil ?_
            refine ex_then ?_
            rcases ite_some h with ⟨hp31, h⟩ | ⟨hp31, h⟩
            · refine cx_true (congrArg Value.bool hp31) ?_
              refine cx_region ?_
              refine ox_y rfl (y_move_slice rfl) ?_
              refine ox_y rfl (y_loadN 2 [.int .i64 s4.1, .int .i64 s9.1, .int .i64 (w64 ((w64 (p0.fBarrows - s4.1)) - s9.1))] ag_43 rfl rfl rfl) ?_
              refine ox_buildSliceE 1 (encL TKinds_cells [(TKinds.mk s4.1 s9.1 (w64 ((w64 (p0.fBarrows - s4.1)) - s9.1)))]) _ mc_43_1 us_53 ze_43 by_43 (by decide) (by decide) (by kernel_rfl) (encL_len TKinds_cells_len rfl) rfl (fun b32 => ?_)
              obtain ⟨hg35, h⟩ := guardO_some h
              refine ox_appendE 1 us_53 ze_43 by_43 rfl rfl rfl (Nat.lt_of_lt_of_le (Nat.lt_succ_self 0) (Nat.le_of_ble_eq_true rfl)) (RdL.row 3 rfl) (encL_len TKinds_cells_len rfl) (encL_one TKinds_cells_one _) (app_room hg35 (by decide)) rfl (fun A33 c34 => ?_)
              refine ox_y rfl (y_assign_slice rfl) ?_
              refine ox_nil ?_
              refine ex_block ?_
              refine ex_then ?_
              refine cx_region ?_
              refine ox_y rfl (y_move_int rfl) ?_
              refine ox_y rfl (y_add rfl rfl) ?_
              refine ox_y rfl (y_assign_int rfl) ?_
              refine ox_nil ?_
              refine ex_take 2 ?_
              obtain rfl := Option.some.inj h
              exact ex_next ⟨_, A33, c34, (s9.2.length + 1), (hn_app rfl rfl), rfl, (keep (keep (keep (keep (keep (keep (keep rfl rfl) rfl) rfl) rfl) rfl) rfl) rfl)⟩
            · refine cx_false (congrArg Value.bool hp31) ?_
              refine cx_skip ?_
              refine ex_block ?_
              refine ex_then ?_
              refine cx_region ?_
              refine ox_y rfl (y_move_int rfl) ?_
              refine ox_y rfl (y_add rfl rfl) ?_
              refine ox_y rfl (y_assign_int rfl) ?_
              refine ox_nil ?_
              refine ex_take 2 ?_
              obtain rfl := Option.some.inj h
              exact ex_next ⟨_, A1_s9, c1_s9, s9.2.length, rfl, rfl, (keep (keep (keep (keep (keep (keep (keep rfl rfl) rfl) rfl) rfl) rfl) rfl) rfl)⟩
        · refine cx_false (congrArg Value.bool hp11) ?_
          refine cx_exit ?_
          refine ex_then_exit ?_
          obtain rfl := Option.some.inj h
          exact ex_stop ⟨rfl, _, A1_s9, c1_s9, s9.2.length, rfl, rfl, (keep (keep (keep (keep (keep (keep (keep rfl rfl) rfl) rfl) rfl) rfl) rfl) rfl)⟩
      · intro e L tm hJ
        obtain ⟨rfl, tm0_u10, A1_u10, c1_u10, n1_u10, rfl, rfl, rfl⟩ := hJ
        refine ⟨(by intro hc; cases hc), ?_⟩
        refine ex_block_here ?_
        refine ex_block ?_
        refine ex_then ?_
        refine cx_region ?_
        refine ox_y rfl (y_move_int rfl) ?_
        refine ox_y rfl (y_add rfl rfl) ?_
        refine ox_y rfl (y_assign_int rfl) ?_
        refine ox_nil ?_
        obtain rfl := Option.some.inj h
        exact ex_next ⟨_, A1_u10, c1_u10, u10.2.length, rfl, rfl, (keep (keep (keep (keep (keep rfl rfl) rfl) rfl) rfl) rfl)⟩
    · refine cx_false (congrArg Value.bool hp6) ?_
      refine cx_exit ?_
      refine ex_then_exit ?_
      obtain rfl := Option.some.inj h
      exact ex_stop ⟨rfl, _, A1_s4, c1_s4, s4.2.length, rfl, rfl, (keep (keep (keep (keep (keep rfl rfl) rfl) rfl) rfl) rfl)⟩
  · intro e L tm hJ
    obtain ⟨rfl, tm0_u5, A1_u5, c1_u5, n1_u5, rfl, rfl, rfl⟩ := hJ
    refine ⟨(by intro hc; cases hc), ?_⟩
    refine ex_block_here ?_
    refine ex_then ?_
    refine cx_seq ?_
    refine cx_region ?_
    refine ox_y rfl (y_move_slice rfl) ?_
    refine ox_y rfl (y_assign_slice rfl) ?_
    refine ox_nil ?_
    refine ex_then ?_
    refine cx_ret ?_
    obtain rfl := Option.some.inj h
    exact ex_res1 (.inl rfl) rfl (resV_tmp (v := .slice A1_u5 u5.2.length c1_u5) rfl) (fun W2 hW2 => ⟨(A1_u5, u5.2.length, c1_u5), rfl, rfl, (hW2.pick 1 rfl)⟩)

/-! calx/calxref03.Check -/
set_option maxRecDepth 100000 in
theorem calxref03_Check_ok (p0_b : TBatch) (res : Int) (h : calxref03_Check p0_b = some res) (W : World)  :
    Calls Try.prog 40 [.agg #[.int .i64 p0_b.fBarrows, .int .i64 p0_b.fSeen.x0, .int .i64 p0_b.fSeen.x1, .int .i64 p0_b.fSeen.x2, .int .i64 p0_b.fKnown.x0.fLo, .int .i64 p0_b.fKnown.x0.fHi, .int .i64 p0_b.fKnown.x1.fLo, .int .i64 p0_b.fKnown.x1.fHi, .int .i64 p0_b.fKnown.x2.fLo, .int .i64 p0_b.fKnown.x2.fHi]].toArray W fun e W2 => e = .returned (.int .i64 res) ∧ Ext W W2 [] := by
  unfold calxref03_Check at h
  refine calls_enter (m := 59) Try.func40 rfl rfl (Nat.le_of_ble_eq_true rfl) ?_
  refine cx_seq ?_
  refine cx_region ?_
  refine ox_box [.int .i64 p0_b.fBarrows, .int .i64 p0_b.fSeen.x0, .int .i64 p0_b.fSeen.x1, .int .i64 p0_b.fSeen.x2, .int .i64 p0_b.fKnown.x0.fLo, .int .i64 p0_b.fKnown.x0.fHi, .int .i64 p0_b.fKnown.x1.fLo, .int .i64 p0_b.fKnown.x1.fHi, .int .i64 p0_b.fKnown.x2.fLo, .int .i64 p0_b.fKnown.x2.fHi] rfl rfl rfl (fun b1 => ?_)
  refine ox_y rfl (y_assign_int rfl) ?_
  refine ox_nil ?_
  refine ex_then ?_
  refine cx_seq ?_
  refine cx_seq ?_
  refine cx_draws 18 mixed (by kernel_rfl) (by kernel_rfl) ?_
  refine qx_y rfl (y_fieldAddr fo_52_0 rfl) ?_
  refine qx_y rfl (y_load1 0 (v := .int .i64 p0_b.fBarrows) sc_3 rfl rfl rfl) ?_
  obtain ⟨y2, hy3, h⟩ := bind_some h
  refine qx_y rfl (y_call [.int .i64 p0_b.fBarrows, .int .i64 1, .int .i64 50] go_79 rfl (fun W2 hW2 => calxref03_in_ok p0_b.fBarrows 1 50 y2 hy3 W2 ) rfl) ?_
  refine qx_y rfl (y_not rfl) ?_
  refine qx_y rfl (y_move_bool rfl) ?_
  obtain ⟨b5, hb6, h⟩ := bind_some h
  refine qx_join 5 (fun tm0 => (upd (upd (upd (upd tm0 0 (.agg #[.int .i64 p0_b.fBarrows, .int .i64 p0_b.fSeen.x0, .int .i64 p0_b.fSeen.x1, .int .i64 p0_b.fSeen.x2, .int .i64 p0_b.fKnown.x0.fLo, .int .i64 p0_b.fKnown.x0.fHi, .int .i64 p0_b.fKnown.x1.fLo, .int .i64 p0_b.fKnown.x1.fHi, .int .i64 p0_b.fKnown.x2.fLo, .int .i64 p0_b.fKnown.x2.fHi])) 1 (.pointer (some ⟨b1, 0, none⟩))) 2 (.int .i64 0)) 13 (.bool b5))) (fun tm0 => ?_) (fun key => ?_)
  · refine qx_y rfl (y_move_bool rfl) ?_
    obtain ⟨b8, hb9, h⟩ := bind_some h
    refine qx_join 7 (fun tm0 => (upd (upd (upd (upd tm0 0 (.agg #[.int .i64 p0_b.fBarrows, .int .i64 p0_b.fSeen.x0, .int .i64 p0_b.fSeen.x1, .int .i64 p0_b.fSeen.x2, .int .i64 p0_b.fKnown.x0.fLo, .int .i64 p0_b.fKnown.x0.fHi, .int .i64 p0_b.fKnown.x1.fLo, .int .i64 p0_b.fKnown.x1.fHi, .int .i64 p0_b.fKnown.x2.fLo, .int .i64 p0_b.fKnown.x2.fHi])) 1 (.pointer (some ⟨b1, 0, none⟩))) 2 (.int .i64 0)) 21 (.bool b8))) (fun tm0 => ?_) (fun key => ?_)
    · refine qx_nil ?_
      refine ox_nil ?_
      refine ex_then ?_
      rcases ite_some h with ⟨hp10, h⟩ | ⟨hp10, h⟩
      · refine cx_true (congrArg Value.bool hp10) ?_
        refine cx_seq ?_
        refine cx_region ?_
        refine ox_y rfl (y_assign_int rfl) ?_
        refine ox_nil ?_
        refine ex_then ?_
        refine cx_ret ?_
        refine ex_then_ret ?_
        obtain rfl := Option.some.inj h
        exact ex_res1 (.inl rfl) rfl (resV_tmp (v := .int .i64 1) rfl) (fun W2 hW2 => ⟨rfl, hW2.none⟩)
      · refine cx_false (congrArg Value.bool hp10) ?_
        refine cx_skip ?_
        refine ex_then ?_
        refine cx_seq ?_
        refine cx_seq ?_
        refine cx_region ?_
        refine ox_y rfl (y_assign_int rfl) ?_
        refine ox_nil ?_
        refine ex_then ?_
        refine cx_block ?_
        obtain ⟨u13, hl26, h⟩ := bind_some h
        refine cx_loop (fun (s : (Int × Int)) L tm => ∃ (tm0 : Nat → Value), L = [cellsR b1 52 [.int .i64 p0_b.fBarrows, .int .i64 p0_b.fSeen.x0, .int .i64 p0_b.fSeen.x1, .int .i64 p0_b.fSeen.x2, .int .i64 p0_b.fKnown.x0.fLo, .int .i64 p0_b.fKnown.x0.fHi, .int .i64 p0_b.fKnown.x1.fLo, .int .i64 p0_b.fKnown.x1.fHi, .int .i64 p0_b.fKnown.x2.fLo, .int .i64 p0_b.fKnown.x2.fHi]] ∧ tm = (upd (upd (upd (upd (upd tm0 0 (.agg #[.int .i64 p0_b.fBarrows, .int .i64 p0_b.fSeen.x0, .int .i64 p0_b.fSeen.x1, .int .i64 p0_b.fSeen.x2, .int .i64 p0_b.fKnown.x0.fLo, .int .i64 p0_b.fKnown.x0.fHi, .int .i64 p0_b.fKnown.x1.fLo, .int .i64 p0_b.fKnown.x1.fHi, .int .i64 p0_b.fKnown.x2.fLo, .int .i64 p0_b.fKnown.x2.fHi])) 1 (.pointer (some ⟨b1, 0, none⟩))) 2 (.int .i64 s.1)) 21 (.bool b8)) 3 (.int .i64 s.2))) (fun | (.inl s), e, L, tm => e = .ret ∧ ∃ (tm0 : Nat → Value), L = [cellsR b1 52 [.int .i64 p0_b.fBarrows, .int .i64 p0_b.fSeen.x0, .int .i64 p0_b.fSeen.x1, .int .i64 p0_b.fSeen.x2, .int .i64 p0_b.fKnown.x0.fLo, .int .i64 p0_b.fKnown.x0.fHi, .int .i64 p0_b.fKnown.x1.fLo, .int .i64 p0_b.fKnown.x1.fHi, .int .i64 p0_b.fKnown.x2.fLo, .int .i64 p0_b.fKnown.x2.fHi]] ∧ tm = (upd (upd (upd (upd (upd tm0 0 (.agg #[.int .i64 p0_b.fBarrows, .int .i64 p0_b.fSeen.x0, .int .i64 p0_b.fSeen.x1, .int .i64 p0_b.fSeen.x2, .int .i64 p0_b.fKnown.x0.fLo, .int .i64 p0_b.fKnown.x0.fHi, .int .i64 p0_b.fKnown.x1.fLo, .int .i64 p0_b.fKnown.x1.fHi, .int .i64 p0_b.fKnown.x2.fLo, .int .i64 p0_b.fKnown.x2.fHi])) 1 (.pointer (some ⟨b1, 0, none⟩))) 2 (.int .i64 s.1)) 21 (.bool b8)) 3 (.int .i64 s.2)) | (.inr s), e, L, tm => e = .exit 0 ∧ ∃ (tm0 : Nat → Value), L = [cellsR b1 52 [.int .i64 p0_b.fBarrows, .int .i64 p0_b.fSeen.x0, .int .i64 p0_b.fSeen.x1, .int .i64 p0_b.fSeen.x2, .int .i64 p0_b.fKnown.x0.fLo, .int .i64 p0_b.fKnown.x0.fHi, .int .i64 p0_b.fKnown.x1.fLo, .int .i64 p0_b.fKnown.x1.fHi, .int .i64 p0_b.fKnown.x2.fLo, .int .i64 p0_b.fKnown.x2.fHi]] ∧ tm = (upd (upd (upd (upd (upd tm0 0 (.agg #[.int .i64 p0_b.fBarrows, .int .i64 p0_b.fSeen.x0, .int .i64 p0_b.fSeen.x1, .int .i64 p0_b.fSeen.x2, .int .i64 p0_b.fKnown.x0.fLo, .int .i64 p0_b.fKnown.x0.fHi, .int .i64 p0_b.fKnown.x1.fLo, .int .i64 p0_b.fKnown.x1.fHi, .int .i64 p0_b.fKnown.x2.fLo, .int .i64 p0_b.fKnown.x2.fHi])) 1 (.pointer (some ⟨b1, 0, none⟩))) 2 (.int .i64 s.1)) 21 (.bool b8)) 3 (.int .i64 s.2))) hl26 ⟨_, rfl, (keep (keep (keep (keep (keep rfl rfl) rfl) rfl) rfl) rfl)⟩ ?_ ?_
        · rintro s12 L tm st ⟨tm0_s12, rfl, rfl⟩ h
          unfold calxref03_Check_l1 at h
          refine cx_seq ?_
          refine cx_seq ?_
          refine cx_region ?_
          refine ox_y rfl (y_move_int rfl) ?_
          refine ox_y rfl (y_lss rfl rfl) ?_
          refine ox_nil ?_
          refine ex_then ?_
          rcases ite_some h with ⟨hp14, h⟩ | ⟨hp14, h⟩
          · refine cx_true (congrArg Value.bool hp14) ?_
            refine cx_skip ?_
            refine ex_then ?_
            refine cx_seq ?_
            refine cx_block ?_
            refine cx_seq ?_
            refine cx_draws 29 mixed (by kernel_rfl) (by kernel_rfl) ?_
            refine qx_y rfl (y_move_int rfl) ?_
            refine qx_y rfl (y_fieldAddr fo_52_2 rfl) ?_
            obtain ⟨hg15, h⟩ := guardO_some h
            refine qx_y rfl (y_indexArr ar_50 hg15.1 hg15.2 rfl rfl) ?_
            refine qx_y rfl (y_fieldAddr fo_33_0 rfl) ?_
            refine qx_y rfl (y_load1 0 (v := .int .i64 (sel3 p0_b.fKnown.x0.fLo p0_b.fKnown.x1.fLo p0_b.fKnown.x2.fLo s12.2)) sc_3 rfl rfl (by rcases in3 hg15 with e | e | e <;> rw [e] <;> rfl)) ?_
            refine qx_y rfl (y_lss rfl rfl) ?_
            refine qx_y rfl (y_move_bool rfl) ?_
            obtain ⟨b17, hb18, h⟩ := bind_some h
            refine qx_join 12 (fun tm0 => (upd (upd (upd (upd (upd (upd (upd tm0 0 (.agg #[.int .i64 p0_b.fBarrows, .int .i64 p0_b.fSeen.x0, .int .i64 p0_b.fSeen.x1, .int .i64 p0_b.fSeen.x2, .int .i64 p0_b.fKnown.x0.fLo, .int .i64 p0_b.fKnown.x0.fHi, .int .i64 p0_b.fKnown.x1.fLo, .int .i64 p0_b.fKnown.x1.fHi, .int .i64 p0_b.fKnown.x2.fLo, .int .i64 p0_b.fKnown.x2.fHi])) 1 (.pointer (some ⟨b1, 0, none⟩))) 2 (.int .i64 s12.1)) 21 (.bool b8)) 3 (.int .i64 s12.2)) 23 (.bool (decide (s12.2 < 3)))) 44 (.bool b17))) (fun tm0 => ?_) (fun key => ?_)
            · refine qx_y rfl (y_move_bool rfl) ?_
              obtain ⟨b20, hb21, h⟩ := bind_some h
              refine qx_join 9 (fun tm0 => (upd (upd (upd (upd (upd (upd (upd tm0 0 (.agg #[.int .i64 p0_b.fBarrows, .int .i64 p0_b.fSeen.x0, .int .i64 p0_b.fSeen.x1, .int .i64 p0_b.fSeen.x2, .int .i64 p0_b.fKnown.x0.fLo, .int .i64 p0_b.fKnown.x0.fHi, .int .i64 p0_b.fKnown.x1.fLo, .int .i64 p0_b.fKnown.x1.fHi, .int .i64 p0_b.fKnown.x2.fLo, .int .i64 p0_b.fKnown.x2.fHi])) 1 (.pointer (some ⟨b1, 0, none⟩))) 2 (.int .i64 s12.1)) 21 (.bool b8)) 3 (.int .i64 s12.2)) 23 (.bool (decide (s12.2 < 3)))) 54 (.bool b20))) (fun tm0 => ?_) (fun key => ?_)
              · refine qx_nil ?_
                refine ox_nil ?_
                refine ex_then ?_
                rcases ite_some h with ⟨hp22, h⟩ | ⟨hp22, h⟩
                · refine cx_true (congrArg Value.bool hp22) ?_
                  refine cx_seq ?_
                  refine cx_region ?_
                  refine ox_y rfl (y_assign_int rfl) ?_
                  refine ox_nil ?_
                  refine ex_then ?_
                  refine cx_ret ?_
                  refine ex_block_ret ?_
                  refine ex_then_ret ?_
                  obtain rfl := Option.some.inj h
                  exact ex_stop ⟨rfl, _, rfl, (keep (keep (keep (keep (keep rfl rfl) rfl) rfl) rfl) rfl)⟩
                · refine cx_false (congrArg Value.bool hp22) ?_
                  refine cx_skip ?_
                  refine ex_block ?_
                  refine ex_then ?_
                  refine cx_region ?_
                  refine ox_y rfl (y_move_int rfl) ?_
                  refine ox_y rfl (y_add rfl rfl) ?_
                  refine ox_y rfl (y_assign_int rfl) ?_
                  refine ox_nil ?_
                  obtain rfl := Option.some.inj h
                  exact ex_next ⟨_, rfl, (keep (keep (keep (keep (keep rfl rfl) rfl) rfl) rfl) rfl)⟩
              · clear h; rcases ite_some hb21 with ⟨hp19, h⟩ | ⟨hp19, h⟩
                · refine qx_skip (sees_f rfl rfl rfl rfl hp19) ?_
                  refine qx_skip (sees_f rfl rfl rfl rfl hp19) ?_
                  refine qx_skip (sees_f rfl rfl rfl rfl hp19) ?_
                  refine qx_skip (sees_f rfl rfl rfl rfl hp19) ?_
                  refine qx_skip (sees_f rfl rfl rfl rfl hp19) ?_
                  refine qx_skip (sees_f rfl rfl rfl rfl hp19) ?_
                  refine qx_skip (sees_f rfl rfl rfl rfl hp19) ?_
                  refine qx_skip (sees_f rfl rfl rfl rfl hp19) ?_
                  refine qx_y rfl (y_pick_tb (congrArg Value.bool hp19) rfl) ?_
                  obtain rfl := Option.some.inj h
                  exact key _ _ (keep (keep (keep (keep (keep (keep (keep rfl rfl) rfl) rfl) rfl) rfl) rfl) rfl)
                · refine qx_y (sees_t rfl rfl rfl rfl hp19) (y_move_int rfl) ?_
                  refine qx_y (sees_t rfl rfl rfl rfl hp19) (y_fieldAddr fo_52_2 rfl) ?_
                  obtain ⟨hg23, h⟩ := guardO_some h
                  refine qx_y (sees_t rfl rfl rfl rfl hp19) (y_indexArr ar_50 hg23.1 hg23.2 rfl rfl) ?_
                  refine qx_y (sees_t rfl rfl rfl rfl hp19) (y_fieldAddr fo_33_1 rfl) ?_
                  refine qx_y (sees_t rfl rfl rfl rfl hp19) (y_load1 0 (v := .int .i64 (sel3 p0_b.fKnown.x0.fHi p0_b.fKnown.x1.fHi p0_b.fKnown.x2.fHi s12.2)) sc_3 rfl rfl (by rcases in3 hg23 with e | e | e <;> rw [e] <;> rfl)) ?_
                  refine qx_y (sees_t rfl rfl rfl rfl hp19) (y_fieldAddr fo_52_0 rfl) ?_
                  refine qx_y (sees_t rfl rfl rfl rfl hp19) (y_load1 0 (v := .int .i64 p0_b.fBarrows) sc_3 rfl rfl rfl) ?_
                  refine qx_y (sees_t rfl rfl rfl rfl hp19) (y_gtr rfl rfl) ?_
                  refine qx_y rfl (y_pick_fb (congrArg Value.bool hp19) rfl) ?_
                  obtain rfl := Option.some.inj h
                  exact key _ _ (keep (keep (keep (keep (keep (keep (keep rfl rfl) rfl) rfl) rfl) rfl) rfl) rfl)
            · clear h; rcases ite_some hb18 with ⟨hp16, h⟩ | ⟨hp16, h⟩
              · refine qx_skip (sees_f rfl rfl rfl rfl hp16) ?_
                refine qx_skip (sees_f rfl rfl rfl rfl hp16) ?_
                refine qx_skip (sees_f rfl rfl rfl rfl hp16) ?_
                refine qx_skip (sees_f rfl rfl rfl rfl hp16) ?_
                refine qx_skip (sees_f rfl rfl rfl rfl hp16) ?_
                refine qx_skip (sees_f rfl rfl rfl rfl hp16) ?_
                refine qx_skip (sees_f rfl rfl rfl rfl hp16) ?_
                refine qx_skip (sees_f rfl rfl rfl rfl hp16) ?_
                refine qx_skip (sees_f rfl rfl rfl rfl hp16) ?_
                refine qx_skip (sees_f rfl rfl rfl rfl hp16) ?_
                refine qx_skip (sees_f rfl rfl rfl rfl hp16) ?_
                refine qx_y rfl (y_pick_tb (congrArg Value.bool hp16) rfl) ?_
                obtain rfl := Option.some.inj h
                exact key _ _ (keep (keep (keep (keep (keep (keep (keep rfl rfl) rfl) rfl) rfl) rfl) rfl) rfl)
              · refine qx_y (sees_t rfl rfl rfl rfl hp16) (y_move_int rfl) ?_
                refine qx_y (sees_t rfl rfl rfl rfl hp16) (y_fieldAddr fo_52_2 rfl) ?_
                obtain ⟨hg24, h⟩ := guardO_some h
                refine qx_y (sees_t rfl rfl rfl rfl hp16) (y_indexArr ar_50 hg24.1 hg24.2 rfl rfl) ?_
                refine qx_y (sees_t rfl rfl rfl rfl hp16) (y_fieldAddr fo_33_0 rfl) ?_
                refine qx_y (sees_t rfl rfl rfl rfl hp16) (y_load1 0 (v := .int .i64 (sel3 p0_b.fKnown.x0.fLo p0_b.fKnown.x1.fLo p0_b.fKnown.x2.fLo s12.2)) sc_3 rfl rfl (by rcases in3 hg24 with e | e | e <;> rw [e] <;> rfl)) ?_
                refine qx_y (sees_t rfl rfl rfl rfl hp16) (y_move_int rfl) ?_
                refine qx_y (sees_t rfl rfl rfl rfl hp16) (y_fieldAddr fo_52_2 rfl) ?_
                obtain ⟨hg25, h⟩ := guardO_some h
                refine qx_y (sees_t rfl rfl rfl rfl hp16) (y_indexArr ar_50 hg25.1 hg25.2 rfl rfl) ?_
                refine qx_y (sees_t rfl rfl rfl rfl hp16) (y_fieldAddr fo_33_1 rfl) ?_
                refine qx_y (sees_t rfl rfl rfl rfl hp16) (y_load1 0 (v := .int .i64 (sel3 p0_b.fKnown.x0.fHi p0_b.fKnown.x1.fHi p0_b.fKnown.x2.fHi s12.2)) sc_3 rfl rfl (by rcases in3 hg25 with e | e | e <;> rw [e] <;> rfl)) ?_
                refine qx_y (sees_t rfl rfl rfl rfl hp16) (y_gtr rfl rfl) ?_
                refine qx_y rfl (y_pick_fb (congrArg Value.bool hp16) rfl) ?_
                obtain rfl := Option.some.inj h
                exact key _ _ (keep (keep (keep (keep (keep (keep (keep rfl rfl) rfl) rfl) rfl) rfl) rfl) rfl)
          · refine cx_false (congrArg Value.bool hp14) ?_
            refine cx_exit ?_
            refine ex_then_exit ?_
            obtain rfl := Option.some.inj h
            exact ex_stop ⟨rfl, _, rfl, (keep (keep (keep (keep (keep rfl rfl) rfl) rfl) rfl) rfl)⟩
        · intro e L tm hJ
          rcases u13 with u27 | u28
          · dsimp only at h hJ
            obtain ⟨rfl, tm0_u27, rfl, rfl⟩ := hJ
            refine ⟨(by intro hc; cases hc), ?_⟩
            refine ex_block_ret ?_
            refine ex_then_ret ?_
            obtain rfl := Option.some.inj h
            exact ex_res1 (.inl rfl) rfl (resV_tmp (v := .int .i64 u27.1) rfl) (fun W2 hW2 => ⟨rfl, hW2.none⟩)
          · dsimp only at h hJ
            obtain ⟨rfl, tm0_u28, rfl, rfl⟩ := hJ
            refine ⟨(by intro hc; cases hc), ?_⟩
            refine ex_block_here ?_
            refine ex_then ?_
            refine cx_seq ?_
            refine cx_seq ?_
            refine cx_region ?_
            refine ox_y rfl (y_loadN 0 [.int .i64 p0_b.fBarrows, .int .i64 p0_b.fSeen.x0, .int .i64 p0_b.fSeen.x1, .int .i64 p0_b.fSeen.x2, .int .i64 p0_b.fKnown.x0.fLo, .int .i64 p0_b.fKnown.x0.fHi, .int .i64 p0_b.fKnown.x1.fLo, .int .i64 p0_b.fKnown.x1.fHi, .int .i64 p0_b.fKnown.x2.fLo, .int .i64 p0_b.fKnown.x2.fHi] ag_52 rfl rfl rfl) ?_
            obtain ⟨y29, hy30, h⟩ := bind_some h
            refine ox_call [.agg #[.int .i64 p0_b.fBarrows, .int .i64 p0_b.fSeen.x0, .int .i64 p0_b.fSeen.x1, .int .i64 p0_b.fSeen.x2, .int .i64 p0_b.fKnown.x0.fLo, .int .i64 p0_b.fKnown.x0.fHi, .int .i64 p0_b.fKnown.x1.fLo, .int .i64 p0_b.fKnown.x1.fHi, .int .i64 p0_b.fKnown.x2.fLo, .int .i64 p0_b.fKnown.x2.fHi]] _ _ _ rfl go_100 rfl (fun W2 hW2 => calxref03_wholes_ok p0_b y29 hy30 W2 ) ?_
            rintro ⟨A31, n33, c32⟩ hn34
            replace hn34 : n33 = y29.length := hn34; subst hn34
            refine ox_y rfl (y_len (us := []) us_53 rfl) ?_
            refine ox_y rfl (y_eql rfl rfl) ?_
            refine ox_nil ?_
            refine ex_then ?_
            rcases ite_some h with ⟨hp35, h⟩ | ⟨hp35, h⟩
            · refine cx_true (congrArg Value.bool hp35) ?_
              refine cx_seq ?_
              refine cx_region ?_
              refine ox_y rfl (y_assign_int rfl) ?_
              refine ox_nil ?_
              refine ex_then ?_
              refine cx_ret ?_
              refine ex_then_ret ?_
              obtain rfl := Option.some.inj h
              exact ex_res1 (.inl rfl) rfl (resV_tmp (v := .int .i64 9) rfl) (fun W2 hW2 => ⟨rfl, hW2.none⟩)
            · refine cx_false (congrArg Value.bool hp35) ?_
              refine cx_skip ?_
              refine ex_then ?_
              refine cx_seq ?_
              refine cx_region ?_
              refine ox_y rfl (y_assign_int rfl) ?_
              refine ox_nil ?_
              refine ex_then ?_
              refine cx_ret ?_
              obtain rfl := Option.some.inj h
              exact ex_res1 (.inl rfl) rfl (resV_tmp (v := .int .i64 0) rfl) (fun W2 hW2 => ⟨rfl, hW2.none⟩)
    · clear h; rcases ite_some hb9 with ⟨hp7, h⟩ | ⟨hp7, h⟩
      · refine qx_skip (sees_f rfl rfl rfl rfl hp7) ?_
        refine qx_skip (sees_f rfl rfl rfl rfl hp7) ?_
        refine qx_skip (sees_f rfl rfl rfl rfl hp7) ?_
        refine qx_skip (sees_f rfl rfl rfl rfl hp7) ?_
        refine qx_skip (sees_f rfl rfl rfl rfl hp7) ?_
        refine qx_skip (sees_f rfl rfl rfl rfl hp7) ?_
        refine qx_y rfl (y_pick_tb (congrArg Value.bool hp7) rfl) ?_
        obtain rfl := Option.some.inj h
        exact key _ _ (keep (keep (keep (keep rfl rfl) rfl) rfl) rfl)
      · refine qx_y (sees_t rfl rfl rfl rfl hp7) (y_fieldAddr fo_52_1 rfl) ?_
        refine qx_y (sees_t rfl rfl rfl rfl hp7) (y_loadN 0 [.int .i64 p0_b.fSeen.x0, .int .i64 p0_b.fSeen.x1, .int .i64 p0_b.fSeen.x2] ag_43 rfl rfl rfl) ?_
        obtain ⟨y36, hy37, h⟩ := bind_some h
        refine qx_y (sees_t rfl rfl rfl rfl hp7) (y_call [.agg #[.int .i64 p0_b.fSeen.x0, .int .i64 p0_b.fSeen.x1, .int .i64 p0_b.fSeen.x2]] go_96 rfl (fun W2 hW2 => calxref03_all_ok p0_b.fSeen y36 hy37 W2 ) rfl) ?_
        refine qx_y (sees_t rfl rfl rfl rfl hp7) (y_fieldAddr fo_52_0 rfl) ?_
        refine qx_y (sees_t rfl rfl rfl rfl hp7) (y_load1 0 (v := .int .i64 p0_b.fBarrows) sc_3 rfl rfl rfl) ?_
        refine qx_y (sees_t rfl rfl rfl rfl hp7) (y_gtr rfl rfl) ?_
        refine qx_y rfl (y_pick_fb (congrArg Value.bool hp7) rfl) ?_
        obtain rfl := Option.some.inj h
        exact key _ _ (keep (keep (keep (keep rfl rfl) rfl) rfl) rfl)
  · clear h; rcases ite_some hb6 with ⟨hp4, h⟩ | ⟨hp4, h⟩
    · refine qx_skip (sees_f rfl rfl rfl rfl hp4) ?_
      refine qx_skip (sees_f rfl rfl rfl rfl hp4) ?_
      refine qx_skip (sees_f rfl rfl rfl rfl hp4) ?_
      refine qx_skip (sees_f rfl rfl rfl rfl hp4) ?_
      refine qx_y rfl (y_pick_tb (congrArg Value.bool hp4) rfl) ?_
      obtain rfl := Option.some.inj h
      exact key _ _ (keep (keep (keep (keep rfl rfl) rfl) rfl) rfl)
    · refine qx_y (sees_t rfl rfl rfl rfl hp4) (y_fieldAddr fo_52_1 rfl) ?_
      refine qx_y (sees_t rfl rfl rfl rfl hp4) (y_loadN 0 [.int .i64 p0_b.fSeen.x0, .int .i64 p0_b.fSeen.x1, .int .i64 p0_b.fSeen.x2] ag_43 rfl rfl rfl) ?_
      obtain ⟨y38, hy39, h⟩ := bind_some h
      refine qx_y (sees_t rfl rfl rfl rfl hp4) (y_call [.agg #[.int .i64 p0_b.fSeen.x0, .int .i64 p0_b.fSeen.x1, .int .i64 p0_b.fSeen.x2]] go_92 rfl (fun W2 hW2 => calxref03_sorted_ok p0_b.fSeen y38 hy39 W2 ) rfl) ?_
      refine qx_y (sees_t rfl rfl rfl rfl hp4) (y_not rfl) ?_
      refine qx_y rfl (y_pick_fb (congrArg Value.bool hp4) rfl) ?_
      obtain rfl := Option.some.inj h
      exact key _ _ (keep (keep (keep (keep rfl rfl) rfl) rfl) rfl)

end Go.Proofs.Ytepfgdfahinpkaa
