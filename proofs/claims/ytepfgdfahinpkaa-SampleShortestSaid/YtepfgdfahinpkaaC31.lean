/- The calls hand back what the plain functions say. -/
import Derived.Test.YtepfgdfahinpkaaF
import Derived.Test.YtepfgdfahinpkaaC2
import Derived.Test.YtepfgdfahinpkaaC3
import Derived.Test.YtepfgdfahinpkaaC10
import Derived.Test.YtepfgdfahinpkaaC13
import Derived.Test.YtepfgdfahinpkaaC18
import Derived.Test.YtepfgdfahinpkaaC19
set_option linter.unusedVariables false
set_option maxHeartbeats 4000000
namespace Go.Proofs.Ytepfgdfahinpkaa
open Go.RowKit (Below)
attribute [local irreducible] OX QX CX EX OpY Calls CallsIn

/-! calx/calxref03.Shortest -/
set_option maxRecDepth 100000 in
theorem calxref03_Shortest_ok (p0 : TBatch) (p1 : Int) (p2 : TRatio) (res : (TSpan × Int)) (h : calxref03_Shortest p0 p1 p2 = some res) (W : World)  :
    Calls Try.prog 45 [.agg #[.int .i64 p0.fBarrows, .int .i64 p0.fSeen.x0, .int .i64 p0.fSeen.x1, .int .i64 p0.fSeen.x2, .int .i64 p0.fKnown.x0.fLo, .int .i64 p0.fKnown.x0.fHi, .int .i64 p0.fKnown.x1.fLo, .int .i64 p0.fKnown.x1.fHi, .int .i64 p0.fKnown.x2.fLo, .int .i64 p0.fKnown.x2.fHi], .int .i64 p1, .agg #[.int .i64 p2.fNum, .int .i64 p2.fDen]].toArray W fun e W2 => e = .returned (.tuple #[.agg #[.int .i64 res.1.fLo, .int .i64 res.1.fHi], .int .i64 res.2]) ∧ Ext W W2 [] := by
  unfold calxref03_Shortest at h
  refine calls_enter (m := 69) Try.func45 rfl rfl (Nat.le_of_ble_eq_true rfl) ?_
  refine cx_seq ?_
  refine cx_region ?_
  refine ox_box [.int .i64 p0.fBarrows, .int .i64 p0.fSeen.x0, .int .i64 p0.fSeen.x1, .int .i64 p0.fSeen.x2, .int .i64 p0.fKnown.x0.fLo, .int .i64 p0.fKnown.x0.fHi, .int .i64 p0.fKnown.x1.fLo, .int .i64 p0.fKnown.x1.fHi, .int .i64 p0.fKnown.x2.fLo, .int .i64 p0.fKnown.x2.fHi] rfl rfl rfl (fun b1 => ?_)
  refine ox_box [.int .i64 p2.fNum, .int .i64 p2.fDen] rfl rfl rfl (fun b2 => ?_)
  refine ox_alloc ze_33 rfl (fun b3 => ?_)
  refine ox_y rfl (y_assign_int rfl) ?_
  refine ox_nil ?_
  refine ex_then ?_
  refine cx_seq ?_
  refine cx_region ?_
  refine ox_y rfl (y_loadN 0 [.int .i64 p0.fBarrows, .int .i64 p0.fSeen.x0, .int .i64 p0.fSeen.x1, .int .i64 p0.fSeen.x2, .int .i64 p0.fKnown.x0.fLo, .int .i64 p0.fKnown.x0.fHi, .int .i64 p0.fKnown.x1.fLo, .int .i64 p0.fKnown.x1.fHi, .int .i64 p0.fKnown.x2.fLo, .int .i64 p0.fKnown.x2.fHi] ag_52 rfl rfl rfl) ?_
  refine ox_y rfl (y_move_int rfl) ?_
  obtain ⟨y4, hy5, h⟩ := bind_some h
  refine ox_y rfl (y_call [.agg #[.int .i64 p0.fBarrows, .int .i64 p0.fSeen.x0, .int .i64 p0.fSeen.x1, .int .i64 p0.fSeen.x2, .int .i64 p0.fKnown.x0.fLo, .int .i64 p0.fKnown.x0.fHi, .int .i64 p0.fKnown.x1.fLo, .int .i64 p0.fKnown.x1.fHi, .int .i64 p0.fKnown.x2.fLo, .int .i64 p0.fKnown.x2.fHi], .int .i64 p1] go_102 rfl (fun W2 hW2 => calxref03_kind_ok p0 p1 y4 hy5 W2 ) rfl) ?_
  refine ox_y rfl (y_assign_int rfl) ?_
  refine ox_nil ?_
  refine ex_then ?_
  refine cx_seq ?_
  refine cx_seq ?_
  refine cx_region ?_
  refine ox_y rfl (y_move_int rfl) ?_
  refine ox_y rfl (y_eql rfl rfl) ?_
  refine ox_y rfl (y_move_bool rfl) ?_
  obtain ⟨b7, hb8, h⟩ := bind_some h
  refine ox_join 4 (fun tm0 => (upd (upd (upd (upd (upd (upd (upd (upd (upd tm0 0 (.agg #[.int .i64 p0.fBarrows, .int .i64 p0.fSeen.x0, .int .i64 p0.fSeen.x1, .int .i64 p0.fSeen.x2, .int .i64 p0.fKnown.x0.fLo, .int .i64 p0.fKnown.x0.fHi, .int .i64 p0.fKnown.x1.fLo, .int .i64 p0.fKnown.x1.fHi, .int .i64 p0.fKnown.x2.fLo, .int .i64 p0.fKnown.x2.fHi])) 1 (.int .i64 p1)) 2 (.agg #[.int .i64 p2.fNum, .int .i64 p2.fDen])) 3 (.pointer (some ⟨b1, 0, none⟩))) 5 (.pointer (some ⟨b2, 0, none⟩))) 6 (.pointer (some ⟨b3, 0, none⟩))) 7 (.int .i64 0)) 8 (.int .i64 y4)) 24 (.bool b7))) (fun tm0 => ?_) (fun key => ?_)
  · refine ox_nil ?_
    refine ex_then ?_
    rcases ite_some h with ⟨hp9, h⟩ | ⟨hp9, h⟩
    · refine cx_true (congrArg Value.bool hp9) ?_
      refine cx_region ?_
      refine ox_y rfl (y_assign_int rfl) ?_
      refine ox_nil ?_
      refine ex_then ?_
      refine cx_seq ?_
      refine cx_seq ?_
      refine cx_region ?_
      refine ox_y rfl (y_move_int rfl) ?_
      refine ox_y rfl (y_neq rfl rfl) ?_
      refine ox_nil ?_
      refine ex_then ?_
      rcases ite_some h with ⟨hp10, h⟩ | ⟨hp10, h⟩
      · refine cx_true (congrArg Value.bool hp10) ?_
        refine cx_seq ?_
        refine cx_region ?_
        refine ox_y rfl (y_buildS [.int .i64 0, .int .i64 0] [(0, 1), (1, 1)] ust_33 ze_33 (by kernel_rfl)) ?_
        refine ox_y rfl (y_move_int rfl) ?_
        refine ox_n rfl (y_storeN 2 [.int .i64 0, .int .i64 0] sz_33 rfl (Nat.le_of_ble_eq_true rfl) rfl rfl rfl) ?_
        refine ox_y rfl (y_assign_int rfl) ?_
        refine ox_nil ?_
        refine ex_then ?_
        refine cx_ret ?_
        refine ex_then_ret ?_
        obtain rfl := Option.some.inj h
        exact ex_res2 (.inl rfl) rfl (resV_cellN 2 [.int .i64 0, .int .i64 0] ag_33 rfl rfl rfl) (resV_tmp (v := .int .i64 1) rfl) (fun W2 hW2 => ⟨rfl, hW2.none⟩)
      · refine cx_false (congrArg Value.bool hp10) ?_
        refine cx_skip ?_
        refine ex_then ?_
        refine cx_seq ?_
        refine cx_region ?_
        refine ox_y rfl (y_loadN 0 [.int .i64 p0.fBarrows, .int .i64 p0.fSeen.x0, .int .i64 p0.fSeen.x1, .int .i64 p0.fSeen.x2, .int .i64 p0.fKnown.x0.fLo, .int .i64 p0.fKnown.x0.fHi, .int .i64 p0.fKnown.x1.fLo, .int .i64 p0.fKnown.x1.fHi, .int .i64 p0.fKnown.x2.fLo, .int .i64 p0.fKnown.x2.fHi] ag_52 rfl rfl rfl) ?_
        refine ox_y rfl (y_move_int rfl) ?_
        obtain ⟨y11, hy12, h⟩ := bind_some h
        refine ox_call [.agg #[.int .i64 p0.fBarrows, .int .i64 p0.fSeen.x0, .int .i64 p0.fSeen.x1, .int .i64 p0.fSeen.x2, .int .i64 p0.fKnown.x0.fLo, .int .i64 p0.fKnown.x0.fHi, .int .i64 p0.fKnown.x1.fLo, .int .i64 p0.fKnown.x1.fHi, .int .i64 p0.fKnown.x2.fLo, .int .i64 p0.fKnown.x2.fHi], .int .i64 p1] _ _ _ rfl go_110 rfl (fun W2 hW2 => calxref03_weights_ok p0 p1 y11 hy12 W2 ) ?_
        rintro ⟨A13, n15, c14⟩ hn16
        replace hn16 : n15 = y11.length := hn16; subst hn16
        refine ox_y rfl (y_assign_slice rfl) ?_
        refine ox_nil ?_
        refine ex_then ?_
        refine cx_seq ?_
        refine cx_region ?_
        refine ox_y rfl (y_move_slice rfl) ?_
        obtain ⟨y17, hy18, h⟩ := bind_some h
        refine ox_y rfl (y_call [.slice A13 y11.length c14] go_111 rfl (fun W2 hW2 => calxref03_total_ok y11 y17 hy18 W2 A13 y11.length c14 rfl ((RdL.row 3 rfl) W2 hW2)) rfl) ?_
        refine ox_y rfl (y_assign_int rfl) ?_
        refine ox_nil ?_
        refine ex_then ?_
        refine cx_seq ?_
        refine cx_region ?_
        refine ox_y rfl (y_fieldAddr fo_52_0 rfl) ?_
        refine ox_y rfl (y_load1 0 (v := .int .i64 p0.fBarrows) sc_3 rfl rfl rfl) ?_
        refine ox_y rfl (y_buildS [.int .i64 0, .int .i64 p0.fBarrows] [(0, 1), (1, 1)] ust_33 ze_33 (by kernel_rfl)) ?_
        refine ox_alloc ze_33 rfl (fun b19 => ?_)
        refine ox_n rfl (y_storeN 4 [.int .i64 0, .int .i64 p0.fBarrows] sz_33 rfl (Nat.le_of_ble_eq_true rfl) rfl rfl rfl) ?_
        refine ox_nil ?_
        refine ex_then ?_
        refine cx_seq ?_
        refine cx_seq ?_
        refine cx_region ?_
        refine ox_y rfl (y_assign_int rfl) ?_
        refine ox_nil ?_
        refine ex_then ?_
        refine cx_block ?_
        obtain ⟨u23, hl37, h⟩ := bind_some h
        refine cx_loop (fun (s : (Int × Int × Int × Int)) L tm => ∃ (tm0 : Nat → Value), L = [cellsR b1 52 [.int .i64 p0.fBarrows, .int .i64 p0.fSeen.x0, .int .i64 p0.fSeen.x1, .int .i64 p0.fSeen.x2, .int .i64 p0.fKnown.x0.fLo, .int .i64 p0.fKnown.x0.fHi, .int .i64 p0.fKnown.x1.fLo, .int .i64 p0.fKnown.x1.fHi, .int .i64 p0.fKnown.x2.fLo, .int .i64 p0.fKnown.x2.fHi], cellsR b2 23 [.int .i64 p2.fNum, .int .i64 p2.fDen], cellsR b3 33 [.int .i64 s.2.2.1, .int .i64 s.2.2.2], rowR A13 c14 3 1 y11.length (encL cI y11), cellsR b19 33 [.int .i64 0, .int .i64 p0.fBarrows]] ∧ tm = (upd (upd (upd (upd (upd (upd (upd (upd (upd (upd (upd (upd (upd (upd tm0 0 (.agg #[.int .i64 p0.fBarrows, .int .i64 p0.fSeen.x0, .int .i64 p0.fSeen.x1, .int .i64 p0.fSeen.x2, .int .i64 p0.fKnown.x0.fLo, .int .i64 p0.fKnown.x0.fHi, .int .i64 p0.fKnown.x1.fLo, .int .i64 p0.fKnown.x1.fHi, .int .i64 p0.fKnown.x2.fLo, .int .i64 p0.fKnown.x2.fHi])) 1 (.int .i64 p1)) 2 (.agg #[.int .i64 p2.fNum, .int .i64 p2.fDen])) 3 (.pointer (some ⟨b1, 0, none⟩))) 5 (.pointer (some ⟨b2, 0, none⟩))) 6 (.pointer (some ⟨b3, 0, none⟩))) 7 (.int .i64 s.1)) 8 (.int .i64 1)) 24 (.bool b7)) 26 (.bool (1 != 0))) 9 (.slice A13 y11.length c14)) 10 (.int .i64 y17)) 11 (.pointer (some ⟨b19, 0, none⟩))) 12 (.int .i64 s.2.1))) (fun | (.inl s), e, L, tm => e = .ret ∧ ∃ (tm0 : Nat → Value), L = [cellsR b1 52 [.int .i64 p0.fBarrows, .int .i64 p0.fSeen.x0, .int .i64 p0.fSeen.x1, .int .i64 p0.fSeen.x2, .int .i64 p0.fKnown.x0.fLo, .int .i64 p0.fKnown.x0.fHi, .int .i64 p0.fKnown.x1.fLo, .int .i64 p0.fKnown.x1.fHi, .int .i64 p0.fKnown.x2.fLo, .int .i64 p0.fKnown.x2.fHi], cellsR b2 23 [.int .i64 p2.fNum, .int .i64 p2.fDen], cellsR b3 33 [.int .i64 s.2.2.1, .int .i64 s.2.2.2], rowR A13 c14 3 1 y11.length (encL cI y11), cellsR b19 33 [.int .i64 0, .int .i64 p0.fBarrows]] ∧ tm = (upd (upd (upd (upd (upd (upd (upd (upd (upd (upd (upd (upd (upd (upd tm0 0 (.agg #[.int .i64 p0.fBarrows, .int .i64 p0.fSeen.x0, .int .i64 p0.fSeen.x1, .int .i64 p0.fSeen.x2, .int .i64 p0.fKnown.x0.fLo, .int .i64 p0.fKnown.x0.fHi, .int .i64 p0.fKnown.x1.fLo, .int .i64 p0.fKnown.x1.fHi, .int .i64 p0.fKnown.x2.fLo, .int .i64 p0.fKnown.x2.fHi])) 1 (.int .i64 p1)) 2 (.agg #[.int .i64 p2.fNum, .int .i64 p2.fDen])) 3 (.pointer (some ⟨b1, 0, none⟩))) 5 (.pointer (some ⟨b2, 0, none⟩))) 6 (.pointer (some ⟨b3, 0, none⟩))) 7 (.int .i64 s.1)) 8 (.int .i64 1)) 24 (.bool b7)) 26 (.bool (1 != 0))) 9 (.slice A13 y11.length c14)) 10 (.int .i64 y17)) 11 (.pointer (some ⟨b19, 0, none⟩))) 12 (.int .i64 s.2.1)) | (.inr s), e, L, tm => e = .exit 0 ∧ ∃ (tm0 : Nat → Value), L = [cellsR b1 52 [.int .i64 p0.fBarrows, .int .i64 p0.fSeen.x0, .int .i64 p0.fSeen.x1, .int .i64 p0.fSeen.x2, .int .i64 p0.fKnown.x0.fLo, .int .i64 p0.fKnown.x0.fHi, .int .i64 p0.fKnown.x1.fLo, .int .i64 p0.fKnown.x1.fHi, .int .i64 p0.fKnown.x2.fLo, .int .i64 p0.fKnown.x2.fHi], cellsR b2 23 [.int .i64 p2.fNum, .int .i64 p2.fDen], cellsR b3 33 [.int .i64 s.2.2.1, .int .i64 s.2.2.2], rowR A13 c14 3 1 y11.length (encL cI y11), cellsR b19 33 [.int .i64 0, .int .i64 p0.fBarrows]] ∧ tm = (upd (upd (upd (upd (upd (upd (upd (upd (upd (upd (upd (upd (upd (upd tm0 0 (.agg #[.int .i64 p0.fBarrows, .int .i64 p0.fSeen.x0, .int .i64 p0.fSeen.x1, .int .i64 p0.fSeen.x2, .int .i64 p0.fKnown.x0.fLo, .int .i64 p0.fKnown.x0.fHi, .int .i64 p0.fKnown.x1.fLo, .int .i64 p0.fKnown.x1.fHi, .int .i64 p0.fKnown.x2.fLo, .int .i64 p0.fKnown.x2.fHi])) 1 (.int .i64 p1)) 2 (.agg #[.int .i64 p2.fNum, .int .i64 p2.fDen])) 3 (.pointer (some ⟨b1, 0, none⟩))) 5 (.pointer (some ⟨b2, 0, none⟩))) 6 (.pointer (some ⟨b3, 0, none⟩))) 7 (.int .i64 s.1)) 8 (.int .i64 1)) 24 (.bool b7)) 26 (.bool (1 != 0))) 9 (.slice A13 y11.length c14)) 10 (.int .i64 y17)) 11 (.pointer (some ⟨b19, 0, none⟩))) 12 (.int .i64 s.2.1))) hl37 ⟨_, rfl, (keep (keep (keep (keep (keep (keep (keep (keep (keep (keep (keep (keep (keep (keep rfl rfl) rfl) rfl) rfl) rfl) rfl) rfl) rfl) rfl) rfl) rfl) rfl) rfl) rfl)⟩ ?_ ?_
        · rintro s22 L tm st ⟨tm0_s22, rfl, rfl⟩ h
          unfold calxref03_Shortest_l1 at h
          refine cx_seq ?_
          refine cx_seq ?_
          refine cx_region ?_
          refine ox_y rfl (y_move_int rfl) ?_
          refine ox_y rfl (y_fieldAddr fo_52_0 rfl) ?_
          refine ox_y rfl (y_load1 0 (v := .int .i64 p0.fBarrows) sc_3 rfl rfl rfl) ?_
          refine ox_y rfl (y_leq rfl rfl) ?_
          refine ox_nil ?_
          refine ex_then ?_
          rcases ite_some h with ⟨hp24, h⟩ | ⟨hp24, h⟩
          · refine cx_true (congrArg Value.bool hp24) ?_
            refine cx_skip ?_
            refine ex_then ?_
            refine cx_seq ?_
            refine cx_block ?_
            refine cx_seq ?_
            refine cx_region ?_
            refine ox_y rfl (y_assign_int rfl) ?_
            refine ox_nil ?_
            refine ex_then ?_
            refine cx_block ?_
            obtain ⟨u28, hl34, h⟩ := bind_some h
            refine cx_loop (fun (s : (Int × Int × Int × Int)) L tm => ∃ (tm0 : Nat → Value), L = [cellsR b1 52 [.int .i64 p0.fBarrows, .int .i64 p0.fSeen.x0, .int .i64 p0.fSeen.x1, .int .i64 p0.fSeen.x2, .int .i64 p0.fKnown.x0.fLo, .int .i64 p0.fKnown.x0.fHi, .int .i64 p0.fKnown.x1.fLo, .int .i64 p0.fKnown.x1.fHi, .int .i64 p0.fKnown.x2.fLo, .int .i64 p0.fKnown.x2.fHi], cellsR b2 23 [.int .i64 p2.fNum, .int .i64 p2.fDen], cellsR b3 33 [.int .i64 s.2.2.1, .int .i64 s.2.2.2], rowR A13 c14 3 1 y11.length (encL cI y11), cellsR b19 33 [.int .i64 0, .int .i64 p0.fBarrows]] ∧ tm = (upd (upd (upd (upd (upd (upd (upd (upd (upd (upd (upd (upd (upd (upd (upd (upd tm0 0 (.agg #[.int .i64 p0.fBarrows, .int .i64 p0.fSeen.x0, .int .i64 p0.fSeen.x1, .int .i64 p0.fSeen.x2, .int .i64 p0.fKnown.x0.fLo, .int .i64 p0.fKnown.x0.fHi, .int .i64 p0.fKnown.x1.fLo, .int .i64 p0.fKnown.x1.fHi, .int .i64 p0.fKnown.x2.fLo, .int .i64 p0.fKnown.x2.fHi])) 1 (.int .i64 p1)) 2 (.agg #[.int .i64 p2.fNum, .int .i64 p2.fDen])) 3 (.pointer (some ⟨b1, 0, none⟩))) 5 (.pointer (some ⟨b2, 0, none⟩))) 6 (.pointer (some ⟨b3, 0, none⟩))) 7 (.int .i64 s.1)) 8 (.int .i64 1)) 24 (.bool b7)) 26 (.bool (1 != 0))) 9 (.slice A13 y11.length c14)) 10 (.int .i64 y17)) 11 (.pointer (some ⟨b19, 0, none⟩))) 12 (.int .i64 s22.2.1)) 40 (.bool (decide (s22.2.1 ≤ p0.fBarrows)))) 13 (.int .i64 s.2.1))) (fun | (.inl s), e, L, tm => e = .ret ∧ ∃ (tm0 : Nat → Value), L = [cellsR b1 52 [.int .i64 p0.fBarrows, .int .i64 p0.fSeen.x0, .int .i64 p0.fSeen.x1, .int .i64 p0.fSeen.x2, .int .i64 p0.fKnown.x0.fLo, .int .i64 p0.fKnown.x0.fHi, .int .i64 p0.fKnown.x1.fLo, .int .i64 p0.fKnown.x1.fHi, .int .i64 p0.fKnown.x2.fLo, .int .i64 p0.fKnown.x2.fHi], cellsR b2 23 [.int .i64 p2.fNum, .int .i64 p2.fDen], cellsR b3 33 [.int .i64 s.2.2.1, .int .i64 s.2.2.2], rowR A13 c14 3 1 y11.length (encL cI y11), cellsR b19 33 [.int .i64 0, .int .i64 p0.fBarrows]] ∧ tm = (upd (upd (upd (upd (upd (upd (upd (upd (upd (upd (upd (upd (upd (upd (upd (upd tm0 0 (.agg #[.int .i64 p0.fBarrows, .int .i64 p0.fSeen.x0, .int .i64 p0.fSeen.x1, .int .i64 p0.fSeen.x2, .int .i64 p0.fKnown.x0.fLo, .int .i64 p0.fKnown.x0.fHi, .int .i64 p0.fKnown.x1.fLo, .int .i64 p0.fKnown.x1.fHi, .int .i64 p0.fKnown.x2.fLo, .int .i64 p0.fKnown.x2.fHi])) 1 (.int .i64 p1)) 2 (.agg #[.int .i64 p2.fNum, .int .i64 p2.fDen])) 3 (.pointer (some ⟨b1, 0, none⟩))) 5 (.pointer (some ⟨b2, 0, none⟩))) 6 (.pointer (some ⟨b3, 0, none⟩))) 7 (.int .i64 s.1)) 8 (.int .i64 1)) 24 (.bool b7)) 26 (.bool (1 != 0))) 9 (.slice A13 y11.length c14)) 10 (.int .i64 y17)) 11 (.pointer (some ⟨b19, 0, none⟩))) 12 (.int .i64 s22.2.1)) 40 (.bool (decide (s22.2.1 ≤ p0.fBarrows)))) 13 (.int .i64 s.2.1)) | (.inr s), e, L, tm => e = .exit 2 ∧ ∃ (tm0 : Nat → Value), L = [cellsR b1 52 [.int .i64 p0.fBarrows, .int .i64 p0.fSeen.x0, .int .i64 p0.fSeen.x1, .int .i64 p0.fSeen.x2, .int .i64 p0.fKnown.x0.fLo, .int .i64 p0.fKnown.x0.fHi, .int .i64 p0.fKnown.x1.fLo, .int .i64 p0.fKnown.x1.fHi, .int .i64 p0.fKnown.x2.fLo, .int .i64 p0.fKnown.x2.fHi], cellsR b2 23 [.int .i64 p2.fNum, .int .i64 p2.fDen], cellsR b3 33 [.int .i64 s.2.2.1, .int .i64 s.2.2.2], rowR A13 c14 3 1 y11.length (encL cI y11), cellsR b19 33 [.int .i64 0, .int .i64 p0.fBarrows]] ∧ tm = (upd (upd (upd (upd (upd (upd (upd (upd (upd (upd (upd (upd (upd (upd (upd (upd tm0 0 (.agg #[.int .i64 p0.fBarrows, .int .i64 p0.fSeen.x0, .int .i64 p0.fSeen.x1, .int .i64 p0.fSeen.x2, .int .i64 p0.fKnown.x0.fLo, .int .i64 p0.fKnown.x0.fHi, .int .i64 p0.fKnown.x1.fLo, .int .i64 p0.fKnown.x1.fHi, .int .i64 p0.fKnown.x2.fLo, .int .i64 p0.fKnown.x2.fHi])) 1 (.int .i64 p1)) 2 (.agg #[.int .i64 p2.fNum, .int .i64 p2.fDen])) 3 (.pointer (some ⟨b1, 0, none⟩))) 5 (.pointer (some ⟨b2, 0, none⟩))) 6 (.pointer (some ⟨b3, 0, none⟩))) 7 (.int .i64 s.1)) 8 (.int .i64 1)) 24 (.bool b7)) 26 (.bool (1 != 0))) 9 (.slice A13 y11.length c14)) 10 (.int .i64 y17)) 11 (.pointer (some ⟨b19, 0, none⟩))) 12 (.int .i64 s22.2.1)) 40 (.bool (decide (s22.2.1 ≤ p0.fBarrows)))) 13 (.int .i64 s.2.1))) hl34 ⟨_, rfl, (keep (keep (keep (keep (keep (keep (keep (keep (keep (keep (keep (keep (keep (keep (keep (keep rfl rfl) rfl) rfl) rfl) rfl) rfl) rfl) rfl) rfl) rfl) rfl) rfl) rfl) rfl) rfl) rfl)⟩ ?_ ?_
            · rintro s27 L tm st ⟨tm0_s27, rfl, rfl⟩ h
              unfold calxref03_Shortest_l2 at h
              refine cx_seq ?_
              refine cx_seq ?_
              refine cx_region ?_
              refine ox_y rfl (y_move_int rfl) ?_
              refine ox_y rfl (y_move_int rfl) ?_
              refine ox_y rfl (y_add rfl rfl) ?_
              refine ox_y rfl (y_fieldAddr fo_52_0 rfl) ?_
              refine ox_y rfl (y_load1 0 (v := .int .i64 p0.fBarrows) sc_3 rfl rfl rfl) ?_
              refine ox_y rfl (y_leq rfl rfl) ?_
              refine ox_nil ?_
              refine ex_then ?_
              rcases ite_some h with ⟨hp29, h⟩ | ⟨hp29, h⟩
              · refine cx_true (congrArg Value.bool hp29) ?_
                refine cx_skip ?_
                refine ex_then ?_
                refine cx_seq ?_
                refine cx_block ?_
                refine cx_seq ?_
                refine cx_region ?_
                refine ox_y rfl (y_move_int rfl) ?_
                refine ox_y rfl (y_move_int rfl) ?_
                refine ox_y rfl (y_move_int rfl) ?_
                refine ox_y rfl (y_add rfl rfl) ?_
                refine ox_y rfl (y_buildS [.int .i64 s27.2.1, .int .i64 (w64 (s27.2.1 + s22.2.1))] [(0, 1), (1, 1)] ust_33 ze_33 (by kernel_rfl)) ?_
                refine ox_alloc ze_33 rfl (fun b30 => ?_)
                try dsimp only [List.nil_append, List.cons_append, List.set_cons_zero, List.set_cons_succ]
                refine ox_n rfl (y_storeN 5 [.int .i64 s27.2.1, .int .i64 (w64 (s27.2.1 + s22.2.1))] sz_33 rfl (Nat.le_of_ble_eq_true rfl) rfl rfl rfl) ?_
                refine ox_nil ?_
                refine ex_then ?_
                refine cx_seq ?_
                refine cx_draws 11 mixed (by kernel_rfl) (by kernel_rfl) ?_
                refine qx_y rfl (y_move_slice rfl) ?_
                refine qx_y rfl (y_loadN 5 [.int .i64 s27.2.1, .int .i64 (w64 (s27.2.1 + s22.2.1))] ag_33 rfl rfl rfl) ?_
                obtain ⟨y31, hy32, h⟩ := bind_some h
                refine qx_y rfl (y_call [.slice A13 y11.length c14, .agg #[.int .i64 s27.2.1, .int .i64 (w64 (s27.2.1 + s22.2.1))]] go_112 rfl (fun W2 hW2 => calxref03_weight_ok y11 (TSpan.mk s27.2.1 (w64 (s27.2.1 + s22.2.1))) y31 hy32 W2 A13 y11.length c14 rfl ((RdL.row 3 rfl) W2 hW2)) rfl) ?_
                refine qx_y rfl (y_fieldAddr fo_23_1 rfl) ?_
                refine qx_y rfl (y_load1 1 (v := .int .i64 p2.fDen) sc_3 rfl rfl rfl) ?_
                refine qx_y rfl (y_mul rfl rfl) ?_
                refine qx_y rfl (y_move_int rfl) ?_
                refine qx_y rfl (y_fieldAddr fo_23_0 rfl) ?_
                refine qx_y rfl (y_load1 1 (v := .int .i64 p2.fNum) sc_3 rfl rfl rfl) ?_
                refine qx_y rfl (y_mul rfl rfl) ?_
                refine qx_y rfl (y_geq rfl rfl) ?_
                refine qx_nil ?_
                refine ox_nil ?_
                refine ex_then ?_
                rcases ite_some h with ⟨hp33, h⟩ | ⟨hp33, h⟩
                · refine cx_true (congrArg Value.bool hp33) ?_
                  refine cx_seq ?_
                  refine cx_region ?_
                  refine ox_y rfl (y_loadN 5 [.int .i64 s27.2.1, .int .i64 (w64 (s27.2.1 + s22.2.1))] ag_33 rfl rfl rfl) ?_
                  refine ox_n rfl (y_storeN 2 [.int .i64 s27.2.1, .int .i64 (w64 (s27.2.1 + s22.2.1))] sz_33 rfl (Nat.le_of_ble_eq_true rfl) rfl rfl rfl) ?_
                  refine ox_y rfl (y_assign_int rfl) ?_
                  refine ox_nil ?_
                  refine ex_then ?_
                  refine cx_ret ?_
                  refine ex_block_ret ?_
                  refine ex_then_ret ?_
                  refine ex_take 5 ?_
                  obtain rfl := Option.some.inj h
                  exact ex_stop ⟨rfl, _, rfl, (keep (keep (keep (keep (keep (keep (keep (keep (keep (keep (keep (keep (keep (keep (keep (keep rfl rfl) rfl) rfl) rfl) rfl) rfl) rfl) rfl) rfl) rfl) rfl) rfl) rfl) rfl) rfl) rfl)⟩
                · refine cx_false (congrArg Value.bool hp33) ?_
                  refine cx_skip ?_
                  refine ex_block ?_
                  refine ex_then ?_
                  refine cx_region ?_
                  refine ox_y rfl (y_move_int rfl) ?_
                  refine ox_y rfl (y_add rfl rfl) ?_
                  refine ox_y rfl (y_assign_int rfl) ?_
                  refine ox_nil ?_
                  refine ex_take 5 ?_
                  obtain rfl := Option.some.inj h
                  exact ex_next ⟨_, rfl, (keep (keep (keep (keep (keep (keep (keep (keep (keep (keep (keep (keep (keep (keep (keep (keep rfl rfl) rfl) rfl) rfl) rfl) rfl) rfl) rfl) rfl) rfl) rfl) rfl) rfl) rfl) rfl) rfl)⟩
              · refine cx_false (congrArg Value.bool hp29) ?_
                refine cx_exit ?_
                refine ex_then_exit ?_
                obtain rfl := Option.some.inj h
                exact ex_stop ⟨rfl, _, rfl, (keep (keep (keep (keep (keep (keep (keep (keep (keep (keep (keep (keep (keep (keep (keep (keep rfl rfl) rfl) rfl) rfl) rfl) rfl) rfl) rfl) rfl) rfl) rfl) rfl) rfl) rfl) rfl) rfl)⟩
            · intro e L tm hJ
              rcases u28 with u35 | u36
              · dsimp only at h hJ
                obtain ⟨rfl, tm0_u35, rfl, rfl⟩ := hJ
                refine ⟨(by intro hc; cases hc), ?_⟩
                refine ex_block_ret ?_
                refine ex_block_ret ?_
                refine ex_then_ret ?_
                obtain rfl := Option.some.inj h
                exact ex_stop ⟨rfl, _, rfl, (keep (keep (keep (keep (keep (keep (keep (keep (keep (keep (keep (keep (keep (keep rfl rfl) rfl) rfl) rfl) rfl) rfl) rfl) rfl) rfl) rfl) rfl) rfl) rfl) rfl)⟩
              · dsimp only at h hJ
                obtain ⟨rfl, tm0_u36, rfl, rfl⟩ := hJ
                refine ⟨(by intro hc; cases hc), ?_⟩
                refine ex_block_here ?_
                refine ex_block ?_
                refine ex_then ?_
                refine cx_region ?_
                refine ox_y rfl (y_move_int rfl) ?_
                refine ox_y rfl (y_add rfl rfl) ?_
                refine ox_y rfl (y_assign_int rfl) ?_
                refine ox_nil ?_
                obtain rfl := Option.some.inj h
                exact ex_next ⟨_, rfl, (keep (keep (keep (keep (keep (keep (keep (keep (keep (keep (keep (keep (keep (keep rfl rfl) rfl) rfl) rfl) rfl) rfl) rfl) rfl) rfl) rfl) rfl) rfl) rfl) rfl)⟩
          · refine cx_false (congrArg Value.bool hp24) ?_
            refine cx_exit ?_
            refine ex_then_exit ?_
            obtain rfl := Option.some.inj h
            exact ex_stop ⟨rfl, _, rfl, (keep (keep (keep (keep (keep (keep (keep (keep (keep (keep (keep (keep (keep (keep rfl rfl) rfl) rfl) rfl) rfl) rfl) rfl) rfl) rfl) rfl) rfl) rfl) rfl) rfl)⟩
        · intro e L tm hJ
          rcases u23 with u38 | u39
          · dsimp only at h hJ
            obtain ⟨rfl, tm0_u38, rfl, rfl⟩ := hJ
            refine ⟨(by intro hc; cases hc), ?_⟩
            refine ex_block_ret ?_
            refine ex_then_ret ?_
            obtain rfl := Option.some.inj h
            exact ex_res2 (.inl rfl) rfl (resV_cellN 2 [.int .i64 u38.2.2.1, .int .i64 u38.2.2.2] ag_33 rfl rfl rfl) (resV_tmp (v := .int .i64 u38.1) rfl) (fun W2 hW2 => ⟨rfl, hW2.none⟩)
          · dsimp only at h hJ
            obtain ⟨rfl, tm0_u39, rfl, rfl⟩ := hJ
            refine ⟨(by intro hc; cases hc), ?_⟩
            refine ex_block_here ?_
            refine ex_then ?_
            refine cx_seq ?_
            refine cx_region ?_
            refine ox_y rfl (y_loadN 4 [.int .i64 0, .int .i64 p0.fBarrows] ag_33 rfl rfl rfl) ?_
            refine ox_n rfl (y_storeN 2 [.int .i64 0, .int .i64 p0.fBarrows] sz_33 rfl (Nat.le_of_ble_eq_true rfl) rfl rfl rfl) ?_
            refine ox_y rfl (y_assign_int rfl) ?_
            refine ox_nil ?_
            refine ex_then ?_
            refine cx_ret ?_
            obtain rfl := Option.some.inj h
            exact ex_res2 (.inl rfl) rfl (resV_cellN 2 [.int .i64 0, .int .i64 p0.fBarrows] ag_33 rfl rfl rfl) (resV_tmp (v := .int .i64 0) rfl) (fun W2 hW2 => ⟨rfl, hW2.none⟩)
    · refine cx_false (congrArg Value.bool hp9) ?_
      refine cx_skip ?_
      refine ex_then ?_
      refine cx_seq ?_
      refine cx_seq ?_
      refine cx_region ?_
      refine ox_y rfl (y_move_int rfl) ?_
      refine ox_y rfl (y_neq rfl rfl) ?_
      refine ox_nil ?_
      refine ex_then ?_
      rcases ite_some h with ⟨hp40, h⟩ | ⟨hp40, h⟩
      · refine cx_true (congrArg Value.bool hp40) ?_
        refine cx_seq ?_
        refine cx_region ?_
        refine ox_y rfl (y_buildS [.int .i64 0, .int .i64 0] [(0, 1), (1, 1)] ust_33 ze_33 (by kernel_rfl)) ?_
        refine ox_y rfl (y_move_int rfl) ?_
        refine ox_n rfl (y_storeN 2 [.int .i64 0, .int .i64 0] sz_33 rfl (Nat.le_of_ble_eq_true rfl) rfl rfl rfl) ?_
        refine ox_y rfl (y_assign_int rfl) ?_
        refine ox_nil ?_
        refine ex_then ?_
        refine cx_ret ?_
        refine ex_then_ret ?_
        obtain rfl := Option.some.inj h
        exact ex_res2 (.inl rfl) rfl (resV_cellN 2 [.int .i64 0, .int .i64 0] ag_33 rfl rfl rfl) (resV_tmp (v := .int .i64 y4) rfl) (fun W2 hW2 => ⟨rfl, hW2.none⟩)
      · refine cx_false (congrArg Value.bool hp40) ?_
        refine cx_skip ?_
        refine ex_then ?_
        refine cx_seq ?_
        refine cx_region ?_
        refine ox_y rfl (y_loadN 0 [.int .i64 p0.fBarrows, .int .i64 p0.fSeen.x0, .int .i64 p0.fSeen.x1, .int .i64 p0.fSeen.x2, .int .i64 p0.fKnown.x0.fLo, .int .i64 p0.fKnown.x0.fHi, .int .i64 p0.fKnown.x1.fLo, .int .i64 p0.fKnown.x1.fHi, .int .i64 p0.fKnown.x2.fLo, .int .i64 p0.fKnown.x2.fHi] ag_52 rfl rfl rfl) ?_
        refine ox_y rfl (y_move_int rfl) ?_
        obtain ⟨y41, hy42, h⟩ := bind_some h
        refine ox_call [.agg #[.int .i64 p0.fBarrows, .int .i64 p0.fSeen.x0, .int .i64 p0.fSeen.x1, .int .i64 p0.fSeen.x2, .int .i64 p0.fKnown.x0.fLo, .int .i64 p0.fKnown.x0.fHi, .int .i64 p0.fKnown.x1.fLo, .int .i64 p0.fKnown.x1.fHi, .int .i64 p0.fKnown.x2.fLo, .int .i64 p0.fKnown.x2.fHi], .int .i64 p1] _ _ _ rfl go_110 rfl (fun W2 hW2 => calxref03_weights_ok p0 p1 y41 hy42 W2 ) ?_
        rintro ⟨A43, n45, c44⟩ hn46
        replace hn46 : n45 = y41.length := hn46; subst hn46
        refine ox_y rfl (y_assign_slice rfl) ?_
        refine ox_nil ?_
        refine ex_then ?_
        refine cx_seq ?_
        refine cx_region ?_
        refine ox_y rfl (y_move_slice rfl) ?_
        obtain ⟨y47, hy48, h⟩ := bind_some h
        refine ox_y rfl (y_call [.slice A43 y41.length c44] go_111 rfl (fun W2 hW2 => calxref03_total_ok y41 y47 hy48 W2 A43 y41.length c44 rfl ((RdL.row 3 rfl) W2 hW2)) rfl) ?_
        refine ox_y rfl (y_assign_int rfl) ?_
        refine ox_nil ?_
        refine ex_then ?_
        refine cx_seq ?_
        refine cx_region ?_
        refine ox_y rfl (y_fieldAddr fo_52_0 rfl) ?_
        refine ox_y rfl (y_load1 0 (v := .int .i64 p0.fBarrows) sc_3 rfl rfl rfl) ?_
        refine ox_y rfl (y_buildS [.int .i64 0, .int .i64 p0.fBarrows] [(0, 1), (1, 1)] ust_33 ze_33 (by kernel_rfl)) ?_
        refine ox_alloc ze_33 rfl (fun b49 => ?_)
        refine ox_n rfl (y_storeN 4 [.int .i64 0, .int .i64 p0.fBarrows] sz_33 rfl (Nat.le_of_ble_eq_true rfl) rfl rfl rfl) ?_
        refine ox_nil ?_
        refine ex_then ?_
        refine cx_seq ?_
        refine cx_seq ?_
        refine cx_region ?_
        refine ox_y rfl (y_assign_int rfl) ?_
        refine ox_nil ?_
        refine ex_then ?_
        refine cx_block ?_
        obtain ⟨u53, hl67, h⟩ := bind_some h
        refine cx_loop (fun (s : (Int × Int × Int × Int)) L tm => ∃ (tm0 : Nat → Value), L = [cellsR b1 52 [.int .i64 p0.fBarrows, .int .i64 p0.fSeen.x0, .int .i64 p0.fSeen.x1, .int .i64 p0.fSeen.x2, .int .i64 p0.fKnown.x0.fLo, .int .i64 p0.fKnown.x0.fHi, .int .i64 p0.fKnown.x1.fLo, .int .i64 p0.fKnown.x1.fHi, .int .i64 p0.fKnown.x2.fLo, .int .i64 p0.fKnown.x2.fHi], cellsR b2 23 [.int .i64 p2.fNum, .int .i64 p2.fDen], cellsR b3 33 [.int .i64 s.2.2.1, .int .i64 s.2.2.2], rowR A43 c44 3 1 y41.length (encL cI y41), cellsR b49 33 [.int .i64 0, .int .i64 p0.fBarrows]] ∧ tm = (upd (upd (upd (upd (upd (upd (upd (upd (upd (upd (upd (upd (upd (upd tm0 0 (.agg #[.int .i64 p0.fBarrows, .int .i64 p0.fSeen.x0, .int .i64 p0.fSeen.x1, .int .i64 p0.fSeen.x2, .int .i64 p0.fKnown.x0.fLo, .int .i64 p0.fKnown.x0.fHi, .int .i64 p0.fKnown.x1.fLo, .int .i64 p0.fKnown.x1.fHi, .int .i64 p0.fKnown.x2.fLo, .int .i64 p0.fKnown.x2.fHi])) 1 (.int .i64 p1)) 2 (.agg #[.int .i64 p2.fNum, .int .i64 p2.fDen])) 3 (.pointer (some ⟨b1, 0, none⟩))) 5 (.pointer (some ⟨b2, 0, none⟩))) 6 (.pointer (some ⟨b3, 0, none⟩))) 7 (.int .i64 s.1)) 8 (.int .i64 y4)) 24 (.bool b7)) 26 (.bool (y4 != 0))) 9 (.slice A43 y41.length c44)) 10 (.int .i64 y47)) 11 (.pointer (some ⟨b49, 0, none⟩))) 12 (.int .i64 s.2.1))) (fun | (.inl s), e, L, tm => e = .ret ∧ ∃ (tm0 : Nat → Value), L = [cellsR b1 52 [.int .i64 p0.fBarrows, .int .i64 p0.fSeen.x0, .int .i64 p0.fSeen.x1, .int .i64 p0.fSeen.x2, .int .i64 p0.fKnown.x0.fLo, .int .i64 p0.fKnown.x0.fHi, .int .i64 p0.fKnown.x1.fLo, .int .i64 p0.fKnown.x1.fHi, .int .i64 p0.fKnown.x2.fLo, .int .i64 p0.fKnown.x2.fHi], cellsR b2 23 [.int .i64 p2.fNum, .int .i64 p2.fDen], cellsR b3 33 [.int .i64 s.2.2.1, .int .i64 s.2.2.2], rowR A43 c44 3 1 y41.length (encL cI y41), cellsR b49 33 [.int .i64 0, .int .i64 p0.fBarrows]] ∧ tm = (upd (upd (upd (upd (upd (upd (upd (upd (upd (upd (upd (upd (upd (upd tm0 0 (.agg #[.int .i64 p0.fBarrows, .int .i64 p0.fSeen.x0, .int .i64 p0.fSeen.x1, .int .i64 p0.fSeen.x2, .int .i64 p0.fKnown.x0.fLo, .int .i64 p0.fKnown.x0.fHi, .int .i64 p0.fKnown.x1.fLo, .int .i64 p0.fKnown.x1.fHi, .int .i64 p0.fKnown.x2.fLo, .int .i64 p0.fKnown.x2.fHi])) 1 (.int .i64 p1)) 2 (.agg #[.int .i64 p2.fNum, .int .i64 p2.fDen])) 3 (.pointer (some ⟨b1, 0, none⟩))) 5 (.pointer (some ⟨b2, 0, none⟩))) 6 (.pointer (some ⟨b3, 0, none⟩))) 7 (.int .i64 s.1)) 8 (.int .i64 y4)) 24 (.bool b7)) 26 (.bool (y4 != 0))) 9 (.slice A43 y41.length c44)) 10 (.int .i64 y47)) 11 (.pointer (some ⟨b49, 0, none⟩))) 12 (.int .i64 s.2.1)) | (.inr s), e, L, tm => e = .exit 0 ∧ ∃ (tm0 : Nat → Value), L = [cellsR b1 52 [.int .i64 p0.fBarrows, .int .i64 p0.fSeen.x0, .int .i64 p0.fSeen.x1, .int .i64 p0.fSeen.x2, .int .i64 p0.fKnown.x0.fLo, .int .i64 p0.fKnown.x0.fHi, .int .i64 p0.fKnown.x1.fLo, .int .i64 p0.fKnown.x1.fHi, .int .i64 p0.fKnown.x2.fLo, .int .i64 p0.fKnown.x2.fHi], cellsR b2 23 [.int .i64 p2.fNum, .int .i64 p2.fDen], cellsR b3 33 [.int .i64 s.2.2.1, .int .i64 s.2.2.2], rowR A43 c44 3 1 y41.length (encL cI y41), cellsR b49 33 [.int .i64 0, .int .i64 p0.fBarrows]] ∧ tm = (upd (upd (upd (upd (upd (upd (upd (upd (upd (upd (upd (upd (upd (upd tm0 0 (.agg #[.int .i64 p0.fBarrows, .int .i64 p0.fSeen.x0, .int .i64 p0.fSeen.x1, .int .i64 p0.fSeen.x2, .int .i64 p0.fKnown.x0.fLo, .int .i64 p0.fKnown.x0.fHi, .int .i64 p0.fKnown.x1.fLo, .int .i64 p0.fKnown.x1.fHi, .int .i64 p0.fKnown.x2.fLo, .int .i64 p0.fKnown.x2.fHi])) 1 (.int .i64 p1)) 2 (.agg #[.int .i64 p2.fNum, .int .i64 p2.fDen])) 3 (.pointer (some ⟨b1, 0, none⟩))) 5 (.pointer (some ⟨b2, 0, none⟩))) 6 (.pointer (some ⟨b3, 0, none⟩))) 7 (.int .i64 s.1)) 8 (.int .i64 y4)) 24 (.bool b7)) 26 (.bool (y4 != 0))) 9 (.slice A43 y41.length c44)) 10 (.int .i64 y47)) 11 (.pointer (some ⟨b49, 0, none⟩))) 12 (.int .i64 s.2.1))) hl67 ⟨_, rfl, (keep (keep (keep (keep (keep (keep (keep (keep (keep (keep (keep (keep (keep (keep rfl rfl) rfl) rfl) rfl) rfl) rfl) rfl) rfl) rfl) rfl) rfl) rfl) rfl) rfl)⟩ ?_ ?_
        · rintro s52 L tm st ⟨tm0_s52, rfl, rfl⟩ h
          unfold calxref03_Shortest_l3 at h
          refine cx_seq ?_
          refine cx_seq ?_
          refine cx_region ?_
          refine ox_y rfl (y_move_int rfl) ?_
          refine ox_y rfl (y_fieldAddr fo_52_0 rfl) ?_
          refine ox_y rfl (y_load1 0 (v := .int .i64 p0.fBarrows) sc_3 rfl rfl rfl) ?_
          refine ox_y rfl (y_leq rfl rfl) ?_
          refine ox_nil ?_
          refine ex_then ?_
          rcases ite_some h with ⟨hp54, h⟩ | ⟨hp54, h⟩
          · refine cx_true (congrArg Value.bool hp54) ?_
            refine cx_skip ?_
            refine ex_then ?_
            refine cx_seq ?_
            refine cx_block ?_
            refine cx_seq ?_
            refine cx_region ?_
            refine ox_y rfl (y_assign_int rfl) ?_
            refine ox_nil ?_
            refine ex_then ?_
            refine cx_block ?_
            obtain ⟨u58, hl64, h⟩ := bind_some h
            refine cx_loop (fun (s : (Int × Int × Int × Int)) L tm => ∃ (tm0 : Nat → Value), L = [cellsR b1 52 [.int .i64 p0.fBarrows, .int .i64 p0.fSeen.x0, .int .i64 p0.fSeen.x1, .int .i64 p0.fSeen.x2, .int .i64 p0.fKnown.x0.fLo, .int .i64 p0.fKnown.x0.fHi, .int .i64 p0.fKnown.x1.fLo, .int .i64 p0.fKnown.x1.fHi, .int .i64 p0.fKnown.x2.fLo, .int .i64 p0.fKnown.x2.fHi], cellsR b2 23 [.int .i64 p2.fNum, .int .i64 p2.fDen], cellsR b3 33 [.int .i64 s.2.2.1, .int .i64 s.2.2.2], rowR A43 c44 3 1 y41.length (encL cI y41), cellsR b49 33 [.int .i64 0, .int .i64 p0.fBarrows]] ∧ tm = (upd (upd (upd (upd (upd (upd (upd (upd (upd (upd (upd (upd (upd (upd (upd (upd tm0 0 (.agg #[.int .i64 p0.fBarrows, .int .i64 p0.fSeen.x0, .int .i64 p0.fSeen.x1, .int .i64 p0.fSeen.x2, .int .i64 p0.fKnown.x0.fLo, .int .i64 p0.fKnown.x0.fHi, .int .i64 p0.fKnown.x1.fLo, .int .i64 p0.fKnown.x1.fHi, .int .i64 p0.fKnown.x2.fLo, .int .i64 p0.fKnown.x2.fHi])) 1 (.int .i64 p1)) 2 (.agg #[.int .i64 p2.fNum, .int .i64 p2.fDen])) 3 (.pointer (some ⟨b1, 0, none⟩))) 5 (.pointer (some ⟨b2, 0, none⟩))) 6 (.pointer (some ⟨b3, 0, none⟩))) 7 (.int .i64 s.1)) 8 (.int .i64 y4)) 24 (.bool b7)) 26 (.bool (y4 != 0))) 9 (.slice A43 y41.length c44)) 10 (.int .i64 y47)) 11 (.pointer (some ⟨b49, 0, none⟩))) 12 (.int .i64 s52.2.1)) 40 (.bool (decide (s52.2.1 ≤ p0.fBarrows)))) 13 (.int .i64 s.2.1))) (fun | (.inl s), e, L, tm => e = .ret ∧ ∃ (tm0 : Nat → Value), L = [cellsR b1 52 [.int .i64 p0.fBarrows, .int .i64 p0.fSeen.x0, .int .i64 p0.fSeen.x1, .int .i64 p0.fSeen.x2, .int .i64 p0.fKnown.x0.fLo, .int .i64 p0.fKnown.x0.fHi, .int .i64 p0.fKnown.x1.fLo, .int .i64 p0.fKnown.x1.fHi, .int .i64 p0.fKnown.x2.fLo, .int .i64 p0.fKnown.x2.fHi], cellsR b2 23 [.int .i64 p2.fNum, .int .i64 p2.fDen], cellsR b3 33 [.int .i64 s.2.2.1, .int .i64 s.2.2.2], rowR A43 c44 3 1 y41.length (encL cI y41), cellsR b49 33 [.int .i64 0, .int .i64 p0.fBarrows]] ∧ tm = (upd (upd (upd (upd (upd (upd (upd (upd (upd (upd (upd (upd (upd (upd (upd (upd tm0 0 (.agg #[.int .i64 p0.fBarrows, .int .i64 p0.fSeen.x0, .int .i64 p0.fSeen.x1, .int .i64 p0.fSeen.x2, .int .i64 p0.fKnown.x0.fLo, .int .i64 p0.fKnown.x0.fHi, .int .i64 p0.fKnown.x1.fLo, .int .i64 p0.fKnown.x1.fHi, .int .i64 p0.fKnown.x2.fLo, .int .i64 p0.fKnown.x2.fHi])) 1 (.int .i64 p1)) 2 (.agg #[.int .i64 p2.fNum, .int .i64 p2.fDen])) 3 (.pointer (some ⟨b1, 0, none⟩))) 5 (.pointer (some ⟨b2, 0, none⟩))) 6 (.pointer (some ⟨b3, 0, none⟩))) 7 (.int .i64 s.1)) 8 (.int .i64 y4)) 24 (.bool b7)) 26 (.bool (y4 != 0))) 9 (.slice A43 y41.length c44)) 10 (.int .i64 y47)) 11 (.pointer (some ⟨b49, 0, none⟩))) 12 (.int .i64 s52.2.1)) 40 (.bool (decide (s52.2.1 ≤ p0.fBarrows)))) 13 (.int .i64 s.2.1)) | (.inr s), e, L, tm => e = .exit 2 ∧ ∃ (tm0 : Nat → Value), L = [cellsR b1 52 [.int .i64 p0.fBarrows, .int .i64 p0.fSeen.x0, .int .i64 p0.fSeen.x1, .int .i64 p0.fSeen.x2, .int .i64 p0.fKnown.x0.fLo, .int .i64 p0.fKnown.x0.fHi, .int .i64 p0.fKnown.x1.fLo, .int .i64 p0.fKnown.x1.fHi, .int .i64 p0.fKnown.x2.fLo, .int .i64 p0.fKnown.x2.fHi], cellsR b2 23 [.int .i64 p2.fNum, .int .i64 p2.fDen], cellsR b3 33 [.int .i64 s.2.2.1, .int .i64 s.2.2.2], rowR A43 c44 3 1 y41.length (encL cI y41), cellsR b49 33 [.int .i64 0, .int .i64 p0.fBarrows]] ∧ tm = (upd (upd (upd (upd (upd (upd (upd (upd (upd (upd (upd (upd (upd (upd (upd (upd tm0 0 (.agg #[.int .i64 p0.fBarrows, .int .i64 p0.fSeen.x0, .int .i64 p0.fSeen.x1, .int .i64 p0.fSeen.x2, .int .i64 p0.fKnown.x0.fLo, .int .i64 p0.fKnown.x0.fHi, .int .i64 p0.fKnown.x1.fLo, .int .i64 p0.fKnown.x1.fHi, .int .i64 p0.fKnown.x2.fLo, .int .i64 p0.fKnown.x2.fHi])) 1 (.int .i64 p1)) 2 (.agg #[.int .i64 p2.fNum, .int .i64 p2.fDen])) 3 (.pointer (some ⟨b1, 0, none⟩))) 5 (.pointer (some ⟨b2, 0, none⟩))) 6 (.pointer (some ⟨b3, 0, none⟩))) 7 (.int .i64 s.1)) 8 (.int .i64 y4)) 24 (.bool b7)) 26 (.bool (y4 != 0))) 9 (.slice A43 y41.length c44)) 10 (.int .i64 y47)) 11 (.pointer (some ⟨b49, 0, none⟩))) 12 (.int .i64 s52.2.1)) 40 (.bool (decide (s52.2.1 ≤ p0.fBarrows)))) 13 (.int .i64 s.2.1))) hl64 ⟨_, rfl, (keep (keep (keep (keep (keep (keep (keep (keep (keep (keep (keep (keep (keep (keep (keep (keep rfl rfl) rfl) rfl) rfl) rfl) rfl) rfl) rfl) rfl) rfl) rfl) rfl) rfl) rfl) rfl) rfl)⟩ ?_ ?_
            · rintro s57 L tm st ⟨tm0_s57, rfl, rfl⟩ h
              unfold calxref03_Shortest_l4 at h
              refine cx_seq ?_
              refine cx_seq ?_
              refine cx_region ?_
              refine ox_y rfl (y_move_int rfl) ?_
              refine ox_y rfl (y_move_int rfl) ?_
              refine ox_y rfl (y_add rfl rfl) ?_
              refine ox_y rfl (y_fieldAddr fo_52_0 rfl) ?_
              refine ox_y rfl (y_load1 0 (v := .int .i64 p0.fBarrows) sc_3 rfl rfl rfl) ?_
              refine ox_y rfl (y_leq rfl rfl) ?_
              refine ox_nil ?_
              refine ex_then ?_
              rcases ite_some h with ⟨hp59, h⟩ | ⟨hp59, h⟩
              · refine cx_true (congrArg Value.bool hp59) ?_
                refine cx_skip ?_
                refine ex_then ?_
                refine cx_seq ?_
                refine cx_block ?_
                refine cx_seq ?_
                refine cx_region ?_
                refine ox_y rfl (y_move_int rfl) ?_
                refine ox_y rfl (y_move_int rfl) ?_
                refine ox_y rfl (y_move_int rfl) ?_
                refine ox_y rfl (y_add rfl rfl) ?_
                refine ox_y rfl (y_buildS [.int .i64 s57.2.1, .int .i64 (w64 (s57.2.1 + s52.2.1))] [(0, 1), (1, 1)] ust_33 ze_33 (by kernel_rfl)) ?_
                refine ox_alloc ze_33 rfl (fun b60 => ?_)
                try dsimp only [List.nil_append, List.cons_append, List.set_cons_zero, List.set_cons_succ]
                refine ox_n rfl (y_storeN 5 [.int .i64 s57.2.1, .int .i64 (w64 (s57.2.1 + s52.2.1))] sz_33 rfl (Nat.le_of_ble_eq_true rfl) rfl rfl rfl) ?_
                refine ox_nil ?_
                refine ex_then ?_
                refine cx_seq ?_
                refine cx_draws 11 mixed (by kernel_rfl) (by kernel_rfl) ?_
                refine qx_y rfl (y_move_slice rfl) ?_
                refine qx_y rfl (y_loadN 5 [.int .i64 s57.2.1, .int .i64 (w64 (s57.2.1 + s52.2.1))] ag_33 rfl rfl rfl) ?_
                obtain ⟨y61, hy62, h⟩ := bind_some h
                refine qx_y rfl (y_call [.slice A43 y41.length c44, .agg #[.int .i64 s57.2.1, .int .i64 (w64 (s57.2.1 + s52.2.1))]] go_112 rfl (fun W2 hW2 => calxref03_weight_ok y41 (TSpan.mk s57.2.1 (w64 (s57.2.1 + s52.2.1))) y61 hy62 W2 A43 y41.length c44 rfl ((RdL.row 3 rfl) W2 hW2)) rfl) ?_
                refine qx_y rfl (y_fieldAddr fo_23_1 rfl) ?_
                refine qx_y rfl (y_load1 1 (v := .int .i64 p2.fDen) sc_3 rfl rfl rfl) ?_
                refine qx_y rfl (y_mul rfl rfl) ?_
                refine qx_y rfl (y_move_int rfl) ?_
                refine qx_y rfl (y_fieldAddr fo_23_0 rfl) ?_
                refine qx_y rfl (y_load1 1 (v := .int .i64 p2.fNum) sc_3 rfl rfl rfl) ?_
                refine qx_y rfl (y_mul rfl rfl) ?_
                refine qx_y rfl (y_geq rfl rfl) ?_
                refine qx_nil ?_
                refine ox_nil ?_
                refine ex_then ?_
                rcases ite_some h with ⟨hp63, h⟩ | ⟨hp63, h⟩
                · refine cx_true (congrArg Value.bool hp63) ?_
                  refine cx_seq ?_
                  refine cx_region ?_
                  refine ox_y rfl (y_loadN 5 [.int .i64 s57.2.1, .int .i64 (w64 (s57.2.1 + s52.2.1))] ag_33 rfl rfl rfl) ?_
                  refine ox_n rfl (y_storeN 2 [.int .i64 s57.2.1, .int .i64 (w64 (s57.2.1 + s52.2.1))] sz_33 rfl (Nat.le_of_ble_eq_true rfl) rfl rfl rfl) ?_
                  refine ox_y rfl (y_assign_int rfl) ?_
                  refine ox_nil ?_
                  refine ex_then ?_
                  refine cx_ret ?_
                  refine ex_block_ret ?_
                  refine ex_then_ret ?_
                  refine ex_take 5 ?_
                  obtain rfl := Option.some.inj h
                  exact ex_stop ⟨rfl, _, rfl, (keep (keep (keep (keep (keep (keep (keep (keep (keep (keep (keep (keep (keep (keep (keep (keep rfl rfl) rfl) rfl) rfl) rfl) rfl) rfl) rfl) rfl) rfl) rfl) rfl) rfl) rfl) rfl) rfl)⟩
                · refine cx_false (congrArg Value.bool hp63) ?_
                  refine cx_skip ?_
                  refine ex_block ?_
                  refine ex_then ?_
                  refine cx_region ?_
                  refine ox_y rfl (y_move_int rfl) ?_
                  refine ox_y rfl (y_add rfl rfl) ?_
                  refine ox_y rfl (y_assign_int rfl) ?_
                  refine ox_nil ?_
                  refine ex_take 5 ?_
                  obtain rfl := Option.some.inj h
                  exact ex_next ⟨_, rfl, (keep (keep (keep (keep (keep (keep (keep (keep (keep (keep (keep (keep (keep (keep (keep (keep rfl rfl) rfl) rfl) rfl) rfl) rfl) rfl) rfl) rfl) rfl) rfl) rfl) rfl) rfl) rfl) rfl)⟩
              · refine cx_false (congrArg Value.bool hp59) ?_
                refine cx_exit ?_
                refine ex_then_exit ?_
                obtain rfl := Option.some.inj h
                exact ex_stop ⟨rfl, _, rfl, (keep (keep (keep (keep (keep (keep (keep (keep (keep (keep (keep (keep (keep (keep (keep (keep rfl rfl) rfl) rfl) rfl) rfl) rfl) rfl) rfl) rfl) rfl) rfl) rfl) rfl) rfl) rfl) rfl)⟩
            · intro e L tm hJ
              rcases u58 with u65 | u66
              · dsimp only at h hJ
                obtain ⟨rfl, tm0_u65, rfl, rfl⟩ := hJ
                refine ⟨(by intro hc; cases hc), ?_⟩
                refine ex_block_ret ?_
                refine ex_block_ret ?_
                refine ex_then_ret ?_
                obtain rfl := Option.some.inj h
                exact ex_stop ⟨rfl, _, rfl, (keep (keep (keep (keep (keep (keep (keep (keep (keep (keep (keep (keep (keep (keep rfl rfl) rfl) rfl) rfl) rfl) rfl) rfl) rfl) rfl) rfl) rfl) rfl) rfl) rfl)⟩
              · dsimp only at h hJ
                obtain ⟨rfl, tm0_u66, rfl, rfl⟩ := hJ
                refine ⟨(by intro hc; cases hc), ?_⟩
                refine ex_block_here ?_
                refine ex_block ?_
                refine ex_then ?_
                refine cx_region ?_
                refine ox_y rfl (y_move_int rfl) ?_
                refine ox_y rfl (y_add rfl rfl) ?_
                refine ox_y rfl (y_assign_int rfl) ?_
                refine ox_nil ?_
                obtain rfl := Option.some.inj h
                exact ex_next ⟨_, rfl, (keep (keep (keep (keep (keep (keep (keep (keep (keep (keep (keep (keep (keep (keep rfl rfl) rfl) rfl) rfl) rfl) rfl) rfl) rfl) rfl) rfl) rfl) rfl) rfl) rfl)⟩
          · refine cx_false (congrArg Value.bool hp54) ?_
            refine cx_exit ?_
            refine ex_then_exit ?_
            obtain rfl := Option.some.inj h
            exact ex_stop ⟨rfl, _, rfl, (keep (keep (keep (keep (keep (keep (keep (keep (keep (keep (keep (keep (keep (keep rfl rfl) rfl) rfl) rfl) rfl) rfl) rfl) rfl) rfl) rfl) rfl) rfl) rfl) rfl)⟩
        · intro e L tm hJ
          rcases u53 with u68 | u69
          · dsimp only at h hJ
            obtain ⟨rfl, tm0_u68, rfl, rfl⟩ := hJ
            refine ⟨(by intro hc; cases hc), ?_⟩
            refine ex_block_ret ?_
            refine ex_then_ret ?_
            obtain rfl := Option.some.inj h
            exact ex_res2 (.inl rfl) rfl (resV_cellN 2 [.int .i64 u68.2.2.1, .int .i64 u68.2.2.2] ag_33 rfl rfl rfl) (resV_tmp (v := .int .i64 u68.1) rfl) (fun W2 hW2 => ⟨rfl, hW2.none⟩)
          · dsimp only at h hJ
            obtain ⟨rfl, tm0_u69, rfl, rfl⟩ := hJ
            refine ⟨(by intro hc; cases hc), ?_⟩
            refine ex_block_here ?_
            refine ex_then ?_
            refine cx_seq ?_
            refine cx_region ?_
            refine ox_y rfl (y_loadN 4 [.int .i64 0, .int .i64 p0.fBarrows] ag_33 rfl rfl rfl) ?_
            refine ox_n rfl (y_storeN 2 [.int .i64 0, .int .i64 p0.fBarrows] sz_33 rfl (Nat.le_of_ble_eq_true rfl) rfl rfl rfl) ?_
            refine ox_y rfl (y_assign_int rfl) ?_
            refine ox_nil ?_
            refine ex_then ?_
            refine cx_ret ?_
            obtain rfl := Option.some.inj h
            exact ex_res2 (.inl rfl) rfl (resV_cellN 2 [.int .i64 0, .int .i64 p0.fBarrows] ag_33 rfl rfl rfl) (resV_tmp (v := .int .i64 0) rfl) (fun W2 hW2 => ⟨rfl, hW2.none⟩)
  · clear h; rcases ite_some hb8 with ⟨hp6, h⟩ | ⟨hp6, h⟩
    · refine ox_y (sees_t rfl rfl rfl rfl hp6) (y_loadN 1 [.int .i64 p2.fNum, .int .i64 p2.fDen] ag_23 rfl rfl rfl) ?_
      obtain ⟨y70, hy71, h⟩ := bind_some h
      refine ox_y (sees_t rfl rfl rfl rfl hp6) (y_call [.agg #[.int .i64 p2.fNum, .int .i64 p2.fDen]] go_80 rfl (fun W2 hW2 => calxref03_level_ok p2 y70 hy71 W2 ) rfl) ?_
      refine ox_y (sees_t rfl rfl rfl rfl hp6) (y_not rfl) ?_
      refine ox_y rfl (y_pick_tb (congrArg Value.bool hp6) rfl) ?_
      obtain rfl := Option.some.inj h
      exact key _ _ (keep (keep (keep (keep (keep (keep (keep (keep (keep rfl rfl) rfl) rfl) rfl) rfl) rfl) rfl) rfl) rfl)
    · refine ox_skip (sees_f rfl rfl rfl rfl hp6) ?_
      refine ox_skip (sees_f rfl rfl rfl rfl hp6) ?_
      refine ox_skip (sees_f rfl rfl rfl rfl hp6) ?_
      refine ox_y rfl (y_pick_fb (congrArg Value.bool hp6) rfl) ?_
      obtain rfl := Option.some.inj h
      exact key _ _ (keep (keep (keep (keep (keep (keep (keep (keep (keep rfl rfl) rfl) rfl) rfl) rfl) rfl) rfl) rfl) rfl)

/-! calx/calxref03.CheckShortest -/
set_option maxRecDepth 100000 in
theorem calxref03_CheckShortest_ok (p0_b : TBatch) (p1_sort : Int) (p2_at : TRatio) (p3_s : TSpan) (res : Int) (h : calxref03_CheckShortest p0_b p1_sort p2_at p3_s = some res) (W : World)  :
    Calls Try.prog 47 [.agg #[.int .i64 p0_b.fBarrows, .int .i64 p0_b.fSeen.x0, .int .i64 p0_b.fSeen.x1, .int .i64 p0_b.fSeen.x2, .int .i64 p0_b.fKnown.x0.fLo, .int .i64 p0_b.fKnown.x0.fHi, .int .i64 p0_b.fKnown.x1.fLo, .int .i64 p0_b.fKnown.x1.fHi, .int .i64 p0_b.fKnown.x2.fLo, .int .i64 p0_b.fKnown.x2.fHi], .int .i64 p1_sort, .agg #[.int .i64 p2_at.fNum, .int .i64 p2_at.fDen], .agg #[.int .i64 p3_s.fLo, .int .i64 p3_s.fHi]].toArray W fun e W2 => e = .returned (.int .i64 res) ∧ Ext W W2 [] := by
  unfold calxref03_CheckShortest at h
  refine calls_enter (m := 24) Try.func47 rfl rfl (Nat.le_of_ble_eq_true rfl) ?_
  refine cx_seq ?_
  refine cx_region ?_
  refine ox_box [.int .i64 p0_b.fBarrows, .int .i64 p0_b.fSeen.x0, .int .i64 p0_b.fSeen.x1, .int .i64 p0_b.fSeen.x2, .int .i64 p0_b.fKnown.x0.fLo, .int .i64 p0_b.fKnown.x0.fHi, .int .i64 p0_b.fKnown.x1.fLo, .int .i64 p0_b.fKnown.x1.fHi, .int .i64 p0_b.fKnown.x2.fLo, .int .i64 p0_b.fKnown.x2.fHi] rfl rfl rfl (fun b1 => ?_)
  refine ox_box [.int .i64 p2_at.fNum, .int .i64 p2_at.fDen] rfl rfl rfl (fun b2 => ?_)
  refine ox_box [.int .i64 p3_s.fLo, .int .i64 p3_s.fHi] rfl rfl rfl (fun b3 => ?_)
  refine ox_y rfl (y_assign_int rfl) ?_
  refine ox_nil ?_
  refine ex_then ?_
  refine cx_seq ?_
  refine cx_region ?_
  refine ox_y rfl (y_loadN 0 [.int .i64 p0_b.fBarrows, .int .i64 p0_b.fSeen.x0, .int .i64 p0_b.fSeen.x1, .int .i64 p0_b.fSeen.x2, .int .i64 p0_b.fKnown.x0.fLo, .int .i64 p0_b.fKnown.x0.fHi, .int .i64 p0_b.fKnown.x1.fLo, .int .i64 p0_b.fKnown.x1.fHi, .int .i64 p0_b.fKnown.x2.fLo, .int .i64 p0_b.fKnown.x2.fHi] ag_52 rfl rfl rfl) ?_
  refine ox_y rfl (y_move_int rfl) ?_
  refine ox_y rfl (y_loadN 1 [.int .i64 p2_at.fNum, .int .i64 p2_at.fDen] ag_23 rfl rfl rfl) ?_
  obtain ⟨y4, hy5, h⟩ := bind_some h
  refine ox_y rfl (y_call [.agg #[.int .i64 p0_b.fBarrows, .int .i64 p0_b.fSeen.x0, .int .i64 p0_b.fSeen.x1, .int .i64 p0_b.fSeen.x2, .int .i64 p0_b.fKnown.x0.fLo, .int .i64 p0_b.fKnown.x0.fHi, .int .i64 p0_b.fKnown.x1.fLo, .int .i64 p0_b.fKnown.x1.fHi, .int .i64 p0_b.fKnown.x2.fLo, .int .i64 p0_b.fKnown.x2.fHi], .int .i64 p1_sort, .agg #[.int .i64 p2_at.fNum, .int .i64 p2_at.fDen]] go_45 rfl (fun W2 hW2 => calxref03_Shortest_ok p0_b p1_sort p2_at y4 hy5 W2 ) rfl) ?_
  refine ox_y rfl (y_move_tuple rfl) ?_
  refine ox_y rfl (y_extract (vs := [.agg #[.int .i64 y4.1.fLo, .int .i64 y4.1.fHi], .int .i64 y4.2]) (v := .agg #[.int .i64 y4.1.fLo, .int .i64 y4.1.fHi]) rfl rfl) ?_
  refine ox_y rfl (y_extract (vs := [.agg #[.int .i64 y4.1.fLo, .int .i64 y4.1.fHi], .int .i64 y4.2]) (v := .int .i64 y4.2) rfl rfl) ?_
  refine ox_alloc ze_33 rfl (fun b6 => ?_)
  refine ox_n rfl (y_storeN 3 [.int .i64 y4.1.fLo, .int .i64 y4.1.fHi] sz_33 rfl (Nat.le_of_ble_eq_true rfl) rfl rfl rfl) ?_
  refine ox_y rfl (y_assign_int rfl) ?_
  refine ox_nil ?_
  refine ex_then ?_
  refine cx_seq ?_
  refine cx_seq ?_
  refine cx_region ?_
  refine ox_y rfl (y_move_int rfl) ?_
  refine ox_y rfl (y_neq rfl rfl) ?_
  refine ox_nil ?_
  refine ex_then ?_
  rcases ite_some h with ⟨hp7, h⟩ | ⟨hp7, h⟩
  · refine cx_true (congrArg Value.bool hp7) ?_
    refine cx_seq ?_
    refine cx_region ?_
    refine ox_y rfl (y_move_int rfl) ?_
    refine ox_y rfl (y_assign_int rfl) ?_
    refine ox_nil ?_
    refine ex_then ?_
    refine cx_ret ?_
    refine ex_then_ret ?_
    obtain rfl := Option.some.inj h
    exact ex_res1 (.inl rfl) rfl (resV_tmp (v := .int .i64 y4.2) rfl) (fun W2 hW2 => ⟨rfl, hW2.none⟩)
  · refine cx_false (congrArg Value.bool hp7) ?_
    refine cx_skip ?_
    refine ex_then ?_
    refine cx_seq ?_
    refine cx_seq ?_
    refine cx_region ?_
    refine ox_y rfl (y_loadN 3 [.int .i64 y4.1.fLo, .int .i64 y4.1.fHi] ag_33 rfl rfl rfl) ?_
    refine ox_y rfl (y_loadN 2 [.int .i64 p3_s.fLo, .int .i64 p3_s.fHi] ag_33 rfl rfl rfl) ?_
    refine ox_y rfl (y_neqa (b := ((y4.1.fLo == p3_s.fLo) && (y4.1.fHi == p3_s.fHi))) eg_33 rfl rfl (fun _ => (eqS2 fl_33 (part1 sc_3 rfl) (part1 sc_3 rfl) (part1 sc_3 rfl) (part1 sc_3 rfl) (run_equalIn_int _ _ _ _ _ _ _ ui_3) (run_equalIn_int _ _ _ _ _ _ _ ui_3)))) ?_
    refine ox_nil ?_
    refine ex_then ?_
    rcases ite_some h with ⟨hp8, h⟩ | ⟨hp8, h⟩
    · refine cx_true (congrArg Value.bool hp8) ?_
      refine cx_seq ?_
      refine cx_region ?_
      refine ox_y rfl (y_assign_int rfl) ?_
      refine ox_nil ?_
      refine ex_then ?_
      refine cx_ret ?_
      refine ex_then_ret ?_
      obtain rfl := Option.some.inj h
      exact ex_res1 (.inl rfl) rfl (resV_tmp (v := .int .i64 8) rfl) (fun W2 hW2 => ⟨rfl, hW2.none⟩)
    · refine cx_false (congrArg Value.bool hp8) ?_
      refine cx_skip ?_
      refine ex_then ?_
      refine cx_seq ?_
      refine cx_region ?_
      refine ox_y rfl (y_assign_int rfl) ?_
      refine ox_nil ?_
      refine ex_then ?_
      refine cx_ret ?_
      obtain rfl := Option.some.inj h
      exact ex_res1 (.inl rfl) rfl (resV_tmp (v := .int .i64 0) rfl) (fun W2 hW2 => ⟨rfl, hW2.none⟩)

/-! calx/calxlaw03.SampleShortest -/
set_option maxRecDepth 100000 in
theorem calxlaw03_SampleShortest_ok (p0_b : TBatch) (p1_sort : Int) (p2_level : TRatio) (p3_s : TSpan) (res : Bool) (h : calxlaw03_SampleShortest p0_b p1_sort p2_level p3_s = some res) (W : World)  :
    Calls Try.prog 10 [.agg #[.int .i64 p0_b.fBarrows, .int .i64 p0_b.fSeen.x0, .int .i64 p0_b.fSeen.x1, .int .i64 p0_b.fSeen.x2, .int .i64 p0_b.fKnown.x0.fLo, .int .i64 p0_b.fKnown.x0.fHi, .int .i64 p0_b.fKnown.x1.fLo, .int .i64 p0_b.fKnown.x1.fHi, .int .i64 p0_b.fKnown.x2.fLo, .int .i64 p0_b.fKnown.x2.fHi], .int .i64 p1_sort, .agg #[.int .i64 p2_level.fNum, .int .i64 p2_level.fDen], .agg #[.int .i64 p3_s.fLo, .int .i64 p3_s.fHi]].toArray W fun e W2 => e = .returned (.bool res) ∧ Ext W W2 [] := by
  unfold calxlaw03_SampleShortest at h
  refine calls_enter (m := 53) Try.func10 rfl rfl (Nat.le_of_ble_eq_true rfl) ?_
  refine cx_seq ?_
  refine cx_region ?_
  refine ox_box [.int .i64 p0_b.fBarrows, .int .i64 p0_b.fSeen.x0, .int .i64 p0_b.fSeen.x1, .int .i64 p0_b.fSeen.x2, .int .i64 p0_b.fKnown.x0.fLo, .int .i64 p0_b.fKnown.x0.fHi, .int .i64 p0_b.fKnown.x1.fLo, .int .i64 p0_b.fKnown.x1.fHi, .int .i64 p0_b.fKnown.x2.fLo, .int .i64 p0_b.fKnown.x2.fHi] rfl rfl rfl (fun b1 => ?_)
  refine ox_box [.int .i64 p2_level.fNum, .int .i64 p2_level.fDen] rfl rfl rfl (fun b2 => ?_)
  refine ox_box [.int .i64 p3_s.fLo, .int .i64 p3_s.fHi] rfl rfl rfl (fun b3 => ?_)
  refine ox_y rfl (y_assign_bool rfl) ?_
  refine ox_nil ?_
  refine ex_then ?_
  refine cx_seq ?_
  refine cx_region ?_
  obtain ⟨y4, hy5, h⟩ := bind_some h
  refine ox_y rfl (y_call [] go_22 rfl (fun W2 hW2 => calxlaw03_head_ok  y4 hy5 W2 ) rfl) ?_
  refine ox_y rfl (y_assign_bool rfl) ?_
  refine ox_nil ?_
  refine ex_then ?_
  refine cx_seq ?_
  refine cx_region ?_
  refine ox_y rfl (y_loadN 0 [.int .i64 p0_b.fBarrows, .int .i64 p0_b.fSeen.x0, .int .i64 p0_b.fSeen.x1, .int .i64 p0_b.fSeen.x2, .int .i64 p0_b.fKnown.x0.fLo, .int .i64 p0_b.fKnown.x0.fHi, .int .i64 p0_b.fKnown.x1.fLo, .int .i64 p0_b.fKnown.x1.fHi, .int .i64 p0_b.fKnown.x2.fLo, .int .i64 p0_b.fKnown.x2.fHi] ag_52 rfl rfl rfl) ?_
  refine ox_y rfl (y_move_int rfl) ?_
  refine ox_y rfl (y_loadN 1 [.int .i64 p2_level.fNum, .int .i64 p2_level.fDen] ag_23 rfl rfl rfl) ?_
  obtain ⟨y6, hy7, h⟩ := bind_some h
  refine ox_y rfl (y_call [.agg #[.int .i64 p0_b.fBarrows, .int .i64 p0_b.fSeen.x0, .int .i64 p0_b.fSeen.x1, .int .i64 p0_b.fSeen.x2, .int .i64 p0_b.fKnown.x0.fLo, .int .i64 p0_b.fKnown.x0.fHi, .int .i64 p0_b.fKnown.x1.fLo, .int .i64 p0_b.fKnown.x1.fHi, .int .i64 p0_b.fKnown.x2.fLo, .int .i64 p0_b.fKnown.x2.fHi], .int .i64 p1_sort, .agg #[.int .i64 p2_level.fNum, .int .i64 p2_level.fDen]] go_44 rfl (fun W2 hW2 => sample_Shortest_ok p0_b p1_sort p2_level y6 hy7 W2 ) rfl) ?_
  refine ox_y rfl (y_move_tuple rfl) ?_
  refine ox_y rfl (y_extract (vs := [.agg #[.int .i64 y6.1.fLo, .int .i64 y6.1.fHi], .int .i64 y6.2]) (v := .agg #[.int .i64 y6.1.fLo, .int .i64 y6.1.fHi]) rfl rfl) ?_
  refine ox_y rfl (y_extract (vs := [.agg #[.int .i64 y6.1.fLo, .int .i64 y6.1.fHi], .int .i64 y6.2]) (v := .int .i64 y6.2) rfl rfl) ?_
  refine ox_alloc ze_33 rfl (fun b8 => ?_)
  refine ox_n rfl (y_storeN 3 [.int .i64 y6.1.fLo, .int .i64 y6.1.fHi] sz_33 rfl (Nat.le_of_ble_eq_true rfl) rfl rfl rfl) ?_
  refine ox_y rfl (y_assign_int rfl) ?_
  refine ox_nil ?_
  refine ex_then ?_
  refine cx_seq ?_
  refine cx_region ?_
  refine ox_y rfl (y_loadN 0 [.int .i64 p0_b.fBarrows, .int .i64 p0_b.fSeen.x0, .int .i64 p0_b.fSeen.x1, .int .i64 p0_b.fSeen.x2, .int .i64 p0_b.fKnown.x0.fLo, .int .i64 p0_b.fKnown.x0.fHi, .int .i64 p0_b.fKnown.x1.fLo, .int .i64 p0_b.fKnown.x1.fHi, .int .i64 p0_b.fKnown.x2.fLo, .int .i64 p0_b.fKnown.x2.fHi] ag_52 rfl rfl rfl) ?_
  refine ox_y rfl (y_move_int rfl) ?_
  refine ox_y rfl (y_loadN 1 [.int .i64 p2_level.fNum, .int .i64 p2_level.fDen] ag_23 rfl rfl rfl) ?_
  obtain ⟨y9, hy10, h⟩ := bind_some h
  refine ox_y rfl (y_call [.agg #[.int .i64 p0_b.fBarrows, .int .i64 p0_b.fSeen.x0, .int .i64 p0_b.fSeen.x1, .int .i64 p0_b.fSeen.x2, .int .i64 p0_b.fKnown.x0.fLo, .int .i64 p0_b.fKnown.x0.fHi, .int .i64 p0_b.fKnown.x1.fLo, .int .i64 p0_b.fKnown.x1.fHi, .int .i64 p0_b.fKnown.x2.fLo, .int .i64 p0_b.fKnown.x2.fHi], .int .i64 p1_sort, .agg #[.int .i64 p2_level.fNum, .int .i64 p2_level.fDen]] go_45 rfl (fun W2 hW2 => calxref03_Shortest_ok p0_b p1_sort p2_level y9 hy10 W2 ) rfl) ?_
  refine ox_y rfl (y_move_tuple rfl) ?_
  refine ox_y rfl (y_extract (vs := [.agg #[.int .i64 y9.1.fLo, .int .i64 y9.1.fHi], .int .i64 y9.2]) (v := .agg #[.int .i64 y9.1.fLo, .int .i64 y9.1.fHi]) rfl rfl) ?_
  refine ox_y rfl (y_extract (vs := [.agg #[.int .i64 y9.1.fLo, .int .i64 y9.1.fHi], .int .i64 y9.2]) (v := .int .i64 y9.2) rfl rfl) ?_
  refine ox_alloc ze_33 rfl (fun b11 => ?_)
  refine ox_n rfl (y_storeN 4 [.int .i64 y9.1.fLo, .int .i64 y9.1.fHi] sz_33 rfl (Nat.le_of_ble_eq_true rfl) rfl rfl rfl) ?_
  refine ox_y rfl (y_assign_int rfl) ?_
  refine ox_nil ?_
  refine ex_then ?_
  refine cx_seq ?_
  refine cx_draws 25 mixed (by kernel_rfl) (by kernel_rfl) ?_
  refine qx_y rfl (y_move_bool rfl) ?_
  refine qx_y rfl (y_move_bool rfl) ?_
  refine qx_join 4 (fun tm0 => (upd (upd (upd (upd (upd (upd (upd (upd (upd (upd (upd (upd (upd (upd tm0 0 (.agg #[.int .i64 p0_b.fBarrows, .int .i64 p0_b.fSeen.x0, .int .i64 p0_b.fSeen.x1, .int .i64 p0_b.fSeen.x2, .int .i64 p0_b.fKnown.x0.fLo, .int .i64 p0_b.fKnown.x0.fHi, .int .i64 p0_b.fKnown.x1.fLo, .int .i64 p0_b.fKnown.x1.fHi, .int .i64 p0_b.fKnown.x2.fLo, .int .i64 p0_b.fKnown.x2.fHi])) 1 (.int .i64 p1_sort)) 2 (.agg #[.int .i64 p2_level.fNum, .int .i64 p2_level.fDen])) 3 (.agg #[.int .i64 p3_s.fLo, .int .i64 p3_s.fHi])) 4 (.pointer (some ⟨b1, 0, none⟩))) 6 (.pointer (some ⟨b2, 0, none⟩))) 7 (.pointer (some ⟨b3, 0, none⟩))) 8 (.bool false)) 9 (.bool y4)) 10 (.pointer (some ⟨b8, 0, none⟩))) 11 (.int .i64 y6.2)) 12 (.pointer (some ⟨b11, 0, none⟩))) 13 (.int .i64 y9.2)) 34 (.bool (y4 && ((y6.1.fLo == y9.1.fLo) && (y6.1.fHi == y9.1.fHi)))))) (fun tm0 => ?_) (fun key => ?_)
  · refine qx_y rfl (y_move_bool rfl) ?_
    refine qx_join 4 (fun tm0 => (upd (upd (upd (upd (upd (upd (upd (upd (upd (upd (upd (upd (upd (upd tm0 0 (.agg #[.int .i64 p0_b.fBarrows, .int .i64 p0_b.fSeen.x0, .int .i64 p0_b.fSeen.x1, .int .i64 p0_b.fSeen.x2, .int .i64 p0_b.fKnown.x0.fLo, .int .i64 p0_b.fKnown.x0.fHi, .int .i64 p0_b.fKnown.x1.fLo, .int .i64 p0_b.fKnown.x1.fHi, .int .i64 p0_b.fKnown.x2.fLo, .int .i64 p0_b.fKnown.x2.fHi])) 1 (.int .i64 p1_sort)) 2 (.agg #[.int .i64 p2_level.fNum, .int .i64 p2_level.fDen])) 3 (.agg #[.int .i64 p3_s.fLo, .int .i64 p3_s.fHi])) 4 (.pointer (some ⟨b1, 0, none⟩))) 6 (.pointer (some ⟨b2, 0, none⟩))) 7 (.pointer (some ⟨b3, 0, none⟩))) 8 (.bool false)) 9 (.bool y4)) 10 (.pointer (some ⟨b8, 0, none⟩))) 11 (.int .i64 y6.2)) 12 (.pointer (some ⟨b11, 0, none⟩))) 13 (.int .i64 y9.2)) 39 (.bool ((y4 && ((y6.1.fLo == y9.1.fLo) && (y6.1.fHi == y9.1.fHi))) && (y6.2 == y9.2))))) (fun tm0 => ?_) (fun key => ?_)
    · refine qx_y rfl (y_move_bool rfl) ?_
      obtain ⟨b15, hb16, h⟩ := bind_some h
      refine qx_join 12 (fun tm0 => (upd (upd (upd (upd (upd (upd (upd (upd (upd (upd (upd (upd (upd (upd tm0 0 (.agg #[.int .i64 p0_b.fBarrows, .int .i64 p0_b.fSeen.x0, .int .i64 p0_b.fSeen.x1, .int .i64 p0_b.fSeen.x2, .int .i64 p0_b.fKnown.x0.fLo, .int .i64 p0_b.fKnown.x0.fHi, .int .i64 p0_b.fKnown.x1.fLo, .int .i64 p0_b.fKnown.x1.fHi, .int .i64 p0_b.fKnown.x2.fLo, .int .i64 p0_b.fKnown.x2.fHi])) 1 (.int .i64 p1_sort)) 2 (.agg #[.int .i64 p2_level.fNum, .int .i64 p2_level.fDen])) 3 (.agg #[.int .i64 p3_s.fLo, .int .i64 p3_s.fHi])) 4 (.pointer (some ⟨b1, 0, none⟩))) 6 (.pointer (some ⟨b2, 0, none⟩))) 7 (.pointer (some ⟨b3, 0, none⟩))) 8 (.bool false)) 9 (.bool y4)) 10 (.pointer (some ⟨b8, 0, none⟩))) 11 (.int .i64 y6.2)) 12 (.pointer (some ⟨b11, 0, none⟩))) 13 (.int .i64 y9.2)) 52 (.bool b15))) (fun tm0 => ?_) (fun key => ?_)
      · refine qx_y rfl (y_assign_bool rfl) ?_
        refine qx_nil ?_
        refine ox_nil ?_
        refine ex_then ?_
        refine cx_ret ?_
        obtain rfl := Option.some.inj h
        exact ex_res1 (.inl rfl) rfl (resV_tmp (v := .bool b15) rfl) (fun W2 hW2 => ⟨rfl, hW2.none⟩)
      · clear h; rcases ite_some hb16 with ⟨hp14, h⟩ | ⟨hp14, h⟩
        · refine qx_y (sees_t rfl rfl rfl rfl hp14) (y_loadN 0 [.int .i64 p0_b.fBarrows, .int .i64 p0_b.fSeen.x0, .int .i64 p0_b.fSeen.x1, .int .i64 p0_b.fSeen.x2, .int .i64 p0_b.fKnown.x0.fLo, .int .i64 p0_b.fKnown.x0.fHi, .int .i64 p0_b.fKnown.x1.fLo, .int .i64 p0_b.fKnown.x1.fHi, .int .i64 p0_b.fKnown.x2.fLo, .int .i64 p0_b.fKnown.x2.fHi] ag_52 rfl rfl rfl) ?_
          refine qx_y (sees_t rfl rfl rfl rfl hp14) (y_move_int rfl) ?_
          refine qx_y (sees_t rfl rfl rfl rfl hp14) (y_loadN 1 [.int .i64 p2_level.fNum, .int .i64 p2_level.fDen] ag_23 rfl rfl rfl) ?_
          refine qx_y (sees_t rfl rfl rfl rfl hp14) (y_loadN 2 [.int .i64 p3_s.fLo, .int .i64 p3_s.fHi] ag_33 rfl rfl rfl) ?_
          obtain ⟨y17, hy18, h⟩ := bind_some h
          refine qx_y (sees_t rfl rfl rfl rfl hp14) (y_call [.agg #[.int .i64 p0_b.fBarrows, .int .i64 p0_b.fSeen.x0, .int .i64 p0_b.fSeen.x1, .int .i64 p0_b.fSeen.x2, .int .i64 p0_b.fKnown.x0.fLo, .int .i64 p0_b.fKnown.x0.fHi, .int .i64 p0_b.fKnown.x1.fLo, .int .i64 p0_b.fKnown.x1.fHi, .int .i64 p0_b.fKnown.x2.fLo, .int .i64 p0_b.fKnown.x2.fHi], .int .i64 p1_sort, .agg #[.int .i64 p2_level.fNum, .int .i64 p2_level.fDen], .agg #[.int .i64 p3_s.fLo, .int .i64 p3_s.fHi]] go_46 rfl (fun W2 hW2 => sample_CheckShortest_ok p0_b p1_sort p2_level p3_s y17 hy18 W2 ) rfl) ?_
          refine qx_y (sees_t rfl rfl rfl rfl hp14) (y_loadN 0 [.int .i64 p0_b.fBarrows, .int .i64 p0_b.fSeen.x0, .int .i64 p0_b.fSeen.x1, .int .i64 p0_b.fSeen.x2, .int .i64 p0_b.fKnown.x0.fLo, .int .i64 p0_b.fKnown.x0.fHi, .int .i64 p0_b.fKnown.x1.fLo, .int .i64 p0_b.fKnown.x1.fHi, .int .i64 p0_b.fKnown.x2.fLo, .int .i64 p0_b.fKnown.x2.fHi] ag_52 rfl rfl rfl) ?_
          refine qx_y (sees_t rfl rfl rfl rfl hp14) (y_move_int rfl) ?_
          refine qx_y (sees_t rfl rfl rfl rfl hp14) (y_loadN 1 [.int .i64 p2_level.fNum, .int .i64 p2_level.fDen] ag_23 rfl rfl rfl) ?_
          refine qx_y (sees_t rfl rfl rfl rfl hp14) (y_loadN 2 [.int .i64 p3_s.fLo, .int .i64 p3_s.fHi] ag_33 rfl rfl rfl) ?_
          obtain ⟨y19, hy20, h⟩ := bind_some h
          refine qx_y (sees_t rfl rfl rfl rfl hp14) (y_call [.agg #[.int .i64 p0_b.fBarrows, .int .i64 p0_b.fSeen.x0, .int .i64 p0_b.fSeen.x1, .int .i64 p0_b.fSeen.x2, .int .i64 p0_b.fKnown.x0.fLo, .int .i64 p0_b.fKnown.x0.fHi, .int .i64 p0_b.fKnown.x1.fLo, .int .i64 p0_b.fKnown.x1.fHi, .int .i64 p0_b.fKnown.x2.fLo, .int .i64 p0_b.fKnown.x2.fHi], .int .i64 p1_sort, .agg #[.int .i64 p2_level.fNum, .int .i64 p2_level.fDen], .agg #[.int .i64 p3_s.fLo, .int .i64 p3_s.fHi]] go_47 rfl (fun W2 hW2 => calxref03_CheckShortest_ok p0_b p1_sort p2_level p3_s y19 hy20 W2 ) rfl) ?_
          refine qx_y (sees_t rfl rfl rfl rfl hp14) (y_eql rfl rfl) ?_
          refine qx_y rfl (y_pick_tb (congrArg Value.bool hp14) rfl) ?_
          obtain rfl := Option.some.inj h
          exact key _ _ (keep (keep (keep (keep (keep (keep (keep (keep (keep (keep (keep (keep (keep (keep rfl rfl) rfl) rfl) rfl) rfl) rfl) rfl) rfl) rfl) rfl) rfl) rfl) rfl) rfl)
        · refine qx_skip (sees_f rfl rfl rfl rfl hp14) ?_
          refine qx_skip (sees_f rfl rfl rfl rfl hp14) ?_
          refine qx_skip (sees_f rfl rfl rfl rfl hp14) ?_
          refine qx_skip (sees_f rfl rfl rfl rfl hp14) ?_
          refine qx_skip (sees_f rfl rfl rfl rfl hp14) ?_
          refine qx_skip (sees_f rfl rfl rfl rfl hp14) ?_
          refine qx_skip (sees_f rfl rfl rfl rfl hp14) ?_
          refine qx_skip (sees_f rfl rfl rfl rfl hp14) ?_
          refine qx_skip (sees_f rfl rfl rfl rfl hp14) ?_
          refine qx_skip (sees_f rfl rfl rfl rfl hp14) ?_
          refine qx_skip (sees_f rfl rfl rfl rfl hp14) ?_
          refine qx_y rfl (y_pick_fb (congrArg Value.bool hp14) rfl) ?_
          obtain rfl := Option.some.inj h
          exact key _ _ (keep (keep (keep (keep (keep (keep (keep (keep (keep (keep (keep (keep (keep (keep rfl rfl) rfl) rfl) rfl) rfl) rfl) rfl) rfl) rfl) rfl) rfl) rfl) rfl) rfl)
    · rcases bool_cases (y4 && ((y6.1.fLo == y9.1.fLo) && (y6.1.fHi == y9.1.fHi))) with hp13 | hp13
      · refine qx_y (sees_t rfl rfl rfl rfl hp13) (y_move_int rfl) ?_
        refine qx_y (sees_t rfl rfl rfl rfl hp13) (y_move_int rfl) ?_
        refine qx_y (sees_t rfl rfl rfl rfl hp13) (y_eql rfl rfl) ?_
        refine qx_y rfl (y_pick_tb (congrArg Value.bool hp13) rfl) ?_
        exact key _ _ (keep (keep (keep (keep (keep (keep (keep (keep (keep (keep (keep (keep (keep (keep rfl rfl) rfl) rfl) rfl) rfl) rfl) rfl) rfl) rfl) rfl) rfl) rfl) rfl) (congrArg Value.bool (and_t hp13)))
      · refine qx_skip (sees_f rfl rfl rfl rfl hp13) ?_
        refine qx_skip (sees_f rfl rfl rfl rfl hp13) ?_
        refine qx_skip (sees_f rfl rfl rfl rfl hp13) ?_
        refine qx_y rfl (y_pick_fb (congrArg Value.bool hp13) rfl) ?_
        exact key _ _ (keep (keep (keep (keep (keep (keep (keep (keep (keep (keep (keep (keep (keep (keep rfl rfl) rfl) rfl) rfl) rfl) rfl) rfl) rfl) rfl) rfl) rfl) rfl) rfl) (congrArg Value.bool (and_f hp13)))
  · rcases bool_cases y4 with hp12 | hp12
    · refine qx_y (sees_t rfl rfl rfl rfl hp12) (y_loadN 3 [.int .i64 y6.1.fLo, .int .i64 y6.1.fHi] ag_33 rfl rfl rfl) ?_
      refine qx_y (sees_t rfl rfl rfl rfl hp12) (y_loadN 4 [.int .i64 y9.1.fLo, .int .i64 y9.1.fHi] ag_33 rfl rfl rfl) ?_
      refine qx_y (sees_t rfl rfl rfl rfl hp12) (y_eqla (b := ((y6.1.fLo == y9.1.fLo) && (y6.1.fHi == y9.1.fHi))) eg_33 rfl rfl (fun _ => (eqS2 fl_33 (part1 sc_3 rfl) (part1 sc_3 rfl) (part1 sc_3 rfl) (part1 sc_3 rfl) (run_equalIn_int _ _ _ _ _ _ _ ui_3) (run_equalIn_int _ _ _ _ _ _ _ ui_3)))) ?_
      refine qx_y rfl (y_pick_tb (congrArg Value.bool hp12) rfl) ?_
      exact key _ _ (keep (keep (keep (keep (keep (keep (keep (keep (keep (keep (keep (keep (keep (keep rfl rfl) rfl) rfl) rfl) rfl) rfl) rfl) rfl) rfl) rfl) rfl) rfl) rfl) (congrArg Value.bool (and_t hp12)))
    · refine qx_skip (sees_f rfl rfl rfl rfl hp12) ?_
      refine qx_skip (sees_f rfl rfl rfl rfl hp12) ?_
      refine qx_skip (sees_f rfl rfl rfl rfl hp12) ?_
      refine qx_y rfl (y_pick_fb (congrArg Value.bool hp12) rfl) ?_
      exact key _ _ (keep (keep (keep (keep (keep (keep (keep (keep (keep (keep (keep (keep (keep (keep rfl rfl) rfl) rfl) rfl) rfl) rfl) rfl) rfl) rfl) rfl) rfl) rfl) rfl) (congrArg Value.bool (and_f hp12)))

end Go.Proofs.Ytepfgdfahinpkaa
