/- The calls hand back what the plain functions say. -/
import Derived.Test.YtepfgdfahinpkaaF
import Derived.Test.YtepfgdfahinpkaaC1
import Derived.Test.YtepfgdfahinpkaaC3
import Derived.Test.YtepfgdfahinpkaaC5
import Derived.Test.YtepfgdfahinpkaaC7
set_option linter.unusedVariables false
set_option maxHeartbeats 4000000
namespace Go.Proofs.Ytepfgdfahinpkaa
open Go.RowKit (Below)
attribute [local irreducible] OX QX CX EX OpY Calls CallsIn

/-! calx/calxref03.Together -/
set_option maxRecDepth 100000 in
theorem calxref03_Together_ok (p0 : (List TBatch)) (p1 : Int) (p2 : TSpan) (res : TSpans) (h : calxref03_Together p0 p1 p2 = some res) (W : World) (A0_0 : Option Addr) (n0_0 c0_0 : Nat) (hn0_0 : n0_0 = p0.length) (hr0_0 : Rd W A0_0 n0_0 c0_0 (encL TBatch_cells p0)) :
    Calls Try.prog 26 [.slice A0_0 n0_0 c0_0, .int .i64 p1, .agg #[.int .i64 p2.fLo, .int .i64 p2.fHi]].toArray W fun e W2 => ∃ x : Option Addr × Nat × Nat, x.2.1 = res.fL.length ∧ e = .returned (.agg #[.slice x.1 x.2.1 x.2.2, .int .i64 res.fE]) ∧ Ext W W2 [rowR x.1 x.2.2 33 2 x.2.1 (encL TSpan_cells res.fL)] := by
  subst hn0_0
  unfold calxref03_Together at h
  refine calls_enter (m := 133) Try.func26 rfl rfl (Nat.le_of_ble_eq_true rfl) ?_
  refine cx_seq ?_
  refine cx_region ?_
  refine ox_box [.int .i64 p2.fLo, .int .i64 p2.fHi] rfl rfl rfl (fun b1 => ?_)
  refine ox_alloc ze_38 rfl (fun b2 => ?_)
  refine ox_nil ?_
  refine ex_then ?_
  refine cx_seq ?_
  refine cx_seq ?_
  refine cx_region ?_
  refine ox_y rfl (y_move_slice rfl) ?_
  refine ox_y rfl (y_len (us := []) us_31 rfl) ?_
  refine ox_y rfl (y_gtr rfl rfl) ?_
  refine ox_nil ?_
  refine ex_then ?_
  rcases ite_some h with ⟨hp3, h⟩ | ⟨hp3, h⟩
  · refine cx_true (congrArg Value.bool hp3) ?_
    refine cx_seq ?_
    refine cx_region ?_
    refine ox_y rfl (y_buildS [.slice none 0 0, .int .i64 2] [(0, 1), (1, 1)] ust_38 ze_38 (by kernel_rfl)) ?_
    refine ox_n rfl (y_storeN 1 [.slice none 0 0, .int .i64 2] sz_38 rfl (Nat.le_of_ble_eq_true rfl) rfl rfl rfl) ?_
    refine ox_nil ?_
    refine ex_then ?_
    refine cx_ret ?_
    refine ex_then_ret ?_
    obtain rfl := Option.some.inj h
    exact ex_res1 (.inl rfl) rfl (resV_cellN 1 [.slice none 0 0, .int .i64 2] ag_38 rfl rfl rfl) (fun W2 hW2 => ⟨(none, 0, 0), rfl, rfl, ((hW2.nilrow 33 2).pick 2 rfl)⟩)
  · refine cx_false (congrArg Value.bool hp3) ?_
    refine cx_skip ?_
    refine ex_then ?_
    refine cx_seq ?_
    refine cx_seq ?_
    refine cx_region ?_
    refine ox_y rfl (y_assign_int rfl) ?_
    refine ox_nil ?_
    refine ex_then ?_
    refine cx_block ?_
    obtain ⟨u7, hl13, h⟩ := bind_some h
    refine cx_loop (fun (s : (Int × Int)) L tm => ∃ (tm0 : Nat → Value), L = [cellsR b1 33 [.int .i64 p2.fLo, .int .i64 p2.fHi], cellsR b2 38 [.slice none 0 0, .int .i64 s.2]] ∧ tm = (upd (upd (upd (upd (upd (upd (upd tm0 0 (.slice A0_0 p0.length c0_0)) 1 (.int .i64 p1)) 2 (.agg #[.int .i64 p2.fLo, .int .i64 p2.fHi])) 5 (.pointer (some ⟨b1, 0, none⟩))) 6 (.pointer (some ⟨b2, 0, none⟩))) 20 (.bool (decide (12 < ((p0.length : Nat) : Int))))) 7 (.int .i64 s.1))) (fun | (.inl s), e, L, tm => e = .ret ∧ ∃ (tm0 : Nat → Value), L = [cellsR b1 33 [.int .i64 p2.fLo, .int .i64 p2.fHi], cellsR b2 38 [.slice none 0 0, .int .i64 s.2]] ∧ tm = (upd (upd (upd (upd (upd (upd (upd tm0 0 (.slice A0_0 p0.length c0_0)) 1 (.int .i64 p1)) 2 (.agg #[.int .i64 p2.fLo, .int .i64 p2.fHi])) 5 (.pointer (some ⟨b1, 0, none⟩))) 6 (.pointer (some ⟨b2, 0, none⟩))) 20 (.bool (decide (12 < ((p0.length : Nat) : Int))))) 7 (.int .i64 s.1)) | (.inr s), e, L, tm => e = .exit 0 ∧ ∃ (tm0 : Nat → Value), L = [cellsR b1 33 [.int .i64 p2.fLo, .int .i64 p2.fHi], cellsR b2 38 [.slice none 0 0, .int .i64 s.2]] ∧ tm = (upd (upd (upd (upd (upd (upd (upd tm0 0 (.slice A0_0 p0.length c0_0)) 1 (.int .i64 p1)) 2 (.agg #[.int .i64 p2.fLo, .int .i64 p2.fHi])) 5 (.pointer (some ⟨b1, 0, none⟩))) 6 (.pointer (some ⟨b2, 0, none⟩))) 20 (.bool (decide (12 < ((p0.length : Nat) : Int))))) 7 (.int .i64 s.1))) hl13 ⟨_, rfl, (keep (keep (keep (keep (keep (keep (keep rfl rfl) rfl) rfl) rfl) rfl) rfl) rfl)⟩ ?_ ?_
    · rintro s6 L tm st ⟨tm0_s6, rfl, rfl⟩ h
      unfold calxref03_Together_l1 at h
      refine cx_seq ?_
      refine cx_seq ?_
      refine cx_region ?_
      refine ox_y rfl (y_move_int rfl) ?_
      refine ox_y rfl (y_move_slice rfl) ?_
      refine ox_y rfl (y_len (us := []) us_31 rfl) ?_
      refine ox_y rfl (y_lss rfl rfl) ?_
      refine ox_nil ?_
      refine ex_then ?_
      rcases ite_some h with ⟨hp8, h⟩ | ⟨hp8, h⟩
      · refine cx_true (congrArg Value.bool hp8) ?_
        refine cx_skip ?_
        refine ex_then ?_
        refine cx_seq ?_
        refine cx_block ?_
        refine cx_seq ?_
        refine cx_region ?_
        refine ox_y rfl (y_move_slice rfl) ?_
        refine ox_y rfl (y_move_int rfl) ?_
        obtain ⟨hg9, h⟩ := guardO_some h
        refine ox_y rfl (y_indexR sl_31 (by decide) hg9.1 hg9.2 (RdL.arg hr0_0) (encL_len TBatch_cells_len rfl) rfl rfl) ?_
        refine ox_y rfl (y_loadRN (A := A0_0) (j := (Int.toNat s6.1 * 10)) [.int .i64 ((rdL p0 s6.1).fBarrows), .int .i64 ((rdL p0 s6.1).fSeen.x0), .int .i64 ((rdL p0 s6.1).fSeen.x1), .int .i64 ((rdL p0 s6.1).fSeen.x2), .int .i64 ((rdL p0 s6.1).fKnown.x0.fLo), .int .i64 ((rdL p0 s6.1).fKnown.x0.fHi), .int .i64 ((rdL p0 s6.1).fKnown.x1.fLo), .int .i64 ((rdL p0 s6.1).fKnown.x1.fHi), .int .i64 ((rdL p0 s6.1).fKnown.x2.fLo), .int .i64 ((rdL p0 s6.1).fKnown.x2.fHi)] ag_52 (Nat.succ_pos _) (RdL.arg hr0_0) rfl (encL_gets TBatch_cells_len hg9.1 (lt_nat hg9.2 rfl))) ?_
        obtain ⟨y10, hy11, h⟩ := bind_some h
        refine ox_y rfl (y_call [.agg #[.int .i64 ((rdL p0 s6.1).fBarrows), .int .i64 ((rdL p0 s6.1).fSeen.x0), .int .i64 ((rdL p0 s6.1).fSeen.x1), .int .i64 ((rdL p0 s6.1).fSeen.x2), .int .i64 ((rdL p0 s6.1).fKnown.x0.fLo), .int .i64 ((rdL p0 s6.1).fKnown.x0.fHi), .int .i64 ((rdL p0 s6.1).fKnown.x1.fLo), .int .i64 ((rdL p0 s6.1).fKnown.x1.fHi), .int .i64 ((rdL p0 s6.1).fKnown.x2.fLo), .int .i64 ((rdL p0 s6.1).fKnown.x2.fHi)]] go_40 rfl (fun W2 hW2 => calxref03_Check_ok (TBatch.mk ((rdL p0 s6.1).fBarrows) (TKinds.mk ((rdL p0 s6.1).fSeen.x0) ((rdL p0 s6.1).fSeen.x1) ((rdL p0 s6.1).fSeen.x2)) (TArr3_TSpan.mk (TSpan.mk ((rdL p0 s6.1).fKnown.x0.fLo) ((rdL p0 s6.1).fKnown.x0.fHi)) (TSpan.mk ((rdL p0 s6.1).fKnown.x1.fLo) ((rdL p0 s6.1).fKnown.x1.fHi)) (TSpan.mk ((rdL p0 s6.1).fKnown.x2.fLo) ((rdL p0 s6.1).fKnown.x2.fHi)))) y10 hy11 W2 ) rfl) ?_
        refine ox_y rfl (y_assign_int rfl) ?_
        refine ox_nil ?_
        refine ex_then ?_
        refine cx_seq ?_
        refine cx_region ?_
        refine ox_y rfl (y_move_int rfl) ?_
        refine ox_y rfl (y_neq rfl rfl) ?_
        refine ox_nil ?_
        refine ex_then ?_
        rcases ite_some h with ⟨hp12, h⟩ | ⟨hp12, h⟩
        · refine cx_true (congrArg Value.bool hp12) ?_
          refine cx_seq ?_
          refine cx_region ?_
          refine ox_y rfl (y_move_int rfl) ?_
          refine ox_y rfl (y_buildS [.slice none 0 0, .int .i64 y10] [(0, 1), (1, 1)] ust_38 ze_38 (by kernel_rfl)) ?_
          refine ox_n rfl (y_storeN 1 [.slice none 0 0, .int .i64 y10] sz_38 rfl (Nat.le_of_ble_eq_true rfl) rfl rfl rfl) ?_
          refine ox_nil ?_
          refine ex_then ?_
          refine cx_ret ?_
          refine ex_block_ret ?_
          refine ex_then_ret ?_
          obtain rfl := Option.some.inj h
          exact ex_stop ⟨rfl, _, rfl, (keep (keep (keep (keep (keep (keep (keep rfl rfl) rfl) rfl) rfl) rfl) rfl) rfl)⟩
        · refine cx_false (congrArg Value.bool hp12) ?_
          refine cx_skip ?_
          refine ex_block ?_
          refine ex_then ?_
          refine cx_region ?_
          refine ox_y rfl (y_move_int rfl) ?_
          refine ox_y rfl (y_add rfl rfl) ?_
          refine ox_y rfl (y_assign_int rfl) ?_
          refine ox_nil ?_
          obtain rfl := Option.some.inj h
          exact ex_next ⟨_, rfl, (keep (keep (keep (keep (keep (keep (keep rfl rfl) rfl) rfl) rfl) rfl) rfl) rfl)⟩
      · refine cx_false (congrArg Value.bool hp8) ?_
        refine cx_exit ?_
        refine ex_then_exit ?_
        obtain rfl := Option.some.inj h
        exact ex_stop ⟨rfl, _, rfl, (keep (keep (keep (keep (keep (keep (keep rfl rfl) rfl) rfl) rfl) rfl) rfl) rfl)⟩
    · intro e L tm hJ
      rcases u7 with u14 | u15
      · dsimp only at h hJ
        obtain ⟨rfl, tm0_u14, rfl, rfl⟩ := hJ
        refine ⟨(by intro hc; cases hc), ?_⟩
        refine ex_block_ret ?_
        refine ex_then_ret ?_
        obtain rfl := Option.some.inj h
        exact ex_res1 (.inl rfl) rfl (resV_cellN 1 [.slice none 0 0, .int .i64 u14.2] ag_38 rfl rfl rfl) (fun W2 hW2 => ⟨(none, 0, 0), rfl, rfl, ((hW2.nilrow 33 2).pick 2 rfl)⟩)
      · dsimp only at h hJ
        obtain ⟨rfl, tm0_u15, rfl, rfl⟩ := hJ
        refine ⟨(by intro hc; cases hc), ?_⟩
        refine ex_block_here ?_
        refine ex_then ?_
        refine cx_seq ?_
        refine cx_seq ?_
        refine cx_region ?_
        refine ox_y rfl (y_move_int rfl) ?_
        obtain ⟨y16, hy17, h⟩ := bind_some h
        refine ox_y rfl (y_call [.int .i64 p1, .int .i64 0, .int .i64 2] go_79 rfl (fun W2 hW2 => calxref03_in_ok p1 0 2 y16 hy17 W2 ) rfl) ?_
        refine ox_y rfl (y_not rfl) ?_
        refine ox_y rfl (y_move_bool rfl) ?_
        refine ox_join 6 (fun tm0 => (upd (upd (upd (upd (upd (upd (upd (upd tm0 0 (.slice A0_0 p0.length c0_0)) 1 (.int .i64 p1)) 2 (.agg #[.int .i64 p2.fLo, .int .i64 p2.fHi])) 5 (.pointer (some ⟨b1, 0, none⟩))) 6 (.pointer (some ⟨b2, 0, none⟩))) 20 (.bool (decide (12 < ((p0.length : Nat) : Int))))) 7 (.int .i64 u15.1)) 46 (.bool ((!y16) || (decide (p2.fHi < p2.fLo)))))) (fun tm0 => ?_) (fun key => ?_)
        · refine ox_nil ?_
          refine ex_then ?_
          rcases ite_some h with ⟨hp19, h⟩ | ⟨hp19, h⟩
          · refine cx_true (congrArg Value.bool hp19) ?_
            refine cx_seq ?_
            refine cx_region ?_
            refine ox_y rfl (y_buildS [.slice none 0 0, .int .i64 1] [(0, 1), (1, 1)] ust_38 ze_38 (by kernel_rfl)) ?_
            refine ox_n rfl (y_storeN 1 [.slice none 0 0, .int .i64 1] sz_38 rfl (Nat.le_of_ble_eq_true rfl) rfl rfl rfl) ?_
            refine ox_nil ?_
            refine ex_then ?_
            refine cx_ret ?_
            refine ex_then_ret ?_
            obtain rfl := Option.some.inj h
            exact ex_res1 (.inl rfl) rfl (resV_cellN 1 [.slice none 0 0, .int .i64 1] ag_38 rfl rfl rfl) (fun W2 hW2 => ⟨(none, 0, 0), rfl, rfl, ((hW2.nilrow 33 2).pick 2 rfl)⟩)
          · refine cx_false (congrArg Value.bool hp19) ?_
            refine cx_skip ?_
            refine ex_then ?_
            refine cx_seq ?_
            refine cx_region ?_
            refine ox_y rfl (y_assign_slice rfl) ?_
            refine ox_nil ?_
            refine ex_then ?_
            refine cx_seq ?_
            refine cx_region ?_
            refine ox_y rfl (y_assign_int rfl) ?_
            refine ox_nil ?_
            refine ex_then ?_
            refine cx_seq ?_
            refine cx_region ?_
            refine ox_y rfl (y_assign_int rfl) ?_
            refine ox_nil ?_
            refine ex_then ?_
            refine cx_seq ?_
            refine cx_seq ?_
            refine cx_region ?_
            refine ox_y rfl (y_assign_int rfl) ?_
            refine ox_nil ?_
            refine ex_then ?_
            refine cx_block ?_
            obtain ⟨u23, hl33, h⟩ := bind_some h
            refine cx_nilrow 33 2 ?_
            refine cx_loop (fun (s : (Int × Int × Int × (List TSpan))) L tm => ∃ (tm0 : Nat → Value) (A2_s : Option Addr) (c2_s : Nat) (n2_s : Nat), n2_s = s.2.2.2.length ∧ L = [cellsR b1 33 [.int .i64 p2.fLo, .int .i64 p2.fHi], cellsR b2 38 [.slice none 0 0, .int .i64 u15.2], rowR A2_s c2_s 33 2 n2_s (encL TSpan_cells s.2.2.2)] ∧ tm = (upd (upd (upd (upd (upd (upd (upd (upd (upd (upd (upd (upd tm0 0 (.slice A0_0 p0.length c0_0)) 1 (.int .i64 p1)) 2 (.agg #[.int .i64 p2.fLo, .int .i64 p2.fHi])) 5 (.pointer (some ⟨b1, 0, none⟩))) 6 (.pointer (some ⟨b2, 0, none⟩))) 20 (.bool (decide (12 < ((p0.length : Nat) : Int))))) 7 (.int .i64 u15.1)) 46 (.bool ((!y16) || (decide (p2.fHi < p2.fLo))))) 9 (.slice A2_s n2_s c2_s)) 10 (.int .i64 s.1)) 11 (.int .i64 s.2.1)) 12 (.int .i64 s.2.2.1))) (fun s e L tm => e = .exit 2 ∧ ∃ (tm0 : Nat → Value) (A2_s : Option Addr) (c2_s : Nat) (n2_s : Nat), n2_s = s.2.2.2.length ∧ L = [cellsR b1 33 [.int .i64 p2.fLo, .int .i64 p2.fHi], cellsR b2 38 [.slice none 0 0, .int .i64 u15.2], rowR A2_s c2_s 33 2 n2_s (encL TSpan_cells s.2.2.2)] ∧ tm = (upd (upd (upd (upd (upd (upd (upd (upd (upd (upd (upd (upd tm0 0 (.slice A0_0 p0.length c0_0)) 1 (.int .i64 p1)) 2 (.agg #[.int .i64 p2.fLo, .int .i64 p2.fHi])) 5 (.pointer (some ⟨b1, 0, none⟩))) 6 (.pointer (some ⟨b2, 0, none⟩))) 20 (.bool (decide (12 < ((p0.length : Nat) : Int))))) 7 (.int .i64 u15.1)) 46 (.bool ((!y16) || (decide (p2.fHi < p2.fLo))))) 9 (.slice A2_s n2_s c2_s)) 10 (.int .i64 s.1)) 11 (.int .i64 s.2.1)) 12 (.int .i64 s.2.2.1))) hl33 ⟨_, none, 0, 0, rfl, rfl, (keep (keep (keep (keep (keep (keep (keep (keep (keep (keep (keep (keep rfl rfl) rfl) rfl) rfl) rfl) rfl) rfl) rfl) rfl) rfl) rfl) rfl)⟩ ?_ ?_
            · rintro s22 L tm st ⟨tm0_s22, A2_s22, c2_s22, n2_s22, rfl, rfl, rfl⟩ h
              unfold calxref03_Together_l2 at h
              refine cx_seq ?_
              refine cx_seq ?_
              refine cx_region ?_
              refine ox_y rfl (y_move_int rfl) ?_
              refine ox_y rfl (y_move_slice rfl) ?_
              refine ox_y rfl (y_len (us := []) us_31 rfl) ?_
              refine ox_y rfl (y_lss rfl rfl) ?_
              refine ox_nil ?_
              refine ex_then ?_
              rcases ite_some h with ⟨hp24, h⟩ | ⟨hp24, h⟩
              · refine cx_true (congrArg Value.bool hp24) ?_
                refine cx_skip ?_
                refine ex_then ?_
                refine cx_seq ?_
                refine cx_block ?_
                refine cx_seq ?_
                refine cx_region ?_
                refine ox_y rfl (y_move_slice rfl) ?_
                refine ox_y rfl (y_move_int rfl) ?_
                obtain ⟨hg25, h⟩ := guardO_some h
                refine ox_y rfl (y_indexR sl_31 (by decide) hg25.1 hg25.2 (RdL.arg hr0_0) (encL_len TBatch_cells_len rfl) rfl rfl) ?_
                refine ox_y rfl (y_loadRN (A := A0_0) (j := (Int.toNat s22.2.2.1 * 10)) [.int .i64 ((rdL p0 s22.2.2.1).fBarrows), .int .i64 ((rdL p0 s22.2.2.1).fSeen.x0), .int .i64 ((rdL p0 s22.2.2.1).fSeen.x1), .int .i64 ((rdL p0 s22.2.2.1).fSeen.x2), .int .i64 ((rdL p0 s22.2.2.1).fKnown.x0.fLo), .int .i64 ((rdL p0 s22.2.2.1).fKnown.x0.fHi), .int .i64 ((rdL p0 s22.2.2.1).fKnown.x1.fLo), .int .i64 ((rdL p0 s22.2.2.1).fKnown.x1.fHi), .int .i64 ((rdL p0 s22.2.2.1).fKnown.x2.fLo), .int .i64 ((rdL p0 s22.2.2.1).fKnown.x2.fHi)] ag_52 (Nat.succ_pos _) (RdL.arg hr0_0) rfl (encL_gets TBatch_cells_len hg25.1 (lt_nat hg25.2 rfl))) ?_
                refine ox_y rfl (y_move_int rfl) ?_
                obtain ⟨y26, hy27, h⟩ := bind_some h
                refine ox_y rfl (y_call [.agg #[.int .i64 ((rdL p0 s22.2.2.1).fBarrows), .int .i64 ((rdL p0 s22.2.2.1).fSeen.x0), .int .i64 ((rdL p0 s22.2.2.1).fSeen.x1), .int .i64 ((rdL p0 s22.2.2.1).fSeen.x2), .int .i64 ((rdL p0 s22.2.2.1).fKnown.x0.fLo), .int .i64 ((rdL p0 s22.2.2.1).fKnown.x0.fHi), .int .i64 ((rdL p0 s22.2.2.1).fKnown.x1.fLo), .int .i64 ((rdL p0 s22.2.2.1).fKnown.x1.fHi), .int .i64 ((rdL p0 s22.2.2.1).fKnown.x2.fLo), .int .i64 ((rdL p0 s22.2.2.1).fKnown.x2.fHi)], .int .i64 p1] go_88 rfl (fun W2 hW2 => calxref03_ends_ok (TBatch.mk ((rdL p0 s22.2.2.1).fBarrows) (TKinds.mk ((rdL p0 s22.2.2.1).fSeen.x0) ((rdL p0 s22.2.2.1).fSeen.x1) ((rdL p0 s22.2.2.1).fSeen.x2)) (TArr3_TSpan.mk (TSpan.mk ((rdL p0 s22.2.2.1).fKnown.x0.fLo) ((rdL p0 s22.2.2.1).fKnown.x0.fHi)) (TSpan.mk ((rdL p0 s22.2.2.1).fKnown.x1.fLo) ((rdL p0 s22.2.2.1).fKnown.x1.fHi)) (TSpan.mk ((rdL p0 s22.2.2.1).fKnown.x2.fLo) ((rdL p0 s22.2.2.1).fKnown.x2.fHi)))) p1 y26 hy27 W2 ) rfl) ?_
                refine ox_alloc ze_33 rfl (fun b28 => ?_)
                refine ox_n rfl (y_storeN 3 [.int .i64 y26.fLo, .int .i64 y26.fHi] sz_33 rfl (Nat.le_of_ble_eq_true rfl) rfl rfl rfl) ?_
                refine ox_nil ?_
                refine ex_then ?_
                refine cx_seq ?_
                refine cx_region ?_
                refine ox_y rfl (y_move_slice rfl) ?_
                refine ox_y rfl (y_loadN 3 [.int .i64 y26.fLo, .int .i64 y26.fHi] ag_33 rfl rfl rfl) ?_
                refine ox_buildSliceE 1 (encL TSpan_cells [y26]) _ mc_33_1 us_34 ze_33 by_33 (by decide) (by decide) (by kernel_rfl) (encL_len TSpan_cells_len rfl) rfl (fun b29 => ?_)
                obtain ⟨hg32, h⟩ := guardO_some h
                refine ox_appendE 2 us_34 ze_33 by_33 rfl rfl rfl (Nat.lt_of_lt_of_le (Nat.lt_succ_self 0) (Nat.le_of_ble_eq_true rfl)) (RdL.row 4 rfl) (encL_len TSpan_cells_len rfl) (encL_one TSpan_cells_one _) (app_room hg32 (by decide)) rfl (fun A30 c31 => ?_)
                refine ox_y rfl (y_assign_slice rfl) ?_
                refine ox_nil ?_
                refine ex_then ?_
                refine cx_seq ?_
                refine cx_region ?_
                refine ox_y rfl (y_move_int rfl) ?_
                refine ox_y rfl (y_fieldAddr fo_33_0 rfl) ?_
                refine ox_y rfl (y_load1 3 (v := .int .i64 y26.fLo) sc_3 rfl rfl rfl) ?_
                refine ox_y rfl (y_add rfl rfl) ?_
                refine ox_y rfl (y_assign_int rfl) ?_
                refine ox_nil ?_
                refine ex_then ?_
                refine cx_region ?_
                refine ox_y rfl (y_move_int rfl) ?_
                refine ox_y rfl (y_fieldAddr fo_33_1 rfl) ?_
                refine ox_y rfl (y_load1 3 (v := .int .i64 y26.fHi) sc_3 rfl rfl rfl) ?_
                refine ox_y rfl (y_add rfl rfl) ?_
                refine ox_y rfl (y_assign_int rfl) ?_
                refine ox_nil ?_
                refine ex_block ?_
                refine ex_then ?_
                refine cx_region ?_
                refine ox_y rfl (y_move_int rfl) ?_
                refine ox_y rfl (y_add rfl rfl) ?_
                refine ox_y rfl (y_assign_int rfl) ?_
                refine ox_nil ?_
                refine ex_take 3 ?_
                obtain rfl := Option.some.inj h
                exact ex_next ⟨_, A30, c31, (s22.2.2.2.length + 1), (hn_app rfl rfl), rfl, (keep (keep (keep (keep (keep (keep (keep (keep (keep (keep (keep (keep rfl rfl) rfl) rfl) rfl) rfl) rfl) rfl) rfl) rfl) rfl) rfl) rfl)⟩
              · refine cx_false (congrArg Value.bool hp24) ?_
                refine cx_exit ?_
                refine ex_then_exit ?_
                obtain rfl := Option.some.inj h
                exact ex_stop ⟨rfl, _, A2_s22, c2_s22, s22.2.2.2.length, rfl, rfl, (keep (keep (keep (keep (keep (keep (keep (keep (keep (keep (keep (keep rfl rfl) rfl) rfl) rfl) rfl) rfl) rfl) rfl) rfl) rfl) rfl) rfl)⟩
            · intro e L tm hJ
              obtain ⟨rfl, tm0_u23, A2_u23, c2_u23, n2_u23, rfl, rfl, rfl⟩ := hJ
              refine ⟨(by intro hc; cases hc), ?_⟩
              refine ex_block_here ?_
              refine ex_then ?_
              refine cx_seq ?_
              refine cx_seq ?_
              refine cx_region ?_
              refine ox_y rfl (y_fieldAddr fo_33_0 rfl) ?_
              refine ox_y rfl (y_load1 0 (v := .int .i64 p2.fLo) sc_3 rfl rfl rfl) ?_
              refine ox_y rfl (y_move_int rfl) ?_
              refine ox_y rfl (y_gtr rfl rfl) ?_
              refine ox_y rfl (y_move_bool rfl) ?_
              refine ox_join 5 (fun tm0 => (upd (upd (upd (upd (upd (upd (upd (upd (upd (upd (upd (upd (upd tm0 0 (.slice A0_0 p0.length c0_0)) 1 (.int .i64 p1)) 2 (.agg #[.int .i64 p2.fLo, .int .i64 p2.fHi])) 5 (.pointer (some ⟨b1, 0, none⟩))) 6 (.pointer (some ⟨b2, 0, none⟩))) 20 (.bool (decide (12 < ((p0.length : Nat) : Int))))) 7 (.int .i64 u15.1)) 46 (.bool ((!y16) || (decide (p2.fHi < p2.fLo))))) 9 (.slice A2_u23 u23.2.2.2.length c2_u23)) 10 (.int .i64 u23.1)) 11 (.int .i64 u23.2.1)) 12 (.int .i64 u23.2.2.1)) 81 (.bool ((decide (u23.2.1 < p2.fLo)) || (decide (p2.fHi < u23.1)))))) (fun tm0 => ?_) (fun key => ?_)
              · refine ox_nil ?_
                refine ex_then ?_
                rcases ite_some h with ⟨hp35, h⟩ | ⟨hp35, h⟩
                · refine cx_true (congrArg Value.bool hp35) ?_
                  refine cx_seq ?_
                  refine cx_region ?_
                  refine ox_y rfl (y_buildS [.slice none 0 0, .int .i64 9] [(0, 1), (1, 1)] ust_38 ze_38 (by kernel_rfl)) ?_
                  refine ox_n rfl (y_storeN 1 [.slice none 0 0, .int .i64 9] sz_38 rfl (Nat.le_of_ble_eq_true rfl) rfl rfl rfl) ?_
                  refine ox_nil ?_
                  refine ex_then ?_
                  refine cx_ret ?_
                  refine ex_then_ret ?_
                  obtain rfl := Option.some.inj h
                  exact ex_res1 (.inl rfl) rfl (resV_cellN 1 [.slice none 0 0, .int .i64 9] ag_38 rfl rfl rfl) (fun W2 hW2 => ⟨(none, 0, 0), rfl, rfl, ((hW2.nilrow 33 2).pick 3 rfl)⟩)
                · refine cx_false (congrArg Value.bool hp35) ?_
                  refine cx_skip ?_
                  refine ex_then ?_
                  refine cx_seq ?_
                  refine cx_region ?_
                  refine ox_y rfl (y_fieldAddr fo_33_0 rfl) ?_
                  refine ox_y rfl (y_load1 0 (v := .int .i64 p2.fLo) sc_3 rfl rfl rfl) ?_
                  refine ox_y rfl (y_move_int rfl) ?_
                  refine ox_y rfl (y_max rfl rfl) ?_
                  refine ox_y rfl (y_assign_int rfl) ?_
                  refine ox_nil ?_
                  refine ex_then ?_
                  refine cx_seq ?_
                  refine cx_region ?_
                  refine ox_y rfl (y_fieldAddr fo_33_1 rfl) ?_
                  refine ox_y rfl (y_load1 0 (v := .int .i64 p2.fHi) sc_3 rfl rfl rfl) ?_
                  refine ox_y rfl (y_move_int rfl) ?_
                  refine ox_y rfl (y_min rfl rfl) ?_
                  refine ox_y rfl (y_assign_int rfl) ?_
                  refine ox_nil ?_
                  refine ex_then ?_
                  refine cx_seq ?_
                  refine cx_region ?_
                  refine ox_y rfl (y_assign_slice rfl) ?_
                  refine ox_nil ?_
                  refine ex_then ?_
                  refine cx_seq ?_
                  refine cx_seq ?_
                  refine cx_region ?_
                  refine ox_y rfl (y_assign_int rfl) ?_
                  refine ox_nil ?_
                  refine ex_then ?_
                  refine cx_block ?_
                  obtain ⟨u39, hl49, h⟩ := bind_some h
                  refine cx_nilrow 33 2 ?_
                  refine cx_loop (fun (s : (Int × (List TSpan))) L tm => ∃ (tm0 : Nat → Value) (A3_s : Option Addr) (c3_s : Nat) (n3_s : Nat), n3_s = s.2.length ∧ L = [cellsR b1 33 [.int .i64 p2.fLo, .int .i64 p2.fHi], cellsR b2 38 [.slice none 0 0, .int .i64 u15.2], rowR A2_u23 c2_u23 33 2 u23.2.2.2.length (encL TSpan_cells u23.2.2.2), rowR A3_s c3_s 33 2 n3_s (encL TSpan_cells s.2)] ∧ tm = (upd (upd (upd (upd (upd (upd (upd (upd (upd (upd (upd (upd (upd (upd (upd (upd (upd tm0 0 (.slice A0_0 p0.length c0_0)) 1 (.int .i64 p1)) 2 (.agg #[.int .i64 p2.fLo, .int .i64 p2.fHi])) 5 (.pointer (some ⟨b1, 0, none⟩))) 6 (.pointer (some ⟨b2, 0, none⟩))) 20 (.bool (decide (12 < ((p0.length : Nat) : Int))))) 7 (.int .i64 u15.1)) 46 (.bool ((!y16) || (decide (p2.fHi < p2.fLo))))) 9 (.slice A2_u23 u23.2.2.2.length c2_u23)) 10 (.int .i64 u23.1)) 11 (.int .i64 u23.2.1)) 12 (.int .i64 u23.2.2.1)) 81 (.bool ((decide (u23.2.1 < p2.fLo)) || (decide (p2.fHi < u23.1))))) 14 (.int .i64 (max p2.fLo u23.1))) 15 (.int .i64 (min p2.fHi u23.2.1))) 16 (.slice A3_s n3_s c3_s)) 17 (.int .i64 s.1))) (fun s e L tm => e = .exit 4 ∧ ∃ (tm0 : Nat → Value) (A3_s : Option Addr) (c3_s : Nat) (n3_s : Nat), n3_s = s.2.length ∧ L = [cellsR b1 33 [.int .i64 p2.fLo, .int .i64 p2.fHi], cellsR b2 38 [.slice none 0 0, .int .i64 u15.2], rowR A2_u23 c2_u23 33 2 u23.2.2.2.length (encL TSpan_cells u23.2.2.2), rowR A3_s c3_s 33 2 n3_s (encL TSpan_cells s.2)] ∧ tm = (upd (upd (upd (upd (upd (upd (upd (upd (upd (upd (upd (upd (upd (upd (upd (upd (upd tm0 0 (.slice A0_0 p0.length c0_0)) 1 (.int .i64 p1)) 2 (.agg #[.int .i64 p2.fLo, .int .i64 p2.fHi])) 5 (.pointer (some ⟨b1, 0, none⟩))) 6 (.pointer (some ⟨b2, 0, none⟩))) 20 (.bool (decide (12 < ((p0.length : Nat) : Int))))) 7 (.int .i64 u15.1)) 46 (.bool ((!y16) || (decide (p2.fHi < p2.fLo))))) 9 (.slice A2_u23 u23.2.2.2.length c2_u23)) 10 (.int .i64 u23.1)) 11 (.int .i64 u23.2.1)) 12 (.int .i64 u23.2.2.1)) 81 (.bool ((decide (u23.2.1 < p2.fLo)) || (decide (p2.fHi < u23.1))))) 14 (.int .i64 (max p2.fLo u23.1))) 15 (.int .i64 (min p2.fHi u23.2.1))) 16 (.slice A3_s n3_s c3_s)) 17 (.int .i64 s.1))) hl49 ⟨_, none, 0, 0, rfl, rfl, (keep (keep (keep (keep (keep (keep (keep (keep (keep (keep (keep (keep (keep (keep (keep (keep (keep rfl rfl) rfl) rfl) rfl) rfl) rfl) rfl) rfl) rfl) rfl) rfl) rfl) rfl) rfl) rfl) rfl) rfl)⟩ ?_ ?_
                  · rintro s38 L tm st ⟨tm0_s38, A3_s38, c3_s38, n3_s38, rfl, rfl, rfl⟩ h
                    unfold calxref03_Together_l3 at h
                    refine cx_seq ?_
                    refine cx_seq ?_
                    refine cx_region ?_
                    refine ox_y rfl (y_move_int rfl) ?_
                    refine ox_y rfl (y_move_slice rfl) ?_
                    refine ox_y rfl (y_len (us := []) us_31 rfl) ?_
                    refine ox_y rfl (y_lss rfl rfl) ?_
                    refine ox_nil ?_
                    refine ex_then ?_
                    rcases ite_some h with ⟨hp40, h⟩ | ⟨hp40, h⟩
                    · refine cx_true (congrArg Value.bool hp40) ?_
                      refine cx_skip ?_
                      refine ex_then ?_
                      refine cx_seq ?_
                      refine cx_block ?_
                      refine cx_drawsF [0] 32 mixed (by kernel_rfl) (by kernel_rfl) ?_
                      refine qx_y rfl (y_move_slice rfl) ?_
                      refine qx_y rfl (y_move_slice rfl) ?_
                      refine qx_y rfl (y_move_int rfl) ?_
                      obtain ⟨hg41, h⟩ := guardO_some h
                      refine qx_y rfl (y_indexR sl_34 (by decide) hg41.1 hg41.2 (RdL.row 2 rfl) (encL_len TSpan_cells_len rfl) rfl rfl) ?_
                      refine qx_y rfl (y_fieldAddrR (A := A2_u23) (j := (Int.toNat s38.1 * 2)) fo_33_0 rfl) ?_
                      refine qx_y rfl (y_loadR1 (A := A2_u23) (j := ((Int.toNat s38.1 * 2) + 0)) (v := .int .i64 ((rdL u23.2.2.2 s38.1).fLo)) sc_3 (RdL.row 2 rfl) rfl (encL_get TSpan_cells_len hg41.1 (lt_nat hg41.2 rfl) rfl)) ?_
                      refine qx_y rfl (y_move_int rfl) ?_
                      refine qx_y rfl (y_move_int rfl) ?_
                      refine qx_y rfl (y_move_slice rfl) ?_
                      refine qx_y rfl (y_move_int rfl) ?_
                      obtain ⟨hg42, h⟩ := guardO_some h
                      refine qx_y rfl (y_indexR sl_34 (by decide) hg42.1 hg42.2 (RdL.row 2 rfl) (encL_len TSpan_cells_len rfl) rfl rfl) ?_
                      refine qx_y rfl (y_fieldAddrR (A := A2_u23) (j := (Int.toNat s38.1 * 2)) fo_33_1 rfl) ?_
                      refine qx_y rfl (y_loadR1 (A := A2_u23) (j := ((Int.toNat s38.1 * 2) + 1)) (v := .int .i64 ((rdL u23.2.2.2 s38.1).fHi)) sc_3 (RdL.row 2 rfl) rfl (encL_get TSpan_cells_len hg42.1 (lt_nat hg42.2 rfl) rfl)) ?_
                      refine qx_y rfl (y_sub rfl rfl) ?_
                      refine qx_y rfl (y_sub rfl rfl) ?_
                      refine qx_y rfl (y_max rfl rfl) ?_
                      refine qx_y rfl (y_move_slice rfl) ?_
                      refine qx_y rfl (y_move_int rfl) ?_
                      obtain ⟨hg43, h⟩ := guardO_some h
                      refine qx_y rfl (y_indexR sl_34 (by decide) hg43.1 hg43.2 (RdL.row 2 rfl) (encL_len TSpan_cells_len rfl) rfl rfl) ?_
                      refine qx_y rfl (y_fieldAddrR (A := A2_u23) (j := (Int.toNat s38.1 * 2)) fo_33_1 rfl) ?_
                      refine qx_y rfl (y_loadR1 (A := A2_u23) (j := ((Int.toNat s38.1 * 2) + 1)) (v := .int .i64 ((rdL u23.2.2.2 s38.1).fHi)) sc_3 (RdL.row 2 rfl) rfl (encL_get TSpan_cells_len hg43.1 (lt_nat hg43.2 rfl) rfl)) ?_
                      refine qx_y rfl (y_move_int rfl) ?_
                      refine qx_y rfl (y_move_int rfl) ?_
                      refine qx_y rfl (y_move_slice rfl) ?_
                      refine qx_y rfl (y_move_int rfl) ?_
                      obtain ⟨hg44, h⟩ := guardO_some h
                      refine qx_y rfl (y_indexR sl_34 (by decide) hg44.1 hg44.2 (RdL.row 2 rfl) (encL_len TSpan_cells_len rfl) rfl rfl) ?_
                      refine qx_y rfl (y_fieldAddrR (A := A2_u23) (j := (Int.toNat s38.1 * 2)) fo_33_0 rfl) ?_
                      refine qx_y rfl (y_loadR1 (A := A2_u23) (j := ((Int.toNat s38.1 * 2) + 0)) (v := .int .i64 ((rdL u23.2.2.2 s38.1).fLo)) sc_3 (RdL.row 2 rfl) rfl (encL_get TSpan_cells_len hg44.1 (lt_nat hg44.2 rfl) rfl)) ?_
                      refine qx_y rfl (y_sub rfl rfl) ?_
                      refine qx_y rfl (y_sub rfl rfl) ?_
                      refine qx_y rfl (y_min rfl rfl) ?_
                      refine qx_y rfl (y_buildS [.int .i64 (max ((rdL u23.2.2.2 s38.1).fLo) (w64 ((max p2.fLo u23.1) - (w64 (u23.2.1 - ((rdL u23.2.2.2 s38.1).fHi)))))), .int .i64 (min ((rdL u23.2.2.2 s38.1).fHi) (w64 ((min p2.fHi u23.2.1) - (w64 (u23.1 - ((rdL u23.2.2.2 s38.1).fLo))))))] [(0, 1), (1, 1)] ust_33 ze_33 (by kernel_rfl)) ?_
                      refine qx_nil ?_
                      refine ox_buildSliceE 1 (encL TSpan_cells [(TSpan.mk (max ((rdL u23.2.2.2 s38.1).fLo) (w64 ((max p2.fLo u23.1) - (w64 (u23.2.1 - ((rdL u23.2.2.2 s38.1).fHi)))))) (min ((rdL u23.2.2.2 s38.1).fHi) (w64 ((min p2.fHi u23.2.1) - (w64 (u23.1 - ((rdL u23.2.2.2 s38.1).fLo)))))))]) _ mc_33_1 us_34 ze_33 by_33 (by decide) (by decide) (by kernel_rfl) (encL_len TSpan_cells_len rfl) rfl (fun b45 => ?_)
                      obtain ⟨hg48, h⟩ := guardO_some h
                      refine ox_appendE 3 us_34 ze_33 by_33 rfl rfl rfl (Nat.lt_of_lt_of_le (Nat.lt_succ_self 0) (Nat.le_of_ble_eq_true rfl)) (RdL.row 4 rfl) (encL_len TSpan_cells_len rfl) (encL_one TSpan_cells_one _) (app_room hg48 (by decide)) rfl (fun A46 c47 => ?_)
                      refine ox_y rfl (y_assign_slice rfl) ?_
                      refine ox_nil ?_
                      refine ex_only ?_
                      refine ex_block ?_
                      refine ex_then ?_
                      refine cx_region ?_
                      refine ox_y rfl (y_move_int rfl) ?_
                      refine ox_y rfl (y_add rfl rfl) ?_
                      refine ox_y rfl (y_assign_int rfl) ?_
                      refine ox_nil ?_
                      refine ex_take 4 ?_
                      obtain rfl := Option.some.inj h
                      exact ex_next ⟨_, A46, c47, (s38.2.length + 1), (hn_app rfl rfl), rfl, (keep (keep (keep (keep (keep (keep (keep (keep (keep (keep (keep (keep (keep (keep (keep (keep (keep rfl rfl) rfl) rfl) rfl) rfl) rfl) rfl) rfl) rfl) rfl) rfl) rfl) rfl) rfl) rfl) rfl) rfl)⟩
                    · refine cx_false (congrArg Value.bool hp40) ?_
                      refine cx_exit ?_
                      refine ex_then_exit ?_
                      obtain rfl := Option.some.inj h
                      exact ex_stop ⟨rfl, _, A3_s38, c3_s38, s38.2.length, rfl, rfl, (keep (keep (keep (keep (keep (keep (keep (keep (keep (keep (keep (keep (keep (keep (keep (keep (keep rfl rfl) rfl) rfl) rfl) rfl) rfl) rfl) rfl) rfl) rfl) rfl) rfl) rfl) rfl) rfl) rfl) rfl)⟩
                  · intro e L tm hJ
                    obtain ⟨rfl, tm0_u39, A3_u39, c3_u39, n3_u39, rfl, rfl, rfl⟩ := hJ
                    refine ⟨(by intro hc; cases hc), ?_⟩
                    refine ex_block_here ?_
                    refine ex_then ?_
                    refine cx_seq ?_
                    refine cx_region ?_
                    refine ox_y rfl (y_move_slice rfl) ?_
                    refine ox_y rfl (y_buildS [.slice A3_u39 u39.2.length c3_u39, .int .i64 0] [(0, 1), (1, 1)] ust_38 ze_38 (by kernel_rfl)) ?_
                    refine ox_n rfl (y_storeN 1 [.slice A3_u39 u39.2.length c3_u39, .int .i64 0] sz_38 rfl (Nat.le_of_ble_eq_true rfl) rfl rfl rfl) ?_
                    refine ox_nil ?_
                    refine ex_then ?_
                    refine cx_ret ?_
                    obtain rfl := Option.some.inj h
                    exact ex_res1 (.inl rfl) rfl (resV_cellN 1 [.slice A3_u39 u39.2.length c3_u39, .int .i64 0] ag_38 rfl rfl rfl) (fun W2 hW2 => ⟨(A3_u39, u39.2.length, c3_u39), rfl, rfl, (hW2.pick 3 rfl)⟩)
              · rcases bool_cases (decide (u23.2.1 < p2.fLo)) with hp34 | hp34
                · refine ox_skip (sees_f rfl rfl rfl rfl hp34) ?_
                  refine ox_skip (sees_f rfl rfl rfl rfl hp34) ?_
                  refine ox_skip (sees_f rfl rfl rfl rfl hp34) ?_
                  refine ox_skip (sees_f rfl rfl rfl rfl hp34) ?_
                  refine ox_y rfl (y_pick_tb (congrArg Value.bool hp34) rfl) ?_
                  exact key _ _ (keep (keep (keep (keep (keep (keep (keep (keep (keep (keep (keep (keep (keep rfl rfl) rfl) rfl) rfl) rfl) rfl) rfl) rfl) rfl) rfl) rfl) rfl) (congrArg Value.bool (or_t hp34)))
                · refine ox_y (sees_t rfl rfl rfl rfl hp34) (y_fieldAddr fo_33_1 rfl) ?_
                  refine ox_y (sees_t rfl rfl rfl rfl hp34) (y_load1 0 (v := .int .i64 p2.fHi) sc_3 rfl rfl rfl) ?_
                  refine ox_y (sees_t rfl rfl rfl rfl hp34) (y_move_int rfl) ?_
                  refine ox_y (sees_t rfl rfl rfl rfl hp34) (y_lss rfl rfl) ?_
                  refine ox_y rfl (y_pick_fb (congrArg Value.bool hp34) rfl) ?_
                  exact key _ _ (keep (keep (keep (keep (keep (keep (keep (keep (keep (keep (keep (keep (keep rfl rfl) rfl) rfl) rfl) rfl) rfl) rfl) rfl) rfl) rfl) rfl) rfl) (congrArg Value.bool (or_f hp34)))
        · rcases bool_cases (!y16) with hp18 | hp18
          · refine ox_skip (sees_f rfl rfl rfl rfl hp18) ?_
            refine ox_skip (sees_f rfl rfl rfl rfl hp18) ?_
            refine ox_skip (sees_f rfl rfl rfl rfl hp18) ?_
            refine ox_skip (sees_f rfl rfl rfl rfl hp18) ?_
            refine ox_skip (sees_f rfl rfl rfl rfl hp18) ?_
            refine ox_y rfl (y_pick_tb (congrArg Value.bool hp18) rfl) ?_
            exact key _ _ (keep (keep (keep (keep (keep (keep (keep (keep rfl rfl) rfl) rfl) rfl) rfl) rfl) rfl) (congrArg Value.bool (or_t hp18)))
          · refine ox_y (sees_t rfl rfl rfl rfl hp18) (y_fieldAddr fo_33_0 rfl) ?_
            refine ox_y (sees_t rfl rfl rfl rfl hp18) (y_load1 0 (v := .int .i64 p2.fLo) sc_3 rfl rfl rfl) ?_
            refine ox_y (sees_t rfl rfl rfl rfl hp18) (y_fieldAddr fo_33_1 rfl) ?_
            refine ox_y (sees_t rfl rfl rfl rfl hp18) (y_load1 0 (v := .int .i64 p2.fHi) sc_3 rfl rfl rfl) ?_
            refine ox_y (sees_t rfl rfl rfl rfl hp18) (y_gtr rfl rfl) ?_
            refine ox_y rfl (y_pick_fb (congrArg Value.bool hp18) rfl) ?_
            exact key _ _ (keep (keep (keep (keep (keep (keep (keep (keep rfl rfl) rfl) rfl) rfl) rfl) rfl) rfl) (congrArg Value.bool (or_f hp18)))

/-! calx/calxlaw03.SampleTogether -/
set_option maxRecDepth 100000 in
theorem calxlaw03_SampleTogether_ok (p0_l : (List TBatch)) (p1_sort : Int) (p2_sum : TSpan) (res : Bool) (h : calxlaw03_SampleTogether p0_l p1_sort p2_sum = some res) (W : World) (A0_0 : Option Addr) (n0_0 c0_0 : Nat) (hn0_0 : n0_0 = p0_l.length) (hr0_0 : Rd W A0_0 n0_0 c0_0 (encL TBatch_cells p0_l)) :
    Calls Try.prog 4 [.slice A0_0 n0_0 c0_0, .int .i64 p1_sort, .agg #[.int .i64 p2_sum.fLo, .int .i64 p2_sum.fHi]].toArray W fun e W2 => e = .returned (.bool res) ∧ Ext W W2 [] := by
  subst hn0_0
  unfold calxlaw03_SampleTogether at h
  refine calls_enter (m := 42) Try.func4 rfl rfl (Nat.le_of_ble_eq_true rfl) ?_
  refine cx_seq ?_
  refine cx_region ?_
  refine ox_box [.int .i64 p2_sum.fLo, .int .i64 p2_sum.fHi] rfl rfl rfl (fun b1 => ?_)
  refine ox_y rfl (y_assign_bool rfl) ?_
  refine ox_nil ?_
  refine ex_then ?_
  refine cx_seq ?_
  refine cx_region ?_
  obtain ⟨y2, hy3, h⟩ := bind_some h
  refine ox_y rfl (y_call [] go_22 rfl (fun W2 hW2 => calxlaw03_head_ok  y2 hy3 W2 ) rfl) ?_
  refine ox_y rfl (y_assign_bool rfl) ?_
  refine ox_nil ?_
  refine ex_then ?_
  refine cx_seq ?_
  refine cx_seq ?_
  refine cx_region ?_
  refine ox_y rfl (y_move_slice rfl) ?_
  refine ox_y rfl (y_len (us := []) us_31 rfl) ?_
  refine ox_y rfl (y_gtr rfl rfl) ?_
  refine ox_nil ?_
  refine ex_then ?_
  rcases ite_some h with ⟨hp4, h⟩ | ⟨hp4, h⟩
  · refine cx_true (congrArg Value.bool hp4) ?_
    refine cx_seq ?_
    refine cx_region ?_
    refine ox_y rfl (y_move_bool rfl) ?_
    refine ox_y rfl (y_assign_bool rfl) ?_
    refine ox_nil ?_
    refine ex_then ?_
    refine cx_ret ?_
    refine ex_then_ret ?_
    obtain rfl := Option.some.inj h
    exact ex_res1 (.inl rfl) rfl (resV_tmp (v := .bool y2) rfl) (fun W2 hW2 => ⟨rfl, hW2.none⟩)
  · refine cx_false (congrArg Value.bool hp4) ?_
    refine cx_skip ?_
    refine ex_then ?_
    refine cx_seq ?_
    refine cx_region ?_
    refine ox_y rfl (y_move_slice rfl) ?_
    refine ox_y rfl (y_move_int rfl) ?_
    refine ox_y rfl (y_loadN 0 [.int .i64 p2_sum.fLo, .int .i64 p2_sum.fHi] ag_33 rfl rfl rfl) ?_
    obtain ⟨y5, hy6, h⟩ := bind_some h
    refine ox_call [.slice A0_0 p0_l.length c0_0, .int .i64 p1_sort, .agg #[.int .i64 p2_sum.fLo, .int .i64 p2_sum.fHi]] _ _ _ rfl go_25 rfl (fun W2 hW2 => sample_Together_ok p0_l p1_sort p2_sum y5 hy6 W2 A0_0 p0_l.length c0_0 rfl ((RdL.arg hr0_0) W2 hW2)) ?_
    rintro ⟨A7, n9, c8⟩ hn10
    replace hn10 : n9 = y5.1.length := hn10; subst hn10
    refine ox_y rfl (y_move_tuple rfl) ?_
    refine ox_y rfl (y_extract (vs := [.slice A7 y5.1.length c8, .int .i64 y5.2]) (v := .slice A7 y5.1.length c8) rfl rfl) ?_
    refine ox_y rfl (y_extract (vs := [.slice A7 y5.1.length c8, .int .i64 y5.2]) (v := .int .i64 y5.2) rfl rfl) ?_
    refine ox_y rfl (y_assign_slice rfl) ?_
    refine ox_y rfl (y_assign_int rfl) ?_
    refine ox_nil ?_
    refine ex_then ?_
    refine cx_seq ?_
    refine cx_region ?_
    refine ox_y rfl (y_move_slice rfl) ?_
    refine ox_y rfl (y_move_int rfl) ?_
    refine ox_y rfl (y_loadN 0 [.int .i64 p2_sum.fLo, .int .i64 p2_sum.fHi] ag_33 rfl rfl rfl) ?_
    obtain ⟨y11, hy12, h⟩ := bind_some h
    refine ox_call [.slice A0_0 p0_l.length c0_0, .int .i64 p1_sort, .agg #[.int .i64 p2_sum.fLo, .int .i64 p2_sum.fHi]] _ _ _ rfl go_26 rfl (fun W2 hW2 => calxref03_Together_ok p0_l p1_sort p2_sum y11 hy12 W2 A0_0 p0_l.length c0_0 rfl ((RdL.arg hr0_0) W2 hW2)) ?_
    rintro ⟨A13, n15, c14⟩ hn16
    replace hn16 : n15 = y11.fL.length := hn16; subst hn16
    refine ox_alloc ze_38 rfl (fun b17 => ?_)
    refine ox_n rfl (y_storeN 3 [.slice A13 y11.fL.length c14, .int .i64 y11.fE] sz_38 rfl (Nat.le_of_ble_eq_true rfl) rfl rfl rfl) ?_
    refine ox_nil ?_
    refine ex_then ?_
    refine cx_seq ?_
    refine cx_region ?_
    refine ox_y rfl (y_move_slice rfl) ?_
    refine ox_y rfl (y_fieldAddr fo_38_0 rfl) ?_
    refine ox_y rfl (y_load1 3 (v := .slice A13 y11.fL.length c14) sc_34 rfl rfl rfl) ?_
    obtain ⟨y18, hy19, h⟩ := bind_some h
    refine ox_y rfl (y_call [.slice A7 y5.1.length c8, .slice A13 y11.fL.length c14] go_27 rfl (fun W2 hW2 => calxref03_SameSpans_ok y5.1 y11.fL y18 hy19 W2 A7 y5.1.length c8 rfl ((RdL.row 1 rfl) W2 hW2) A13 y11.fL.length c14 rfl ((RdL.row 2 rfl) W2 hW2)) rfl) ?_
    refine ox_y rfl (y_assign_bool rfl) ?_
    refine ox_nil ?_
    refine ex_then ?_
    refine cx_seq ?_
    refine cx_region ?_
    refine ox_y rfl (y_move_bool rfl) ?_
    refine ox_y rfl (y_move_bool rfl) ?_
    refine ox_join 2 (fun tm0 => (upd (upd (upd (upd (upd (upd (upd (upd (upd (upd (upd (upd tm0 0 (.slice A0_0 p0_l.length c0_0)) 1 (.int .i64 p1_sort)) 2 (.agg #[.int .i64 p2_sum.fLo, .int .i64 p2_sum.fHi])) 5 (.pointer (some ⟨b1, 0, none⟩))) 6 (.bool false)) 7 (.bool y2)) 15 (.bool (decide (16 < ((p0_l.length : Nat) : Int))))) 8 (.slice A7 y5.1.length c8)) 9 (.int .i64 y5.2)) 10 (.pointer (some ⟨b17, 0, none⟩))) 11 (.bool y18)) 35 (.bool (y2 && y18)))) (fun tm0 => ?_) (fun key => ?_)
    · refine ox_y rfl (y_move_bool rfl) ?_
      refine ox_join 5 (fun tm0 => (upd (upd (upd (upd (upd (upd (upd (upd (upd (upd (upd (upd tm0 0 (.slice A0_0 p0_l.length c0_0)) 1 (.int .i64 p1_sort)) 2 (.agg #[.int .i64 p2_sum.fLo, .int .i64 p2_sum.fHi])) 5 (.pointer (some ⟨b1, 0, none⟩))) 6 (.bool false)) 7 (.bool y2)) 15 (.bool (decide (16 < ((p0_l.length : Nat) : Int))))) 8 (.slice A7 y5.1.length c8)) 9 (.int .i64 y5.2)) 10 (.pointer (some ⟨b17, 0, none⟩))) 11 (.bool y18)) 41 (.bool ((y2 && y18) && (y5.2 == y11.fE))))) (fun tm0 => ?_) (fun key => ?_)
      · refine ox_y rfl (y_assign_bool rfl) ?_
        refine ox_nil ?_
        refine ex_then ?_
        refine cx_ret ?_
        obtain rfl := Option.some.inj h
        exact ex_res1 (.inl rfl) rfl (resV_tmp (v := .bool ((y2 && y18) && (y5.2 == y11.fE))) rfl) (fun W2 hW2 => ⟨rfl, hW2.none⟩)
      · rcases bool_cases (y2 && y18) with hp21 | hp21
        · refine ox_y (sees_t rfl rfl rfl rfl hp21) (y_move_int rfl) ?_
          refine ox_y (sees_t rfl rfl rfl rfl hp21) (y_fieldAddr fo_38_1 rfl) ?_
          refine ox_y (sees_t rfl rfl rfl rfl hp21) (y_load1 3 (v := .int .i64 y11.fE) sc_27 rfl rfl rfl) ?_
          refine ox_y (sees_t rfl rfl rfl rfl hp21) (y_eql rfl rfl) ?_
          refine ox_y rfl (y_pick_tb (congrArg Value.bool hp21) rfl) ?_
          exact key _ _ (keep (keep (keep (keep (keep (keep (keep (keep (keep (keep (keep (keep rfl rfl) rfl) rfl) rfl) rfl) rfl) rfl) rfl) rfl) rfl) rfl) (congrArg Value.bool (and_t hp21)))
        · refine ox_skip (sees_f rfl rfl rfl rfl hp21) ?_
          refine ox_skip (sees_f rfl rfl rfl rfl hp21) ?_
          refine ox_skip (sees_f rfl rfl rfl rfl hp21) ?_
          refine ox_skip (sees_f rfl rfl rfl rfl hp21) ?_
          refine ox_y rfl (y_pick_fb (congrArg Value.bool hp21) rfl) ?_
          exact key _ _ (keep (keep (keep (keep (keep (keep (keep (keep (keep (keep (keep (keep rfl rfl) rfl) rfl) rfl) rfl) rfl) rfl) rfl) rfl) rfl) rfl) (congrArg Value.bool (and_f hp21)))
    · rcases bool_cases y2 with hp20 | hp20
      · refine ox_y (sees_t rfl rfl rfl rfl hp20) (y_move_bool rfl) ?_
        refine ox_y rfl (y_pick_tb (congrArg Value.bool hp20) rfl) ?_
        exact key _ _ (keep (keep (keep (keep (keep (keep (keep (keep (keep (keep (keep (keep rfl rfl) rfl) rfl) rfl) rfl) rfl) rfl) rfl) rfl) rfl) rfl) (congrArg Value.bool (and_t hp20)))
      · refine ox_skip (sees_f rfl rfl rfl rfl hp20) ?_
        refine ox_y rfl (y_pick_fb (congrArg Value.bool hp20) rfl) ?_
        exact key _ _ (keep (keep (keep (keep (keep (keep (keep (keep (keep (keep (keep (keep rfl rfl) rfl) rfl) rfl) rfl) rfl) rfl) rfl) rfl) rfl) rfl) (congrArg Value.bool (and_f hp20)))

end Go.Proofs.Ytepfgdfahinpkaa
