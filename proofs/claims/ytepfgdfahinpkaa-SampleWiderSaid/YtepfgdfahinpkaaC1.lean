/- The calls hand back what the plain functions say. -/
import Derived.Test.YtepfgdfahinpkaaF
import Derived.Test.YtepfgdfahinpkaaC0
set_option linter.unusedVariables false
set_option maxHeartbeats 4000000
namespace Go.Proofs.Ytepfgdfahinpkaa
open Go.RowKit (Below)
attribute [local irreducible] OX QX CX EX OpY Calls CallsIn

/-! calx/sample.Together -/
set_option maxRecDepth 100000 in
theorem sample_Together_ok (p0 : (List TBatch)) (p1 : Int) (p2 : TSpan) (res : ((List TSpan) × Int)) (h : sample_Together p0 p1 p2 = some res) (W : World) (A0_0 : Option Addr) (n0_0 c0_0 : Nat) (hn0_0 : n0_0 = p0.length) (hr0_0 : Rd W A0_0 n0_0 c0_0 (encL TBatch_cells p0)) :
    Calls Try.prog 25 [.slice A0_0 n0_0 c0_0, .int .i64 p1, .agg #[.int .i64 p2.fLo, .int .i64 p2.fHi]].toArray W fun e W2 => ∃ x : Option Addr × Nat × Nat, x.2.1 = res.1.length ∧ e = .returned (.tuple #[.slice x.1 x.2.1 x.2.2, .int .i64 res.2]) ∧ Ext W W2 [rowR x.1 x.2.2 33 2 x.2.1 (encL TSpan_cells res.1)] := by
  subst hn0_0
  unfold sample_Together at h
  refine calls_enter (m := 112) Try.func25 rfl rfl (Nat.le_of_ble_eq_true rfl) ?_
  refine cx_seq ?_
  refine cx_region ?_
  refine ox_box [.int .i64 p2.fLo, .int .i64 p2.fHi] rfl rfl rfl (fun b1 => ?_)
  refine ox_y rfl (y_assign_slice rfl) ?_
  refine ox_y rfl (y_assign_int rfl) ?_
  refine ox_nil ?_
  refine ex_then ?_
  refine cx_seq ?_
  refine cx_seq ?_
  refine cx_region ?_
  refine ox_y rfl (y_move_slice rfl) ?_
  refine ox_y rfl (y_len (us := []) us_31 rfl) ?_
  refine ox_y rfl (y_gtr rfl rfl) ?_
  refine ox_nil ?_
  refine ex_then ?_
  rcases ite_some h with ⟨hp2, h⟩ | ⟨hp2, h⟩
  · refine cx_true (congrArg Value.bool hp2) ?_
    refine cx_seq ?_
    refine cx_region ?_
    refine ox_y rfl (y_assign_slice rfl) ?_
    refine ox_y rfl (y_assign_int rfl) ?_
    refine ox_nil ?_
    refine ex_then ?_
    refine cx_ret ?_
    refine ex_then_ret ?_
    obtain rfl := Option.some.inj h
    exact ex_res2 (.inl rfl) rfl (resV_tmp (v := .slice none 0 0) rfl) (resV_tmp (v := .int .i64 2) rfl) (fun W2 hW2 => ⟨(none, 0, 0), rfl, rfl, ((hW2.nilrow 33 2).pick 1 rfl)⟩)
  · refine cx_false (congrArg Value.bool hp2) ?_
    refine cx_skip ?_
    refine ex_then ?_
    refine cx_seq ?_
    refine cx_seq ?_
    refine cx_region ?_
    refine ox_y rfl (y_move_slice rfl) ?_
    refine ox_y rfl (y_len (us := []) us_31 rfl) ?_
    refine ox_y rfl (y_move_int rfl) ?_
    refine ox_nil ?_
    refine ex_then ?_
    refine cx_block ?_
    obtain ⟨u5, hl12, h⟩ := bind_some h
    refine cx_nilrow 33 2 ?_
    refine cx_loop (fun (s : (Int × Int)) L tm => ∃ (tm0 : Nat → Value), L = [cellsR b1 33 [.int .i64 p2.fLo, .int .i64 p2.fHi], rowR none 0 33 2 0 (encL TSpan_cells ([] : List TSpan))] ∧ tm = (upd (upd (upd (upd (upd (upd (upd (upd (upd (upd tm0 0 (.slice A0_0 p0.length c0_0)) 1 (.int .i64 p1)) 2 (.agg #[.int .i64 p2.fLo, .int .i64 p2.fHi])) 5 (.pointer (some ⟨b1, 0, none⟩))) 6 (.slice none 0 0)) 7 (.int .i64 s.1)) 20 (.bool (decide (12 < ((p0.length : Nat) : Int))))) 21 (.slice A0_0 p0.length c0_0)) 22 (.int .i64 ((p0.length : Nat) : Int))) 23 (.int .i64 s.2))) (fun | (.inl s), e, L, tm => e = .ret ∧ ∃ (tm0 : Nat → Value), L = [cellsR b1 33 [.int .i64 p2.fLo, .int .i64 p2.fHi], rowR none 0 33 2 0 (encL TSpan_cells ([] : List TSpan))] ∧ tm = (upd (upd (upd (upd (upd (upd (upd (upd (upd (upd tm0 0 (.slice A0_0 p0.length c0_0)) 1 (.int .i64 p1)) 2 (.agg #[.int .i64 p2.fLo, .int .i64 p2.fHi])) 5 (.pointer (some ⟨b1, 0, none⟩))) 6 (.slice none 0 0)) 7 (.int .i64 s.1)) 20 (.bool (decide (12 < ((p0.length : Nat) : Int))))) 21 (.slice A0_0 p0.length c0_0)) 22 (.int .i64 ((p0.length : Nat) : Int))) 23 (.int .i64 s.2)) | (.inr s), e, L, tm => e = .exit 0 ∧ ∃ (tm0 : Nat → Value), L = [cellsR b1 33 [.int .i64 p2.fLo, .int .i64 p2.fHi], rowR none 0 33 2 0 (encL TSpan_cells ([] : List TSpan))] ∧ tm = (upd (upd (upd (upd (upd (upd (upd (upd (upd (upd tm0 0 (.slice A0_0 p0.length c0_0)) 1 (.int .i64 p1)) 2 (.agg #[.int .i64 p2.fLo, .int .i64 p2.fHi])) 5 (.pointer (some ⟨b1, 0, none⟩))) 6 (.slice none 0 0)) 7 (.int .i64 s.1)) 20 (.bool (decide (12 < ((p0.length : Nat) : Int))))) 21 (.slice A0_0 p0.length c0_0)) 22 (.int .i64 ((p0.length : Nat) : Int))) 23 (.int .i64 s.2))) hl12 ⟨_, rfl, (keep (keep (keep (keep (keep (keep (keep (keep (keep (keep rfl rfl) rfl) rfl) rfl) rfl) rfl) rfl) rfl) rfl) rfl)⟩ ?_ ?_
    · rintro s4 L tm st ⟨tm0_s4, rfl, rfl⟩ h
      unfold sample_Together_l1 at h
      refine cx_seq ?_
      refine cx_region ?_
      refine ox_y rfl (y_lss rfl rfl) ?_
      refine ox_nil ?_
      refine ex_then ?_
      refine cx_seq ?_
      rcases ite_some h with ⟨hp6, h⟩ | ⟨hp6, h⟩
      · refine cx_true (congrArg Value.bool hp6) ?_
        refine cx_skip ?_
        refine ex_then ?_
        refine cx_seq ?_
        refine cx_block ?_
        refine cx_seq ?_
        refine cx_region ?_
        obtain ⟨hg7, h⟩ := guardO_some h
        refine ox_y rfl (y_indexR sl_31 (by decide) hg7.1 hg7.2 (RdL.arg hr0_0) (encL_len TBatch_cells_len rfl) rfl rfl) ?_
        refine ox_y rfl (y_loadRN (A := A0_0) (j := (Int.toNat s4.2 * 10)) [.int .i64 ((rdL p0 s4.2).fBarrows), .int .i64 ((rdL p0 s4.2).fSeen.x0), .int .i64 ((rdL p0 s4.2).fSeen.x1), .int .i64 ((rdL p0 s4.2).fSeen.x2), .int .i64 ((rdL p0 s4.2).fKnown.x0.fLo), .int .i64 ((rdL p0 s4.2).fKnown.x0.fHi), .int .i64 ((rdL p0 s4.2).fKnown.x1.fLo), .int .i64 ((rdL p0 s4.2).fKnown.x1.fHi), .int .i64 ((rdL p0 s4.2).fKnown.x2.fLo), .int .i64 ((rdL p0 s4.2).fKnown.x2.fHi)] ag_52 (Nat.succ_pos _) (RdL.arg hr0_0) rfl (encL_gets TBatch_cells_len hg7.1 (lt_nat hg7.2 rfl))) ?_
        refine ox_alloc ze_52 rfl (fun b8 => ?_)
        refine ox_n rfl (y_storeN 2 [.int .i64 ((rdL p0 s4.2).fBarrows), .int .i64 ((rdL p0 s4.2).fSeen.x0), .int .i64 ((rdL p0 s4.2).fSeen.x1), .int .i64 ((rdL p0 s4.2).fSeen.x2), .int .i64 ((rdL p0 s4.2).fKnown.x0.fLo), .int .i64 ((rdL p0 s4.2).fKnown.x0.fHi), .int .i64 ((rdL p0 s4.2).fKnown.x1.fLo), .int .i64 ((rdL p0 s4.2).fKnown.x1.fHi), .int .i64 ((rdL p0 s4.2).fKnown.x2.fLo), .int .i64 ((rdL p0 s4.2).fKnown.x2.fHi)] sz_52 rfl (Nat.le_of_ble_eq_true rfl) rfl rfl rfl) ?_
        refine ox_nil ?_
        refine ex_then ?_
        refine cx_seq ?_
        refine cx_region ?_
        refine ox_y rfl (y_loadN 2 [.int .i64 ((rdL p0 s4.2).fBarrows), .int .i64 ((rdL p0 s4.2).fSeen.x0), .int .i64 ((rdL p0 s4.2).fSeen.x1), .int .i64 ((rdL p0 s4.2).fSeen.x2), .int .i64 ((rdL p0 s4.2).fKnown.x0.fLo), .int .i64 ((rdL p0 s4.2).fKnown.x0.fHi), .int .i64 ((rdL p0 s4.2).fKnown.x1.fLo), .int .i64 ((rdL p0 s4.2).fKnown.x1.fHi), .int .i64 ((rdL p0 s4.2).fKnown.x2.fLo), .int .i64 ((rdL p0 s4.2).fKnown.x2.fHi)] ag_52 rfl rfl rfl) ?_
        obtain ⟨y9, hy10, h⟩ := bind_some h
        refine ox_y rfl (y_call [.agg #[.int .i64 ((rdL p0 s4.2).fBarrows), .int .i64 ((rdL p0 s4.2).fSeen.x0), .int .i64 ((rdL p0 s4.2).fSeen.x1), .int .i64 ((rdL p0 s4.2).fSeen.x2), .int .i64 ((rdL p0 s4.2).fKnown.x0.fLo), .int .i64 ((rdL p0 s4.2).fKnown.x0.fHi), .int .i64 ((rdL p0 s4.2).fKnown.x1.fLo), .int .i64 ((rdL p0 s4.2).fKnown.x1.fHi), .int .i64 ((rdL p0 s4.2).fKnown.x2.fLo), .int .i64 ((rdL p0 s4.2).fKnown.x2.fHi)]] go_39 rfl (fun W2 hW2 => sample_Check_ok (TBatch.mk ((rdL p0 s4.2).fBarrows) (TKinds.mk ((rdL p0 s4.2).fSeen.x0) ((rdL p0 s4.2).fSeen.x1) ((rdL p0 s4.2).fSeen.x2)) (TArr3_TSpan.mk (TSpan.mk ((rdL p0 s4.2).fKnown.x0.fLo) ((rdL p0 s4.2).fKnown.x0.fHi)) (TSpan.mk ((rdL p0 s4.2).fKnown.x1.fLo) ((rdL p0 s4.2).fKnown.x1.fHi)) (TSpan.mk ((rdL p0 s4.2).fKnown.x2.fLo) ((rdL p0 s4.2).fKnown.x2.fHi)))) y9 hy10 W2 ) rfl) ?_
        refine ox_y rfl (y_assign_int rfl) ?_
        refine ox_nil ?_
        refine ex_then ?_
        refine cx_seq ?_
        refine cx_region ?_
        refine ox_y rfl (y_move_int rfl) ?_
        refine ox_y rfl (y_neq rfl rfl) ?_
        refine ox_nil ?_
        refine ex_then ?_
        rcases ite_some h with ⟨hp11, h⟩ | ⟨hp11, h⟩
        · refine cx_true (congrArg Value.bool hp11) ?_
          refine cx_seq ?_
          refine cx_region ?_
          refine ox_y rfl (y_move_int rfl) ?_
          refine ox_y rfl (y_assign_slice rfl) ?_
          refine ox_y rfl (y_assign_int rfl) ?_
          refine ox_nil ?_
          refine ex_then ?_
          refine cx_ret ?_
          refine ex_block_ret ?_
          refine ex_then_ret ?_
          refine ex_take 2 ?_
          obtain rfl := Option.some.inj h
          exact ex_stop ⟨rfl, _, rfl, (keep (keep (keep (keep (keep (keep (keep (keep (keep (keep rfl rfl) rfl) rfl) rfl) rfl) rfl) rfl) rfl) rfl) rfl)⟩
        · refine cx_false (congrArg Value.bool hp11) ?_
          refine cx_skip ?_
          refine ex_block ?_
          refine ex_then ?_
          refine cx_region ?_
          refine ox_y rfl (y_add rfl rfl) ?_
          refine ox_y rfl (y_move_int rfl) ?_
          refine ox_nil ?_
          refine ex_take 2 ?_
          obtain rfl := Option.some.inj h
          exact ex_next ⟨_, rfl, (keep (keep (keep (keep (keep (keep (keep (keep (keep (keep rfl rfl) rfl) rfl) rfl) rfl) rfl) rfl) rfl) rfl) rfl)⟩
      · refine cx_false (congrArg Value.bool hp6) ?_
        refine cx_exit ?_
        refine ex_then_exit ?_
        obtain rfl := Option.some.inj h
        exact ex_stop ⟨rfl, _, rfl, (keep (keep (keep (keep (keep (keep (keep (keep (keep (keep rfl rfl) rfl) rfl) rfl) rfl) rfl) rfl) rfl) rfl) rfl)⟩
    · intro e L tm hJ
      rcases u5 with u13 | u14
      · dsimp only at h hJ
        obtain ⟨rfl, tm0_u13, rfl, rfl⟩ := hJ
        refine ⟨(by intro hc; cases hc), ?_⟩
        refine ex_block_ret ?_
        refine ex_then_ret ?_
        obtain rfl := Option.some.inj h
        exact ex_res2 (.inl rfl) rfl (resV_tmp (v := .slice none 0 0) rfl) (resV_tmp (v := .int .i64 u13.1) rfl) (fun W2 hW2 => ⟨(none, 0, 0), rfl, rfl, (hW2.pick 1 rfl)⟩)
      · dsimp only at h hJ
        obtain ⟨rfl, tm0_u14, rfl, rfl⟩ := hJ
        refine ⟨(by intro hc; cases hc), ?_⟩
        refine ex_block_here ?_
        refine ex_then ?_
        refine cx_seq ?_
        refine cx_seq ?_
        refine cx_region ?_
        refine ox_y rfl (y_move_int rfl) ?_
        obtain ⟨y15, hy16, h⟩ := bind_some h
        refine ox_y rfl (y_call [.int .i64 p1] go_83 rfl (fun W2 hW2 => sample_isSort_ok p1 y15 hy16 W2 ) rfl) ?_
        refine ox_y rfl (y_not rfl) ?_
        refine ox_y rfl (y_move_bool rfl) ?_
        refine ox_join 6 (fun tm0 => (upd (upd (upd (upd (upd (upd (upd (upd (upd (upd (upd tm0 0 (.slice A0_0 p0.length c0_0)) 1 (.int .i64 p1)) 2 (.agg #[.int .i64 p2.fLo, .int .i64 p2.fHi])) 5 (.pointer (some ⟨b1, 0, none⟩))) 6 (.slice none 0 0)) 7 (.int .i64 u14.1)) 20 (.bool (decide (12 < ((p0.length : Nat) : Int))))) 21 (.slice A0_0 p0.length c0_0)) 22 (.int .i64 ((p0.length : Nat) : Int))) 23 (.int .i64 u14.2)) 42 (.bool ((!y15) || (decide (p2.fHi < p2.fLo)))))) (fun tm0 => ?_) (fun key => ?_)
        · refine ox_nil ?_
          refine ex_then ?_
          rcases ite_some h with ⟨hp18, h⟩ | ⟨hp18, h⟩
          · refine cx_true (congrArg Value.bool hp18) ?_
            refine cx_seq ?_
            refine cx_region ?_
            refine ox_y rfl (y_assign_slice rfl) ?_
            refine ox_y rfl (y_assign_int rfl) ?_
            refine ox_nil ?_
            refine ex_then ?_
            refine cx_ret ?_
            refine ex_then_ret ?_
            obtain rfl := Option.some.inj h
            exact ex_res2 (.inl rfl) rfl (resV_tmp (v := .slice none 0 0) rfl) (resV_tmp (v := .int .i64 1) rfl) (fun W2 hW2 => ⟨(none, 0, 0), rfl, rfl, ((hW2.nilrow 33 2).pick 2 rfl)⟩)
          · refine cx_false (congrArg Value.bool hp18) ?_
            refine cx_skip ?_
            refine ex_then ?_
            refine cx_seq ?_
            refine cx_region ?_
            refine ox_y rfl (y_assign_slice rfl) ?_
            refine ox_nil ?_
            refine ex_then ?_
            refine cx_seq ?_
            refine cx_seq ?_
            refine cx_region ?_
            refine ox_y rfl (y_move_slice rfl) ?_
            refine ox_y rfl (y_len (us := []) us_31 rfl) ?_
            refine ox_y rfl (y_move_int rfl) ?_
            refine ox_nil ?_
            refine ex_then ?_
            refine cx_block ?_
            obtain ⟨u22, hl32, h⟩ := bind_some h
            refine cx_nilrow 33 2 ?_
            refine cx_loop (fun (s : (Int × (List TSpan))) L tm => ∃ (tm0 : Nat → Value) (A2_s : Option Addr) (c2_s : Nat) (n2_s : Nat), n2_s = s.2.length ∧ L = [cellsR b1 33 [.int .i64 p2.fLo, .int .i64 p2.fHi], rowR none 0 33 2 0 (encL TSpan_cells ([] : List TSpan)), rowR A2_s c2_s 33 2 n2_s (encL TSpan_cells s.2)] ∧ tm = (upd (upd (upd (upd (upd (upd (upd (upd (upd (upd (upd (upd (upd (upd (upd tm0 0 (.slice A0_0 p0.length c0_0)) 1 (.int .i64 p1)) 2 (.agg #[.int .i64 p2.fLo, .int .i64 p2.fHi])) 5 (.pointer (some ⟨b1, 0, none⟩))) 6 (.slice none 0 0)) 7 (.int .i64 u14.1)) 20 (.bool (decide (12 < ((p0.length : Nat) : Int))))) 21 (.slice A0_0 p0.length c0_0)) 22 (.int .i64 ((p0.length : Nat) : Int))) 23 (.int .i64 u14.2)) 42 (.bool ((!y15) || (decide (p2.fHi < p2.fLo))))) 11 (.slice A2_s n2_s c2_s)) 43 (.slice A0_0 p0.length c0_0)) 44 (.int .i64 ((p0.length : Nat) : Int))) 45 (.int .i64 s.1))) (fun s e L tm => e = .exit 2 ∧ ∃ (tm0 : Nat → Value) (A2_s : Option Addr) (c2_s : Nat) (n2_s : Nat), n2_s = s.2.length ∧ L = [cellsR b1 33 [.int .i64 p2.fLo, .int .i64 p2.fHi], rowR none 0 33 2 0 (encL TSpan_cells ([] : List TSpan)), rowR A2_s c2_s 33 2 n2_s (encL TSpan_cells s.2)] ∧ tm = (upd (upd (upd (upd (upd (upd (upd (upd (upd (upd (upd (upd (upd (upd (upd tm0 0 (.slice A0_0 p0.length c0_0)) 1 (.int .i64 p1)) 2 (.agg #[.int .i64 p2.fLo, .int .i64 p2.fHi])) 5 (.pointer (some ⟨b1, 0, none⟩))) 6 (.slice none 0 0)) 7 (.int .i64 u14.1)) 20 (.bool (decide (12 < ((p0.length : Nat) : Int))))) 21 (.slice A0_0 p0.length c0_0)) 22 (.int .i64 ((p0.length : Nat) : Int))) 23 (.int .i64 u14.2)) 42 (.bool ((!y15) || (decide (p2.fHi < p2.fLo))))) 11 (.slice A2_s n2_s c2_s)) 43 (.slice A0_0 p0.length c0_0)) 44 (.int .i64 ((p0.length : Nat) : Int))) 45 (.int .i64 s.1))) hl32 ⟨_, none, 0, 0, rfl, rfl, (keep (keep (keep (keep (keep (keep (keep (keep (keep (keep (keep (keep (keep (keep (keep rfl rfl) rfl) rfl) rfl) rfl) rfl) rfl) rfl) rfl) rfl) rfl) rfl) rfl) rfl) rfl)⟩ ?_ ?_
            · rintro s21 L tm st ⟨tm0_s21, A2_s21, c2_s21, n2_s21, rfl, rfl, rfl⟩ h
              unfold sample_Together_l2 at h
              refine cx_seq ?_
              refine cx_region ?_
              refine ox_y rfl (y_lss rfl rfl) ?_
              refine ox_nil ?_
              refine ex_then ?_
              refine cx_seq ?_
              rcases ite_some h with ⟨hp23, h⟩ | ⟨hp23, h⟩
              · refine cx_true (congrArg Value.bool hp23) ?_
                refine cx_skip ?_
                refine ex_then ?_
                refine cx_seq ?_
                refine cx_block ?_
                refine cx_seq ?_
                refine cx_region ?_
                obtain ⟨hg24, h⟩ := guardO_some h
                refine ox_y rfl (y_indexR sl_31 (by decide) hg24.1 hg24.2 (RdL.arg hr0_0) (encL_len TBatch_cells_len rfl) rfl rfl) ?_
                refine ox_y rfl (y_loadRN (A := A0_0) (j := (Int.toNat s21.1 * 10)) [.int .i64 ((rdL p0 s21.1).fBarrows), .int .i64 ((rdL p0 s21.1).fSeen.x0), .int .i64 ((rdL p0 s21.1).fSeen.x1), .int .i64 ((rdL p0 s21.1).fSeen.x2), .int .i64 ((rdL p0 s21.1).fKnown.x0.fLo), .int .i64 ((rdL p0 s21.1).fKnown.x0.fHi), .int .i64 ((rdL p0 s21.1).fKnown.x1.fLo), .int .i64 ((rdL p0 s21.1).fKnown.x1.fHi), .int .i64 ((rdL p0 s21.1).fKnown.x2.fLo), .int .i64 ((rdL p0 s21.1).fKnown.x2.fHi)] ag_52 (Nat.succ_pos _) (RdL.arg hr0_0) rfl (encL_gets TBatch_cells_len hg24.1 (lt_nat hg24.2 rfl))) ?_
                refine ox_alloc ze_52 rfl (fun b25 => ?_)
                refine ox_n rfl (y_storeN 3 [.int .i64 ((rdL p0 s21.1).fBarrows), .int .i64 ((rdL p0 s21.1).fSeen.x0), .int .i64 ((rdL p0 s21.1).fSeen.x1), .int .i64 ((rdL p0 s21.1).fSeen.x2), .int .i64 ((rdL p0 s21.1).fKnown.x0.fLo), .int .i64 ((rdL p0 s21.1).fKnown.x0.fHi), .int .i64 ((rdL p0 s21.1).fKnown.x1.fLo), .int .i64 ((rdL p0 s21.1).fKnown.x1.fHi), .int .i64 ((rdL p0 s21.1).fKnown.x2.fLo), .int .i64 ((rdL p0 s21.1).fKnown.x2.fHi)] sz_52 rfl (Nat.le_of_ble_eq_true rfl) rfl rfl rfl) ?_
                refine ox_nil ?_
                refine ex_then ?_
                refine cx_region ?_
                refine ox_y rfl (y_move_slice rfl) ?_
                refine ox_y rfl (y_loadN 3 [.int .i64 ((rdL p0 s21.1).fBarrows), .int .i64 ((rdL p0 s21.1).fSeen.x0), .int .i64 ((rdL p0 s21.1).fSeen.x1), .int .i64 ((rdL p0 s21.1).fSeen.x2), .int .i64 ((rdL p0 s21.1).fKnown.x0.fLo), .int .i64 ((rdL p0 s21.1).fKnown.x0.fHi), .int .i64 ((rdL p0 s21.1).fKnown.x1.fLo), .int .i64 ((rdL p0 s21.1).fKnown.x1.fHi), .int .i64 ((rdL p0 s21.1).fKnown.x2.fLo), .int .i64 ((rdL p0 s21.1).fKnown.x2.fHi)] ag_52 rfl rfl rfl) ?_
                refine ox_y rfl (y_move_int rfl) ?_
                obtain ⟨y26, hy27, h⟩ := bind_some h
                refine ox_y rfl (y_call [.agg #[.int .i64 ((rdL p0 s21.1).fBarrows), .int .i64 ((rdL p0 s21.1).fSeen.x0), .int .i64 ((rdL p0 s21.1).fSeen.x1), .int .i64 ((rdL p0 s21.1).fSeen.x2), .int .i64 ((rdL p0 s21.1).fKnown.x0.fLo), .int .i64 ((rdL p0 s21.1).fKnown.x0.fHi), .int .i64 ((rdL p0 s21.1).fKnown.x1.fLo), .int .i64 ((rdL p0 s21.1).fKnown.x1.fHi), .int .i64 ((rdL p0 s21.1).fKnown.x2.fLo), .int .i64 ((rdL p0 s21.1).fKnown.x2.fHi)], .int .i64 p1] go_84 rfl (fun W2 hW2 => sample_ends_ok (TBatch.mk ((rdL p0 s21.1).fBarrows) (TKinds.mk ((rdL p0 s21.1).fSeen.x0) ((rdL p0 s21.1).fSeen.x1) ((rdL p0 s21.1).fSeen.x2)) (TArr3_TSpan.mk (TSpan.mk ((rdL p0 s21.1).fKnown.x0.fLo) ((rdL p0 s21.1).fKnown.x0.fHi)) (TSpan.mk ((rdL p0 s21.1).fKnown.x1.fLo) ((rdL p0 s21.1).fKnown.x1.fHi)) (TSpan.mk ((rdL p0 s21.1).fKnown.x2.fLo) ((rdL p0 s21.1).fKnown.x2.fHi)))) p1 y26 hy27 W2 ) rfl) ?_
                refine ox_buildSliceE 1 (encL TSpan_cells [y26]) _ mc_33_1 us_34 ze_33 by_33 (by decide) (by decide) (by kernel_rfl) (encL_len TSpan_cells_len rfl) rfl (fun b28 => ?_)
                obtain ⟨hg31, h⟩ := guardO_some h
                refine ox_appendE 2 us_34 ze_33 by_33 rfl rfl rfl (Nat.lt_of_lt_of_le (Nat.lt_succ_self 0) (Nat.le_of_ble_eq_true rfl)) (RdL.row 4 rfl) (encL_len TSpan_cells_len rfl) (encL_one TSpan_cells_one _) (app_room hg31 (by decide)) rfl (fun A29 c30 => ?_)
                refine ox_y rfl (y_assign_slice rfl) ?_
                refine ox_nil ?_
                refine ex_block ?_
                refine ex_then ?_
                refine cx_region ?_
                refine ox_y rfl (y_add rfl rfl) ?_
                refine ox_y rfl (y_move_int rfl) ?_
                refine ox_nil ?_
                refine ex_take 3 ?_
                obtain rfl := Option.some.inj h
                exact ex_next ⟨_, A29, c30, (s21.2.length + 1), (hn_app rfl rfl), rfl, (keep (keep (keep (keep (keep (keep (keep (keep (keep (keep (keep (keep (keep (keep (keep rfl rfl) rfl) rfl) rfl) rfl) rfl) rfl) rfl) rfl) rfl) rfl) rfl) rfl) rfl) rfl)⟩
              · refine cx_false (congrArg Value.bool hp23) ?_
                refine cx_exit ?_
                refine ex_then_exit ?_
                obtain rfl := Option.some.inj h
                exact ex_stop ⟨rfl, _, A2_s21, c2_s21, s21.2.length, rfl, rfl, (keep (keep (keep (keep (keep (keep (keep (keep (keep (keep (keep (keep (keep (keep (keep rfl rfl) rfl) rfl) rfl) rfl) rfl) rfl) rfl) rfl) rfl) rfl) rfl) rfl) rfl) rfl)⟩
            · intro e L tm hJ
              obtain ⟨rfl, tm0_u22, A2_u22, c2_u22, n2_u22, rfl, rfl, rfl⟩ := hJ
              refine ⟨(by intro hc; cases hc), ?_⟩
              refine ex_block_here ?_
              refine ex_then ?_
              refine cx_seq ?_
              refine cx_region ?_
              refine ox_y rfl (y_move_slice rfl) ?_
              obtain ⟨y34, hy35, h⟩ := bind_some h
              refine ox_y rfl (y_call [.slice A2_u22 u22.2.length c2_u22, .func (.func 86) #[] #[]] go_85 rfl (fun W2 hW2 => sample_sum_calx_api_Span_ok u22.2 (fun x33 => sample_Together_1 x33) y34 hy35 W2 A2_u22 u22.2.length c2_u22 rfl ((RdL.row 2 rfl) W2 hW2) 86 [] go_86 (fun W3 hb x y hxy => sample_Together_1_ok x  y hxy W3 )) rfl) ?_
              refine ox_y rfl (y_assign_int rfl) ?_
              refine ox_nil ?_
              refine ex_then ?_
              refine cx_seq ?_
              refine cx_region ?_
              refine ox_y rfl (y_move_slice rfl) ?_
              obtain ⟨y37, hy38, h⟩ := bind_some h
              refine ox_y rfl (y_call [.slice A2_u22 u22.2.length c2_u22, .func (.func 87) #[] #[]] go_85 rfl (fun W2 hW2 => sample_sum_calx_api_Span_ok u22.2 (fun x36 => sample_Together_2 x36) y37 hy38 W2 A2_u22 u22.2.length c2_u22 rfl ((RdL.row 2 rfl) W2 hW2) 87 [] go_87 (fun W3 hb x y hxy => sample_Together_2_ok x  y hxy W3 )) rfl) ?_
              refine ox_y rfl (y_assign_int rfl) ?_
              refine ox_nil ?_
              refine ex_then ?_
              refine cx_seq ?_
              refine cx_seq ?_
              refine cx_region ?_
              refine ox_y rfl (y_fieldAddr fo_33_1 rfl) ?_
              refine ox_y rfl (y_load1 0 (v := .int .i64 p2.fHi) sc_3 rfl rfl rfl) ?_
              refine ox_y rfl (y_move_int rfl) ?_
              refine ox_y rfl (y_lss rfl rfl) ?_
              refine ox_y rfl (y_move_bool rfl) ?_
              refine ox_join 5 (fun tm0 => (upd (upd (upd (upd (upd (upd (upd (upd (upd (upd (upd (upd (upd (upd (upd (upd (upd (upd tm0 0 (.slice A0_0 p0.length c0_0)) 1 (.int .i64 p1)) 2 (.agg #[.int .i64 p2.fLo, .int .i64 p2.fHi])) 5 (.pointer (some ⟨b1, 0, none⟩))) 6 (.slice none 0 0)) 7 (.int .i64 u14.1)) 20 (.bool (decide (12 < ((p0.length : Nat) : Int))))) 21 (.slice A0_0 p0.length c0_0)) 22 (.int .i64 ((p0.length : Nat) : Int))) 23 (.int .i64 u14.2)) 42 (.bool ((!y15) || (decide (p2.fHi < p2.fLo))))) 11 (.slice A2_u22 u22.2.length c2_u22)) 43 (.slice A0_0 p0.length c0_0)) 44 (.int .i64 ((p0.length : Nat) : Int))) 45 (.int .i64 u22.1)) 14 (.int .i64 y34)) 15 (.int .i64 y37)) 69 (.bool ((decide (p2.fHi < y34)) || (decide (y37 < p2.fLo)))))) (fun tm0 => ?_) (fun key => ?_)
              · refine ox_nil ?_
                refine ex_then ?_
                rcases ite_some h with ⟨hp40, h⟩ | ⟨hp40, h⟩
                · refine cx_true (congrArg Value.bool hp40) ?_
                  refine cx_seq ?_
                  refine cx_region ?_
                  refine ox_y rfl (y_assign_slice rfl) ?_
                  refine ox_y rfl (y_assign_int rfl) ?_
                  refine ox_nil ?_
                  refine ex_then ?_
                  refine cx_ret ?_
                  refine ex_then_ret ?_
                  obtain rfl := Option.some.inj h
                  exact ex_res2 (.inl rfl) rfl (resV_tmp (v := .slice none 0 0) rfl) (resV_tmp (v := .int .i64 9) rfl) (fun W2 hW2 => ⟨(none, 0, 0), rfl, rfl, ((hW2.nilrow 33 2).pick 3 rfl)⟩)
                · refine cx_false (congrArg Value.bool hp40) ?_
                  refine cx_skip ?_
                  refine ex_then ?_
                  refine cx_seq ?_
                  refine cx_region ?_
                  refine ox_y rfl (y_fieldAddr fo_33_0 rfl) ?_
                  refine ox_y rfl (y_load1 0 (v := .int .i64 p2.fLo) sc_3 rfl rfl rfl) ?_
                  refine ox_y rfl (y_move_int rfl) ?_
                  refine ox_y rfl (y_max rfl rfl) ?_
                  refine ox_y rfl (y_fieldAddr fo_33_1 rfl) ?_
                  refine ox_y rfl (y_load1 0 (v := .int .i64 p2.fHi) sc_3 rfl rfl rfl) ?_
                  refine ox_y rfl (y_move_int rfl) ?_
                  refine ox_y rfl (y_min rfl rfl) ?_
                  refine ox_y rfl (y_buildS [.int .i64 (max p2.fLo y34), .int .i64 (min p2.fHi y37)] [(0, 1), (1, 1)] ust_33 ze_33 (by kernel_rfl)) ?_
                  refine ox_n rfl (y_storeN 0 [.int .i64 (max p2.fLo y34), .int .i64 (min p2.fHi y37)] sz_33 rfl (Nat.le_of_ble_eq_true rfl) rfl rfl rfl) ?_
                  refine ox_nil ?_
                  refine ex_then ?_
                  refine cx_seq ?_
                  refine cx_seq ?_
                  refine cx_region ?_
                  refine ox_y rfl (y_move_slice rfl) ?_
                  refine ox_y rfl (y_len (us := []) us_34 rfl) ?_
                  refine ox_y rfl (y_move_int rfl) ?_
                  refine ox_nil ?_
                  refine ex_then ?_
                  refine cx_block ?_
                  obtain ⟨u44, hl49, h⟩ := bind_some h
                  refine cx_loop (fun (s : (Int × (List TSpan))) L tm => ∃ (tm0 : Nat → Value), u22.2.length = s.2.length ∧ L = [cellsR b1 33 [.int .i64 (max p2.fLo y34), .int .i64 (min p2.fHi y37)], rowR none 0 33 2 0 (encL TSpan_cells ([] : List TSpan)), rowR A2_u22 c2_u22 33 2 u22.2.length (encL TSpan_cells s.2)] ∧ tm = (upd (upd (upd (upd (upd (upd (upd (upd (upd (upd (upd (upd (upd (upd (upd (upd (upd (upd (upd (upd (upd tm0 0 (.slice A0_0 p0.length c0_0)) 1 (.int .i64 p1)) 2 (.agg #[.int .i64 p2.fLo, .int .i64 p2.fHi])) 5 (.pointer (some ⟨b1, 0, none⟩))) 6 (.slice none 0 0)) 7 (.int .i64 u14.1)) 20 (.bool (decide (12 < ((p0.length : Nat) : Int))))) 21 (.slice A0_0 p0.length c0_0)) 22 (.int .i64 ((p0.length : Nat) : Int))) 23 (.int .i64 u14.2)) 42 (.bool ((!y15) || (decide (p2.fHi < p2.fLo))))) 11 (.slice A2_u22 u22.2.length c2_u22)) 43 (.slice A0_0 p0.length c0_0)) 44 (.int .i64 ((p0.length : Nat) : Int))) 45 (.int .i64 u22.1)) 14 (.int .i64 y34)) 15 (.int .i64 y37)) 69 (.bool ((decide (p2.fHi < y34)) || (decide (y37 < p2.fLo))))) 79 (.slice A2_u22 u22.2.length c2_u22)) 80 (.int .i64 ((u22.2.length : Nat) : Int))) 81 (.int .i64 s.1))) (fun s e L tm => e = .exit 4 ∧ ∃ (tm0 : Nat → Value), u22.2.length = s.2.length ∧ L = [cellsR b1 33 [.int .i64 (max p2.fLo y34), .int .i64 (min p2.fHi y37)], rowR none 0 33 2 0 (encL TSpan_cells ([] : List TSpan)), rowR A2_u22 c2_u22 33 2 u22.2.length (encL TSpan_cells s.2)] ∧ tm = (upd (upd (upd (upd (upd (upd (upd (upd (upd (upd (upd (upd (upd (upd (upd (upd (upd (upd (upd (upd (upd tm0 0 (.slice A0_0 p0.length c0_0)) 1 (.int .i64 p1)) 2 (.agg #[.int .i64 p2.fLo, .int .i64 p2.fHi])) 5 (.pointer (some ⟨b1, 0, none⟩))) 6 (.slice none 0 0)) 7 (.int .i64 u14.1)) 20 (.bool (decide (12 < ((p0.length : Nat) : Int))))) 21 (.slice A0_0 p0.length c0_0)) 22 (.int .i64 ((p0.length : Nat) : Int))) 23 (.int .i64 u14.2)) 42 (.bool ((!y15) || (decide (p2.fHi < p2.fLo))))) 11 (.slice A2_u22 u22.2.length c2_u22)) 43 (.slice A0_0 p0.length c0_0)) 44 (.int .i64 ((p0.length : Nat) : Int))) 45 (.int .i64 u22.1)) 14 (.int .i64 y34)) 15 (.int .i64 y37)) 69 (.bool ((decide (p2.fHi < y34)) || (decide (y37 < p2.fLo))))) 79 (.slice A2_u22 u22.2.length c2_u22)) 80 (.int .i64 ((u22.2.length : Nat) : Int))) 81 (.int .i64 s.1))) hl49 ⟨_, rfl, rfl, (keep (keep (keep (keep (keep (keep (keep (keep (keep (keep (keep (keep (keep (keep (keep (keep (keep (keep (keep (keep (keep rfl rfl) rfl) rfl) rfl) rfl) rfl) rfl) rfl) rfl) rfl) rfl) rfl) rfl) rfl) rfl) rfl) rfl) rfl) rfl) rfl) rfl)⟩ ?_ ?_
                  · rintro s43 L tm st ⟨tm0_s43, hn2_s43, rfl, rfl⟩ h
                    unfold sample_Together_l3 at h
                    refine cx_seq ?_
                    refine cx_region ?_
                    refine ox_y rfl (y_lss rfl rfl) ?_
                    refine ox_nil ?_
                    refine ex_then ?_
                    refine cx_seq ?_
                    rcases ite_some h with ⟨hp45, h⟩ | ⟨hp45, h⟩
                    · refine cx_true (congrArg Value.bool hp45) ?_
                      refine cx_skip ?_
                      refine ex_then ?_
                      refine cx_seq ?_
                      refine cx_block ?_
                      refine cx_seq ?_
                      refine cx_region ?_
                      refine ox_y rfl (y_move_int rfl) ?_
                      obtain ⟨hg46, h⟩ := guardO_some h
                      refine ox_y rfl (y_indexR sl_34 (by decide) hg46.1 hg46.2 (RdL.row 2 rfl) (encL_len TSpan_cells_len hn2_s43) rfl rfl) ?_
                      refine ox_y rfl (y_loadRN (A := A2_u22) (j := (Int.toNat s43.1 * 2)) [.int .i64 ((rdL s43.2 s43.1).fLo), .int .i64 ((rdL s43.2 s43.1).fHi)] ag_33 (Nat.succ_pos _) (RdL.row 2 rfl) rfl (encL_gets TSpan_cells_len hg46.1 (lt_nat hg46.2 hn2_s43))) ?_
                      refine ox_alloc ze_33 rfl (fun b47 => ?_)
                      refine ox_y rfl (y_assign_int rfl) ?_
                      refine ox_n rfl (y_storeN 3 [.int .i64 ((rdL s43.2 s43.1).fLo), .int .i64 ((rdL s43.2 s43.1).fHi)] sz_33 rfl (Nat.le_of_ble_eq_true rfl) rfl rfl rfl) ?_
                      refine ox_nil ?_
                      refine ex_then ?_
                      refine cx_region ?_
                      refine ox_y rfl (y_move_slice rfl) ?_
                      refine ox_y rfl (y_move_int rfl) ?_
                      refine ox_y rfl (y_fieldAddr fo_33_0 rfl) ?_
                      refine ox_y rfl (y_load1 3 (v := .int .i64 ((rdL s43.2 s43.1).fLo)) sc_3 rfl rfl rfl) ?_
                      refine ox_y rfl (y_fieldAddr fo_33_0 rfl) ?_
                      refine ox_y rfl (y_load1 0 (v := .int .i64 (max p2.fLo y34)) sc_3 rfl rfl rfl) ?_
                      refine ox_y rfl (y_move_int rfl) ?_
                      refine ox_y rfl (y_fieldAddr fo_33_1 rfl) ?_
                      refine ox_y rfl (y_load1 3 (v := .int .i64 ((rdL s43.2 s43.1).fHi)) sc_3 rfl rfl rfl) ?_
                      refine ox_y rfl (y_sub rfl rfl) ?_
                      refine ox_y rfl (y_sub rfl rfl) ?_
                      refine ox_y rfl (y_max rfl rfl) ?_
                      refine ox_y rfl (y_fieldAddr fo_33_1 rfl) ?_
                      refine ox_y rfl (y_load1 3 (v := .int .i64 ((rdL s43.2 s43.1).fHi)) sc_3 rfl rfl rfl) ?_
                      refine ox_y rfl (y_fieldAddr fo_33_1 rfl) ?_
                      refine ox_y rfl (y_load1 0 (v := .int .i64 (min p2.fHi y37)) sc_3 rfl rfl rfl) ?_
                      refine ox_y rfl (y_move_int rfl) ?_
                      refine ox_y rfl (y_fieldAddr fo_33_0 rfl) ?_
                      refine ox_y rfl (y_load1 3 (v := .int .i64 ((rdL s43.2 s43.1).fLo)) sc_3 rfl rfl rfl) ?_
                      refine ox_y rfl (y_sub rfl rfl) ?_
                      refine ox_y rfl (y_sub rfl rfl) ?_
                      refine ox_y rfl (y_min rfl rfl) ?_
                      refine ox_y rfl (y_buildS [.int .i64 (max ((rdL s43.2 s43.1).fLo) (w64 ((max p2.fLo y34) - (w64 (y37 - ((rdL s43.2 s43.1).fHi)))))), .int .i64 (min ((rdL s43.2 s43.1).fHi) (w64 ((min p2.fHi y37) - (w64 (y34 - ((rdL s43.2 s43.1).fLo))))))] [(0, 1), (1, 1)] ust_33 ze_33 (by kernel_rfl)) ?_
                      obtain ⟨hg48, h⟩ := guardO_some h
                      refine ox_y rfl (y_indexR sl_34 (by decide) hg48.1 hg48.2 (RdL.row 2 rfl) (encL_len TSpan_cells_len hn2_s43) rfl rfl) ?_
                      refine ox_n rfl (y_storeRN 2 (xs := s43.2) [.int .i64 (max ((rdL s43.2 s43.1).fLo) (w64 ((max p2.fLo y34) - (w64 (y37 - ((rdL s43.2 s43.1).fHi)))))), .int .i64 (min ((rdL s43.2 s43.1).fHi) (w64 ((min p2.fHi y37) - (w64 (y34 - ((rdL s43.2 s43.1).fLo))))))] TSpan_cells_len (Nat.succ_pos _) (TSpan.mk (max ((rdL s43.2 s43.1).fLo) (w64 ((max p2.fLo y34) - (w64 (y37 - ((rdL s43.2 s43.1).fHi)))))) (min ((rdL s43.2 s43.1).fHi) (w64 ((min p2.fHi y37) - (w64 (y34 - ((rdL s43.2 s43.1).fLo))))))) sz_33 rfl hg48.1 (lt_nat hg48.2 hn2_s43) rfl rfl rfl rfl) ?_
                      refine ox_nil ?_
                      refine ex_block ?_
                      refine ex_then ?_
                      refine cx_region ?_
                      refine ox_y rfl (y_add rfl rfl) ?_
                      refine ox_y rfl (y_move_int rfl) ?_
                      refine ox_nil ?_
                      refine ex_take 3 ?_
                      obtain rfl := Option.some.inj h
                      exact ex_next ⟨_, (hn_set hn2_s43), rfl, (keep (keep (keep (keep (keep (keep (keep (keep (keep (keep (keep (keep (keep (keep (keep (keep (keep (keep (keep (keep (keep rfl rfl) rfl) rfl) rfl) rfl) rfl) rfl) rfl) rfl) rfl) rfl) rfl) rfl) rfl) rfl) rfl) rfl) rfl) rfl) rfl) rfl)⟩
                    · refine cx_false (congrArg Value.bool hp45) ?_
                      refine cx_exit ?_
                      refine ex_then_exit ?_
                      obtain rfl := Option.some.inj h
                      exact ex_stop ⟨rfl, _, hn2_s43, rfl, (keep (keep (keep (keep (keep (keep (keep (keep (keep (keep (keep (keep (keep (keep (keep (keep (keep (keep (keep (keep (keep rfl rfl) rfl) rfl) rfl) rfl) rfl) rfl) rfl) rfl) rfl) rfl) rfl) rfl) rfl) rfl) rfl) rfl) rfl) rfl) rfl) rfl)⟩
                  · intro e L tm hJ
                    obtain ⟨rfl, tm0_u44, hn2_u44, rfl, rfl⟩ := hJ
                    refine ⟨(by intro hc; cases hc), ?_⟩
                    refine ex_block_here ?_
                    refine ex_then ?_
                    refine cx_seq ?_
                    refine cx_region ?_
                    refine ox_y rfl (y_move_slice rfl) ?_
                    refine ox_y rfl (y_assign_slice rfl) ?_
                    refine ox_y rfl (y_assign_int rfl) ?_
                    refine ox_nil ?_
                    refine ex_then ?_
                    refine cx_ret ?_
                    obtain rfl := Option.some.inj h
                    exact ex_res2 (.inl rfl) rfl (resV_tmp (v := .slice A2_u22 u22.2.length c2_u22) rfl) (resV_tmp (v := .int .i64 0) rfl) (fun W2 hW2 => ⟨(A2_u22, u22.2.length, c2_u22), hn2_u44, rfl, (hW2.pick 2 rfl)⟩)
              · rcases bool_cases (decide (p2.fHi < y34)) with hp39 | hp39
                · refine ox_skip (sees_f rfl rfl rfl rfl hp39) ?_
                  refine ox_skip (sees_f rfl rfl rfl rfl hp39) ?_
                  refine ox_skip (sees_f rfl rfl rfl rfl hp39) ?_
                  refine ox_skip (sees_f rfl rfl rfl rfl hp39) ?_
                  refine ox_y rfl (y_pick_tb (congrArg Value.bool hp39) rfl) ?_
                  exact key _ _ (keep (keep (keep (keep (keep (keep (keep (keep (keep (keep (keep (keep (keep (keep (keep (keep (keep (keep rfl rfl) rfl) rfl) rfl) rfl) rfl) rfl) rfl) rfl) rfl) rfl) rfl) rfl) rfl) rfl) rfl) rfl) (congrArg Value.bool (or_t hp39)))
                · refine ox_y (sees_t rfl rfl rfl rfl hp39) (y_fieldAddr fo_33_0 rfl) ?_
                  refine ox_y (sees_t rfl rfl rfl rfl hp39) (y_load1 0 (v := .int .i64 p2.fLo) sc_3 rfl rfl rfl) ?_
                  refine ox_y (sees_t rfl rfl rfl rfl hp39) (y_move_int rfl) ?_
                  refine ox_y (sees_t rfl rfl rfl rfl hp39) (y_gtr rfl rfl) ?_
                  refine ox_y rfl (y_pick_fb (congrArg Value.bool hp39) rfl) ?_
                  exact key _ _ (keep (keep (keep (keep (keep (keep (keep (keep (keep (keep (keep (keep (keep (keep (keep (keep (keep (keep rfl rfl) rfl) rfl) rfl) rfl) rfl) rfl) rfl) rfl) rfl) rfl) rfl) rfl) rfl) rfl) rfl) rfl) (congrArg Value.bool (or_f hp39)))
        · rcases bool_cases (!y15) with hp17 | hp17
          · refine ox_skip (sees_f rfl rfl rfl rfl hp17) ?_
            refine ox_skip (sees_f rfl rfl rfl rfl hp17) ?_
            refine ox_skip (sees_f rfl rfl rfl rfl hp17) ?_
            refine ox_skip (sees_f rfl rfl rfl rfl hp17) ?_
            refine ox_skip (sees_f rfl rfl rfl rfl hp17) ?_
            refine ox_y rfl (y_pick_tb (congrArg Value.bool hp17) rfl) ?_
            exact key _ _ (keep (keep (keep (keep (keep (keep (keep (keep (keep (keep (keep rfl rfl) rfl) rfl) rfl) rfl) rfl) rfl) rfl) rfl) rfl) (congrArg Value.bool (or_t hp17)))
          · refine ox_y (sees_t rfl rfl rfl rfl hp17) (y_fieldAddr fo_33_0 rfl) ?_
            refine ox_y (sees_t rfl rfl rfl rfl hp17) (y_load1 0 (v := .int .i64 p2.fLo) sc_3 rfl rfl rfl) ?_
            refine ox_y (sees_t rfl rfl rfl rfl hp17) (y_fieldAddr fo_33_1 rfl) ?_
            refine ox_y (sees_t rfl rfl rfl rfl hp17) (y_load1 0 (v := .int .i64 p2.fHi) sc_3 rfl rfl rfl) ?_
            refine ox_y (sees_t rfl rfl rfl rfl hp17) (y_gtr rfl rfl) ?_
            refine ox_y rfl (y_pick_fb (congrArg Value.bool hp17) rfl) ?_
            exact key _ _ (keep (keep (keep (keep (keep (keep (keep (keep (keep (keep (keep rfl rfl) rfl) rfl) rfl) rfl) rfl) rfl) rfl) rfl) rfl) (congrArg Value.bool (or_f hp17)))

/-! calx/calxref03.SameSpans -/
set_option maxRecDepth 100000 in
theorem calxref03_SameSpans_ok (p0_a : (List TSpan)) (p1_b : (List TSpan)) (res : Bool) (h : calxref03_SameSpans p0_a p1_b = some res) (W : World) (A0_0 : Option Addr) (n0_0 c0_0 : Nat) (hn0_0 : n0_0 = p0_a.length) (hr0_0 : Rd W A0_0 n0_0 c0_0 (encL TSpan_cells p0_a)) (A1_0 : Option Addr) (n1_0 c1_0 : Nat) (hn1_0 : n1_0 = p1_b.length) (hr1_0 : Rd W A1_0 n1_0 c1_0 (encL TSpan_cells p1_b)) :
    Calls Try.prog 27 [.slice A0_0 n0_0 c0_0, .slice A1_0 n1_0 c1_0].toArray W fun e W2 => e = .returned (.bool res) ∧ Ext W W2 [] := by
  subst hn0_0
  subst hn1_0
  unfold calxref03_SameSpans at h
  refine calls_enter (m := 26) Try.func27 rfl rfl (Nat.le_of_ble_eq_true rfl) ?_
  refine cx_seq ?_
  refine cx_region ?_
  refine ox_y rfl (y_assign_bool rfl) ?_
  refine ox_nil ?_
  refine ex_then ?_
  refine cx_seq ?_
  refine cx_seq ?_
  refine cx_region ?_
  refine ox_y rfl (y_move_slice rfl) ?_
  refine ox_y rfl (y_len (us := []) us_34 rfl) ?_
  refine ox_y rfl (y_move_slice rfl) ?_
  refine ox_y rfl (y_len (us := []) us_34 rfl) ?_
  refine ox_y rfl (y_neq rfl rfl) ?_
  refine ox_nil ?_
  refine ex_then ?_
  rcases ite_some h with ⟨hp1, h⟩ | ⟨hp1, h⟩
  · refine cx_true (congrArg Value.bool hp1) ?_
    refine cx_seq ?_
    refine cx_region ?_
    refine ox_y rfl (y_assign_bool rfl) ?_
    refine ox_nil ?_
    refine ex_then ?_
    refine cx_ret ?_
    refine ex_then_ret ?_
    obtain rfl := Option.some.inj h
    exact ex_res1 (.inl rfl) rfl (resV_tmp (v := .bool false) rfl) (fun W2 hW2 => ⟨rfl, hW2.none⟩)
  · refine cx_false (congrArg Value.bool hp1) ?_
    refine cx_skip ?_
    refine ex_then ?_
    refine cx_seq ?_
    refine cx_seq ?_
    refine cx_region ?_
    refine ox_y rfl (y_assign_int rfl) ?_
    refine ox_nil ?_
    refine ex_then ?_
    refine cx_block ?_
    obtain ⟨u4, hl9, h⟩ := bind_some h
    refine cx_loop (fun (s : (Bool × Int)) L tm => ∃ (tm0 : Nat → Value), L = [] ∧ tm = (upd (upd (upd (upd (upd tm0 0 (.slice A0_0 p0_a.length c0_0)) 1 (.slice A1_0 p1_b.length c1_0)) 4 (.bool s.1)) 10 (.bool (((p0_a.length : Nat) : Int) != ((p1_b.length : Nat) : Int)))) 5 (.int .i64 s.2))) (fun | (.inl s), e, L, tm => e = .ret ∧ ∃ (tm0 : Nat → Value), L = [] ∧ tm = (upd (upd (upd (upd (upd tm0 0 (.slice A0_0 p0_a.length c0_0)) 1 (.slice A1_0 p1_b.length c1_0)) 4 (.bool s.1)) 10 (.bool (((p0_a.length : Nat) : Int) != ((p1_b.length : Nat) : Int)))) 5 (.int .i64 s.2)) | (.inr s), e, L, tm => e = .exit 0 ∧ ∃ (tm0 : Nat → Value), L = [] ∧ tm = (upd (upd (upd (upd (upd tm0 0 (.slice A0_0 p0_a.length c0_0)) 1 (.slice A1_0 p1_b.length c1_0)) 4 (.bool s.1)) 10 (.bool (((p0_a.length : Nat) : Int) != ((p1_b.length : Nat) : Int)))) 5 (.int .i64 s.2))) hl9 ⟨_, rfl, (keep (keep (keep (keep (keep rfl rfl) rfl) rfl) rfl) rfl)⟩ ?_ ?_
    · rintro s3 L tm st ⟨tm0_s3, rfl, rfl⟩ h
      unfold calxref03_SameSpans_l1 at h
      refine cx_seq ?_
      refine cx_seq ?_
      refine cx_region ?_
      refine ox_y rfl (y_move_int rfl) ?_
      refine ox_y rfl (y_move_slice rfl) ?_
      refine ox_y rfl (y_len (us := []) us_34 rfl) ?_
      refine ox_y rfl (y_lss rfl rfl) ?_
      refine ox_nil ?_
      refine ex_then ?_
      rcases ite_some h with ⟨hp5, h⟩ | ⟨hp5, h⟩
      · refine cx_true (congrArg Value.bool hp5) ?_
        refine cx_skip ?_
        refine ex_then ?_
        refine cx_seq ?_
        refine cx_block ?_
        refine cx_seq ?_
        refine cx_draws 9 mixed (by kernel_rfl) (by kernel_rfl) ?_
        refine qx_y rfl (y_move_slice rfl) ?_
        refine qx_y rfl (y_move_int rfl) ?_
        obtain ⟨hg6, h⟩ := guardO_some h
        refine qx_y rfl (y_indexR sl_34 (by decide) hg6.1 hg6.2 (RdL.arg hr0_0) (encL_len TSpan_cells_len rfl) rfl rfl) ?_
        refine qx_y rfl (y_loadRN (A := A0_0) (j := (Int.toNat s3.2 * 2)) [.int .i64 ((rdL p0_a s3.2).fLo), .int .i64 ((rdL p0_a s3.2).fHi)] ag_33 (Nat.succ_pos _) (RdL.arg hr0_0) rfl (encL_gets TSpan_cells_len hg6.1 (lt_nat hg6.2 rfl))) ?_
        refine qx_y rfl (y_move_slice rfl) ?_
        refine qx_y rfl (y_move_int rfl) ?_
        obtain ⟨hg7, h⟩ := guardO_some h
        refine qx_y rfl (y_indexR sl_34 (by decide) hg7.1 hg7.2 (RdL.arg hr1_0) (encL_len TSpan_cells_len rfl) rfl rfl) ?_
        refine qx_y rfl (y_loadRN (A := A1_0) (j := (Int.toNat s3.2 * 2)) [.int .i64 ((rdL p1_b s3.2).fLo), .int .i64 ((rdL p1_b s3.2).fHi)] ag_33 (Nat.succ_pos _) (RdL.arg hr1_0) rfl (encL_gets TSpan_cells_len hg7.1 (lt_nat hg7.2 rfl))) ?_
        refine qx_y rfl (y_neqa (b := (((rdL p0_a s3.2).fLo == (rdL p1_b s3.2).fLo) && ((rdL p0_a s3.2).fHi == (rdL p1_b s3.2).fHi))) eg_33 rfl rfl (fun _ => (eqS2 fl_33 (part1 sc_3 rfl) (part1 sc_3 rfl) (part1 sc_3 rfl) (part1 sc_3 rfl) (run_equalIn_int _ _ _ _ _ _ _ ui_3) (run_equalIn_int _ _ _ _ _ _ _ ui_3)))) ?_
        refine qx_nil ?_
        refine ox_nil ?_
        refine ex_then ?_
        rcases ite_some h with ⟨hp8, h⟩ | ⟨hp8, h⟩
        · refine cx_true (congrArg Value.bool hp8) ?_
          refine cx_seq ?_
          refine cx_region ?_
          refine ox_y rfl (y_assign_bool rfl) ?_
          refine ox_nil ?_
          refine ex_then ?_
          refine cx_ret ?_
          refine ex_block_ret ?_
          refine ex_then_ret ?_
          obtain rfl := Option.some.inj h
          exact ex_stop ⟨rfl, _, rfl, (keep (keep (keep (keep (keep rfl rfl) rfl) rfl) rfl) rfl)⟩
        · refine cx_false (congrArg Value.bool hp8) ?_
          refine cx_skip ?_
          refine ex_block ?_
          refine ex_then ?_
          refine cx_region ?_
          refine ox_y rfl (y_move_int rfl) ?_
          refine ox_y rfl (y_add rfl rfl) ?_
          refine ox_y rfl (y_assign_int rfl) ?_
          refine ox_nil ?_
          obtain rfl := Option.some.inj h
          exact ex_next ⟨_, rfl, (keep (keep (keep (keep (keep rfl rfl) rfl) rfl) rfl) rfl)⟩
      · refine cx_false (congrArg Value.bool hp5) ?_
        refine cx_exit ?_
        refine ex_then_exit ?_
        obtain rfl := Option.some.inj h
        exact ex_stop ⟨rfl, _, rfl, (keep (keep (keep (keep (keep rfl rfl) rfl) rfl) rfl) rfl)⟩
    · intro e L tm hJ
      rcases u4 with u10 | u11
      · dsimp only at h hJ
        obtain ⟨rfl, tm0_u10, rfl, rfl⟩ := hJ
        refine ⟨(by intro hc; cases hc), ?_⟩
        refine ex_block_ret ?_
        refine ex_then_ret ?_
        obtain rfl := Option.some.inj h
        exact ex_res1 (.inl rfl) rfl (resV_tmp (v := .bool u10.1) rfl) (fun W2 hW2 => ⟨rfl, hW2.none⟩)
      · dsimp only at h hJ
        obtain ⟨rfl, tm0_u11, rfl, rfl⟩ := hJ
        refine ⟨(by intro hc; cases hc), ?_⟩
        refine ex_block_here ?_
        refine ex_then ?_
        refine cx_seq ?_
        refine cx_region ?_
        refine ox_y rfl (y_assign_bool rfl) ?_
        refine ox_nil ?_
        refine ex_then ?_
        refine cx_ret ?_
        obtain rfl := Option.some.inj h
        exact ex_res1 (.inl rfl) rfl (resV_tmp (v := .bool true) rfl) (fun W2 hW2 => ⟨rfl, hW2.none⟩)

/-! calx/sample.Choose -/
set_option maxRecDepth 100000 in
theorem sample_Choose_ok (p0_barrows : Int) (p1_taken : Int) (res : (Int × Int)) (h : sample_Choose p0_barrows p1_taken = some res) (W : World)  :
    Calls Try.prog 28 [.int .i64 p0_barrows, .int .i64 p1_taken].toArray W fun e W2 => e = .returned (.tuple #[.int .i64 res.1, .int .i64 res.2]) ∧ Ext W W2 [] := by
  unfold sample_Choose at h
  refine calls_enter (m := 16) Try.func28 rfl rfl (Nat.le_of_ble_eq_true rfl) ?_
  refine cx_seq ?_
  refine cx_region ?_
  refine ox_y rfl (y_assign_int rfl) ?_
  refine ox_y rfl (y_assign_int rfl) ?_
  refine ox_nil ?_
  refine ex_then ?_
  refine cx_seq ?_
  refine cx_seq ?_
  refine cx_region ?_
  refine ox_y rfl (y_move_int rfl) ?_
  obtain ⟨y1, hy2, h⟩ := bind_some h
  refine ox_y rfl (y_call [.int .i64 p0_barrows, .int .i64 0, .int .i64 50] go_74 rfl (fun W2 hW2 => sample_within_ok p0_barrows 0 50 y1 hy2 W2 ) rfl) ?_
  refine ox_y rfl (y_not rfl) ?_
  refine ox_y rfl (y_move_bool rfl) ?_
  refine ox_join 3 (fun tm0 => (upd (upd (upd (upd (upd tm0 0 (.int .i64 p0_barrows)) 1 (.int .i64 p1_taken)) 4 (.int .i64 0)) 5 (.int .i64 0)) 12 (.bool ((!y1) || (decide (p1_taken < 0)))))) (fun tm0 => ?_) (fun key => ?_)
  · refine ox_nil ?_
    refine ex_then ?_
    rcases ite_some h with ⟨hp4, h⟩ | ⟨hp4, h⟩
    · refine cx_true (congrArg Value.bool hp4) ?_
      refine cx_seq ?_
      refine cx_region ?_
      refine ox_y rfl (y_assign_int rfl) ?_
      refine ox_y rfl (y_assign_int rfl) ?_
      refine ox_nil ?_
      refine ex_then ?_
      refine cx_ret ?_
      refine ex_then_ret ?_
      obtain rfl := Option.some.inj h
      exact ex_res2 (.inl rfl) rfl (resV_tmp (v := .int .i64 0) rfl) (resV_tmp (v := .int .i64 1) rfl) (fun W2 hW2 => ⟨rfl, hW2.none⟩)
    · refine cx_false (congrArg Value.bool hp4) ?_
      refine cx_skip ?_
      refine ex_then ?_
      refine cx_seq ?_
      refine cx_region ?_
      refine ox_y rfl (y_move_int rfl) ?_
      refine ox_y rfl (y_move_int rfl) ?_
      obtain ⟨y5, hy6, h⟩ := bind_some h
      refine ox_y rfl (y_call [.int .i64 p0_barrows, .int .i64 p1_taken] go_76 rfl (fun W2 hW2 => sample_choose_ok p0_barrows p1_taken y5 hy6 W2 ) rfl) ?_
      refine ox_y rfl (y_assign_int rfl) ?_
      refine ox_y rfl (y_assign_int rfl) ?_
      refine ox_nil ?_
      refine ex_then ?_
      refine cx_ret ?_
      obtain rfl := Option.some.inj h
      exact ex_res2 (.inl rfl) rfl (resV_tmp (v := .int .i64 y5) rfl) (resV_tmp (v := .int .i64 0) rfl) (fun W2 hW2 => ⟨rfl, hW2.none⟩)
  · rcases bool_cases (!y1) with hp3 | hp3
    · refine ox_skip (sees_f rfl rfl rfl rfl hp3) ?_
      refine ox_skip (sees_f rfl rfl rfl rfl hp3) ?_
      refine ox_y rfl (y_pick_tb (congrArg Value.bool hp3) rfl) ?_
      exact key _ _ (keep (keep (keep (keep (keep rfl rfl) rfl) rfl) rfl) (congrArg Value.bool (or_t hp3)))
    · refine ox_y (sees_t rfl rfl rfl rfl hp3) (y_move_int rfl) ?_
      refine ox_y (sees_t rfl rfl rfl rfl hp3) (y_lss rfl rfl) ?_
      refine ox_y rfl (y_pick_fb (congrArg Value.bool hp3) rfl) ?_
      exact key _ _ (keep (keep (keep (keep (keep rfl rfl) rfl) rfl) rfl) (congrArg Value.bool (or_f hp3)))

/-! calx/sample.seenOf -/
set_option maxRecDepth 100000 in
theorem sample_seenOf_ok (p0_whole : TKinds) (p1_seen : TKinds) (res : Int) (h : sample_seenOf p0_whole p1_seen = some res) (W : World)  :
    Calls Try.prog 89 [.agg #[.int .i64 p0_whole.x0, .int .i64 p0_whole.x1, .int .i64 p0_whole.x2], .agg #[.int .i64 p1_seen.x0, .int .i64 p1_seen.x1, .int .i64 p1_seen.x2]].toArray W fun e W2 => e = .returned (.int .i64 res) ∧ Ext W W2 [] := by
  unfold sample_seenOf at h
  refine calls_enter (m := 19) Try.func89 rfl rfl (Nat.le_of_ble_eq_true rfl) ?_
  refine cx_seq ?_
  refine cx_region ?_
  refine ox_box [.int .i64 p0_whole.x0, .int .i64 p0_whole.x1, .int .i64 p0_whole.x2] rfl rfl rfl (fun b1 => ?_)
  refine ox_box [.int .i64 p1_seen.x0, .int .i64 p1_seen.x1, .int .i64 p1_seen.x2] rfl rfl rfl (fun b2 => ?_)
  refine ox_y rfl (y_assign_int rfl) ?_
  refine ox_nil ?_
  refine ex_then ?_
  refine cx_seq ?_
  refine cx_seq ?_
  refine cx_region ?_
  refine ox_y rfl (y_loadN 0 [.int .i64 p0_whole.x0, .int .i64 p0_whole.x1, .int .i64 p0_whole.x2] ag_43 rfl rfl rfl) ?_
  obtain ⟨y3, hy4, h⟩ := bind_some h
  refine ox_y rfl (y_call [.agg #[.int .i64 p0_whole.x0, .int .i64 p0_whole.x1, .int .i64 p0_whole.x2]] go_103 rfl (fun W2 hW2 => sample_isSample_ok p0_whole y3 hy4 W2 ) rfl) ?_
  refine ox_y rfl (y_not rfl) ?_
  refine ox_y rfl (y_move_bool rfl) ?_
  obtain ⟨b6, hb7, h⟩ := bind_some h
  refine ox_join 5 (fun tm0 => (upd (upd (upd (upd (upd (upd tm0 0 (.agg #[.int .i64 p0_whole.x0, .int .i64 p0_whole.x1, .int .i64 p0_whole.x2])) 1 (.agg #[.int .i64 p1_seen.x0, .int .i64 p1_seen.x1, .int .i64 p1_seen.x2])) 2 (.pointer (some ⟨b1, 0, none⟩))) 3 (.pointer (some ⟨b2, 0, none⟩))) 4 (.int .i64 0)) 13 (.bool b6))) (fun tm0 => ?_) (fun key => ?_)
  · refine ox_y rfl (y_move_bool rfl) ?_
    obtain ⟨b9, hb10, h⟩ := bind_some h
    refine ox_join 4 (fun tm0 => (upd (upd (upd (upd (upd (upd tm0 0 (.agg #[.int .i64 p0_whole.x0, .int .i64 p0_whole.x1, .int .i64 p0_whole.x2])) 1 (.agg #[.int .i64 p1_seen.x0, .int .i64 p1_seen.x1, .int .i64 p1_seen.x2])) 2 (.pointer (some ⟨b1, 0, none⟩))) 3 (.pointer (some ⟨b2, 0, none⟩))) 4 (.int .i64 0)) 18 (.bool b9))) (fun tm0 => ?_) (fun key => ?_)
    · refine ox_nil ?_
      refine ex_then ?_
      rcases ite_some h with ⟨hp11, h⟩ | ⟨hp11, h⟩
      · refine cx_true (congrArg Value.bool hp11) ?_
        refine cx_seq ?_
        refine cx_region ?_
        refine ox_y rfl (y_assign_int rfl) ?_
        refine ox_nil ?_
        refine ex_then ?_
        refine cx_ret ?_
        refine ex_then_ret ?_
        obtain rfl := Option.some.inj h
        exact ex_res1 (.inl rfl) rfl (resV_tmp (v := .int .i64 1) rfl) (fun W2 hW2 => ⟨rfl, hW2.none⟩)
      · refine cx_false (congrArg Value.bool hp11) ?_
        refine cx_skip ?_
        refine ex_then ?_
        refine cx_seq ?_
        refine cx_region ?_
        refine ox_y rfl (y_assign_int rfl) ?_
        refine ox_nil ?_
        refine ex_then ?_
        refine cx_ret ?_
        obtain rfl := Option.some.inj h
        exact ex_res1 (.inl rfl) rfl (resV_tmp (v := .int .i64 0) rfl) (fun W2 hW2 => ⟨rfl, hW2.none⟩)
    · clear h; rcases ite_some hb10 with ⟨hp8, h⟩ | ⟨hp8, h⟩
      · refine ox_skip (sees_f rfl rfl rfl rfl hp8) ?_
        refine ox_skip (sees_f rfl rfl rfl rfl hp8) ?_
        refine ox_skip (sees_f rfl rfl rfl rfl hp8) ?_
        refine ox_y rfl (y_pick_tb (congrArg Value.bool hp8) rfl) ?_
        obtain rfl := Option.some.inj h
        exact key _ _ (keep (keep (keep (keep (keep (keep rfl rfl) rfl) rfl) rfl) rfl) rfl)
      · refine ox_y (sees_t rfl rfl rfl rfl hp8) (y_loadN 1 [.int .i64 p1_seen.x0, .int .i64 p1_seen.x1, .int .i64 p1_seen.x2] ag_43 rfl rfl rfl) ?_
        obtain ⟨y12, hy13, h⟩ := bind_some h
        refine ox_y (sees_t rfl rfl rfl rfl hp8) (y_call [.agg #[.int .i64 p1_seen.x0, .int .i64 p1_seen.x1, .int .i64 p1_seen.x2]] go_103 rfl (fun W2 hW2 => sample_isSample_ok p1_seen y12 hy13 W2 ) rfl) ?_
        refine ox_y (sees_t rfl rfl rfl rfl hp8) (y_not rfl) ?_
        refine ox_y rfl (y_pick_fb (congrArg Value.bool hp8) rfl) ?_
        obtain rfl := Option.some.inj h
        exact key _ _ (keep (keep (keep (keep (keep (keep rfl rfl) rfl) rfl) rfl) rfl) rfl)
  · clear h; rcases ite_some hb7 with ⟨hp5, h⟩ | ⟨hp5, h⟩
    · refine ox_skip (sees_f rfl rfl rfl rfl hp5) ?_
      refine ox_skip (sees_f rfl rfl rfl rfl hp5) ?_
      refine ox_skip (sees_f rfl rfl rfl rfl hp5) ?_
      refine ox_skip (sees_f rfl rfl rfl rfl hp5) ?_
      refine ox_y rfl (y_pick_tb (congrArg Value.bool hp5) rfl) ?_
      obtain rfl := Option.some.inj h
      exact key _ _ (keep (keep (keep (keep (keep (keep rfl rfl) rfl) rfl) rfl) rfl) rfl)
    · refine ox_y (sees_t rfl rfl rfl rfl hp5) (y_loadN 0 [.int .i64 p0_whole.x0, .int .i64 p0_whole.x1, .int .i64 p0_whole.x2] ag_43 rfl rfl rfl) ?_
      obtain ⟨y14, hy15, h⟩ := bind_some h
      refine ox_y (sees_t rfl rfl rfl rfl hp5) (y_call [.agg #[.int .i64 p0_whole.x0, .int .i64 p0_whole.x1, .int .i64 p0_whole.x2]] go_94 rfl (fun W2 hW2 => sample_size_ok p0_whole y14 hy15 W2 ) rfl) ?_
      obtain ⟨y16, hy17, h⟩ := bind_some h
      refine ox_y (sees_t rfl rfl rfl rfl hp5) (y_call [.int .i64 y14, .int .i64 1, .int .i64 50] go_74 rfl (fun W2 hW2 => sample_within_ok y14 1 50 y16 hy17 W2 ) rfl) ?_
      refine ox_y (sees_t rfl rfl rfl rfl hp5) (y_not rfl) ?_
      refine ox_y rfl (y_pick_fb (congrArg Value.bool hp5) rfl) ?_
      obtain rfl := Option.some.inj h
      exact key _ _ (keep (keep (keep (keep (keep (keep rfl rfl) rfl) rfl) rfl) rfl) rfl)

/-! calx/sample.ways -/
set_option maxRecDepth 100000 in
theorem sample_ways_ok (p0_whole : TKinds) (p1_seen : TKinds) (res : Int) (h : sample_ways p0_whole p1_seen = some res) (W : World)  :
    Calls Try.prog 90 [.agg #[.int .i64 p0_whole.x0, .int .i64 p0_whole.x1, .int .i64 p0_whole.x2], .agg #[.int .i64 p1_seen.x0, .int .i64 p1_seen.x1, .int .i64 p1_seen.x2]].toArray W fun e W2 => e = .returned (.int .i64 res) ∧ Ext W W2 [] := by
  unfold sample_ways at h
  refine calls_enter (m := 22) Try.func90 rfl rfl (Nat.le_of_ble_eq_true rfl) ?_
  refine cx_seq ?_
  refine cx_region ?_
  refine ox_box [.int .i64 p0_whole.x0, .int .i64 p0_whole.x1, .int .i64 p0_whole.x2] rfl rfl rfl (fun b1 => ?_)
  refine ox_box [.int .i64 p1_seen.x0, .int .i64 p1_seen.x1, .int .i64 p1_seen.x2] rfl rfl rfl (fun b2 => ?_)
  refine ox_y rfl (y_assign_int rfl) ?_
  refine ox_nil ?_
  refine ex_then ?_
  refine cx_seq ?_
  refine cx_region ?_
  refine ox_y rfl (y_assign_int rfl) ?_
  refine ox_nil ?_
  refine ex_then ?_
  refine cx_seq ?_
  refine cx_seq ?_
  refine cx_region ?_
  refine ox_y rfl (y_loadN 0 [.int .i64 p0_whole.x0, .int .i64 p0_whole.x1, .int .i64 p0_whole.x2] ag_43 rfl rfl rfl) ?_
  refine ox_y rfl (y_move_int rfl) ?_
  refine ox_nil ?_
  refine ex_then ?_
  refine cx_block ?_
  obtain ⟨u5, hl11, h⟩ := bind_some h
  refine cx_loop (fun (s : (Int × Int)) L tm => ∃ (tm0 : Nat → Value), L = [cellsR b1 43 [.int .i64 p0_whole.x0, .int .i64 p0_whole.x1, .int .i64 p0_whole.x2], cellsR b2 43 [.int .i64 p1_seen.x0, .int .i64 p1_seen.x1, .int .i64 p1_seen.x2]] ∧ tm = (upd (upd (upd (upd (upd (upd (upd (upd tm0 0 (.agg #[.int .i64 p0_whole.x0, .int .i64 p0_whole.x1, .int .i64 p0_whole.x2])) 1 (.agg #[.int .i64 p1_seen.x0, .int .i64 p1_seen.x1, .int .i64 p1_seen.x2])) 2 (.pointer (some ⟨b1, 0, none⟩))) 3 (.pointer (some ⟨b2, 0, none⟩))) 4 (.int .i64 0)) 5 (.int .i64 s.1)) 8 (.agg #[.int .i64 p0_whole.x0, .int .i64 p0_whole.x1, .int .i64 p0_whole.x2])) 9 (.int .i64 s.2))) (fun s e L tm => e = .exit 0 ∧ ∃ (tm0 : Nat → Value), L = [cellsR b1 43 [.int .i64 p0_whole.x0, .int .i64 p0_whole.x1, .int .i64 p0_whole.x2], cellsR b2 43 [.int .i64 p1_seen.x0, .int .i64 p1_seen.x1, .int .i64 p1_seen.x2]] ∧ tm = (upd (upd (upd (upd (upd (upd (upd (upd tm0 0 (.agg #[.int .i64 p0_whole.x0, .int .i64 p0_whole.x1, .int .i64 p0_whole.x2])) 1 (.agg #[.int .i64 p1_seen.x0, .int .i64 p1_seen.x1, .int .i64 p1_seen.x2])) 2 (.pointer (some ⟨b1, 0, none⟩))) 3 (.pointer (some ⟨b2, 0, none⟩))) 4 (.int .i64 0)) 5 (.int .i64 s.1)) 8 (.agg #[.int .i64 p0_whole.x0, .int .i64 p0_whole.x1, .int .i64 p0_whole.x2])) 9 (.int .i64 s.2))) hl11 ⟨_, rfl, (keep (keep (keep (keep (keep (keep (keep (keep rfl rfl) rfl) rfl) rfl) rfl) rfl) rfl) rfl)⟩ ?_ ?_
  · rintro s4 L tm st ⟨tm0_s4, rfl, rfl⟩ h
    unfold sample_ways_l1 at h
    refine cx_seq ?_
    refine cx_region ?_
    refine ox_y rfl (y_lss rfl rfl) ?_
    refine ox_nil ?_
    refine ex_then ?_
    refine cx_seq ?_
    rcases ite_some h with ⟨hp6, h⟩ | ⟨hp6, h⟩
    · refine cx_true (congrArg Value.bool hp6) ?_
      refine cx_skip ?_
      refine ex_then ?_
      refine cx_seq ?_
      refine cx_block ?_
      refine cx_seq ?_
      refine cx_region ?_
      refine ox_y rfl (y_move_int rfl) ?_
      obtain ⟨hg7, h⟩ := guardO_some h
      refine ox_y rfl (y_index3i (a := p0_whole.x0) (b := p0_whole.x1) (c := p0_whole.x2) ua_43 sc_3 hg7.1 hg7.2 rfl rfl) ?_
      refine ox_y rfl (y_assign_int rfl) ?_
      refine ox_y rfl (y_assign_int rfl) ?_
      refine ox_nil ?_
      refine ex_then ?_
      refine cx_region ?_
      refine ox_y rfl (y_move_int rfl) ?_
      refine ox_y rfl (y_move_int rfl) ?_
      refine ox_y rfl (y_move_int rfl) ?_
      obtain ⟨hg8, h⟩ := guardO_some h
      refine ox_y rfl (y_indexArr ar_43 hg8.1 hg8.2 rfl rfl) ?_
      refine ox_y rfl (y_load1 1 (v := .int .i64 (sel3 p1_seen.x0 p1_seen.x1 p1_seen.x2 s4.2)) sc_3 rfl rfl (by rcases in3 hg8 with e | e | e <;> rw [e] <;> rfl)) ?_
      obtain ⟨y9, hy10, h⟩ := bind_some h
      refine ox_y rfl (y_call [.int .i64 (sel3 p0_whole.x0 p0_whole.x1 p0_whole.x2 s4.2), .int .i64 (sel3 p1_seen.x0 p1_seen.x1 p1_seen.x2 s4.2)] go_76 rfl (fun W2 hW2 => sample_choose_ok (sel3 p0_whole.x0 p0_whole.x1 p0_whole.x2 s4.2) (sel3 p1_seen.x0 p1_seen.x1 p1_seen.x2 s4.2) y9 hy10 W2 ) rfl) ?_
      refine ox_y rfl (y_mul rfl rfl) ?_
      refine ox_y rfl (y_assign_int rfl) ?_
      refine ox_nil ?_
      refine ex_block ?_
      refine ex_then ?_
      refine cx_region ?_
      refine ox_y rfl (y_add rfl rfl) ?_
      refine ox_y rfl (y_move_int rfl) ?_
      refine ox_nil ?_
      obtain rfl := Option.some.inj h
      exact ex_next ⟨_, rfl, (keep (keep (keep (keep (keep (keep (keep (keep rfl rfl) rfl) rfl) rfl) rfl) rfl) rfl) rfl)⟩
    · refine cx_false (congrArg Value.bool hp6) ?_
      refine cx_exit ?_
      refine ex_then_exit ?_
      obtain rfl := Option.some.inj h
      exact ex_stop ⟨rfl, _, rfl, (keep (keep (keep (keep (keep (keep (keep (keep rfl rfl) rfl) rfl) rfl) rfl) rfl) rfl) rfl)⟩
  · intro e L tm hJ
    obtain ⟨rfl, tm0_u5, rfl, rfl⟩ := hJ
    refine ⟨(by intro hc; cases hc), ?_⟩
    refine ex_block_here ?_
    refine ex_then ?_
    refine cx_seq ?_
    refine cx_region ?_
    refine ox_y rfl (y_move_int rfl) ?_
    refine ox_y rfl (y_assign_int rfl) ?_
    refine ox_nil ?_
    refine ex_then ?_
    refine cx_ret ?_
    obtain rfl := Option.some.inj h
    exact ex_res1 (.inl rfl) rfl (resV_tmp (v := .int .i64 u5.1) rfl) (fun W2 hW2 => ⟨rfl, hW2.none⟩)

/-! calx/sample.Chance -/
set_option maxRecDepth 100000 in
theorem sample_Chance_ok (p0_whole : TKinds) (p1_seen : TKinds) (res : (TRatio × Int)) (h : sample_Chance p0_whole p1_seen = some res) (W : World)  :
    Calls Try.prog 32 [.agg #[.int .i64 p0_whole.x0, .int .i64 p0_whole.x1, .int .i64 p0_whole.x2], .agg #[.int .i64 p1_seen.x0, .int .i64 p1_seen.x1, .int .i64 p1_seen.x2]].toArray W fun e W2 => e = .returned (.tuple #[.agg #[.int .i64 res.1.fNum, .int .i64 res.1.fDen], .int .i64 res.2]) ∧ Ext W W2 [] := by
  unfold sample_Chance at h
  refine calls_enter (m := 29) Try.func32 rfl rfl (Nat.le_of_ble_eq_true rfl) ?_
  refine cx_seq ?_
  refine cx_region ?_
  refine ox_box [.int .i64 p0_whole.x0, .int .i64 p0_whole.x1, .int .i64 p0_whole.x2] rfl rfl rfl (fun b1 => ?_)
  refine ox_box [.int .i64 p1_seen.x0, .int .i64 p1_seen.x1, .int .i64 p1_seen.x2] rfl rfl rfl (fun b2 => ?_)
  refine ox_alloc ze_23 rfl (fun b3 => ?_)
  refine ox_y rfl (y_assign_int rfl) ?_
  refine ox_nil ?_
  refine ex_then ?_
  refine cx_seq ?_
  refine cx_seq ?_
  refine cx_region ?_
  refine ox_y rfl (y_loadN 0 [.int .i64 p0_whole.x0, .int .i64 p0_whole.x1, .int .i64 p0_whole.x2] ag_43 rfl rfl rfl) ?_
  refine ox_y rfl (y_loadN 1 [.int .i64 p1_seen.x0, .int .i64 p1_seen.x1, .int .i64 p1_seen.x2] ag_43 rfl rfl rfl) ?_
  obtain ⟨y4, hy5, h⟩ := bind_some h
  refine ox_y rfl (y_call [.agg #[.int .i64 p0_whole.x0, .int .i64 p0_whole.x1, .int .i64 p0_whole.x2], .agg #[.int .i64 p1_seen.x0, .int .i64 p1_seen.x1, .int .i64 p1_seen.x2]] go_89 rfl (fun W2 hW2 => sample_seenOf_ok p0_whole p1_seen y4 hy5 W2 ) rfl) ?_
  refine ox_y rfl (y_assign_int rfl) ?_
  refine ox_nil ?_
  refine ex_then ?_
  refine cx_seq ?_
  refine cx_region ?_
  refine ox_y rfl (y_move_int rfl) ?_
  refine ox_y rfl (y_neq rfl rfl) ?_
  refine ox_nil ?_
  refine ex_then ?_
  rcases ite_some h with ⟨hp6, h⟩ | ⟨hp6, h⟩
  · refine cx_true (congrArg Value.bool hp6) ?_
    refine cx_seq ?_
    refine cx_region ?_
    refine ox_y rfl (y_buildS [.int .i64 0, .int .i64 0] [(0, 1), (1, 1)] ust_23 ze_23 (by kernel_rfl)) ?_
    refine ox_y rfl (y_move_int rfl) ?_
    refine ox_n rfl (y_storeN 2 [.int .i64 0, .int .i64 0] sz_23 rfl (Nat.le_of_ble_eq_true rfl) rfl rfl rfl) ?_
    refine ox_y rfl (y_assign_int rfl) ?_
    refine ox_nil ?_
    refine ex_then ?_
    refine cx_ret ?_
    refine ex_then_ret ?_
    obtain rfl := Option.some.inj h
    exact ex_res2 (.inl rfl) rfl (resV_cellN 2 [.int .i64 0, .int .i64 0] ag_23 rfl rfl rfl) (resV_tmp (v := .int .i64 y4) rfl) (fun W2 hW2 => ⟨rfl, hW2.none⟩)
  · refine cx_false (congrArg Value.bool hp6) ?_
    refine cx_skip ?_
    refine ex_then ?_
    refine cx_seq ?_
    refine cx_seq ?_
    refine cx_draws 5 mixed (by kernel_rfl) (by kernel_rfl) ?_
    refine qx_y rfl (y_loadN 1 [.int .i64 p1_seen.x0, .int .i64 p1_seen.x1, .int .i64 p1_seen.x2] ag_43 rfl rfl rfl) ?_
    obtain ⟨y7, hy8, h⟩ := bind_some h
    refine qx_y rfl (y_call [.agg #[.int .i64 p1_seen.x0, .int .i64 p1_seen.x1, .int .i64 p1_seen.x2]] go_94 rfl (fun W2 hW2 => sample_size_ok p1_seen y7 hy8 W2 ) rfl) ?_
    refine qx_y rfl (y_loadN 0 [.int .i64 p0_whole.x0, .int .i64 p0_whole.x1, .int .i64 p0_whole.x2] ag_43 rfl rfl rfl) ?_
    obtain ⟨y9, hy10, h⟩ := bind_some h
    refine qx_y rfl (y_call [.agg #[.int .i64 p0_whole.x0, .int .i64 p0_whole.x1, .int .i64 p0_whole.x2]] go_94 rfl (fun W2 hW2 => sample_size_ok p0_whole y9 hy10 W2 ) rfl) ?_
    refine qx_y rfl (y_gtr rfl rfl) ?_
    refine qx_nil ?_
    refine ox_nil ?_
    refine ex_then ?_
    rcases ite_some h with ⟨hp11, h⟩ | ⟨hp11, h⟩
    · refine cx_true (congrArg Value.bool hp11) ?_
      refine cx_seq ?_
      refine cx_region ?_
      refine ox_y rfl (y_buildS [.int .i64 0, .int .i64 0] [(0, 1), (1, 1)] ust_23 ze_23 (by kernel_rfl)) ?_
      refine ox_n rfl (y_storeN 2 [.int .i64 0, .int .i64 0] sz_23 rfl (Nat.le_of_ble_eq_true rfl) rfl rfl rfl) ?_
      refine ox_y rfl (y_assign_int rfl) ?_
      refine ox_nil ?_
      refine ex_then ?_
      refine cx_ret ?_
      refine ex_then_ret ?_
      obtain rfl := Option.some.inj h
      exact ex_res2 (.inl rfl) rfl (resV_cellN 2 [.int .i64 0, .int .i64 0] ag_23 rfl rfl rfl) (resV_tmp (v := .int .i64 3) rfl) (fun W2 hW2 => ⟨rfl, hW2.none⟩)
    · refine cx_false (congrArg Value.bool hp11) ?_
      refine cx_skip ?_
      refine ex_then ?_
      refine cx_seq ?_
      refine cx_draws 9 mixed (by kernel_rfl) (by kernel_rfl) ?_
      refine qx_y rfl (y_loadN 0 [.int .i64 p0_whole.x0, .int .i64 p0_whole.x1, .int .i64 p0_whole.x2] ag_43 rfl rfl rfl) ?_
      refine qx_y rfl (y_loadN 1 [.int .i64 p1_seen.x0, .int .i64 p1_seen.x1, .int .i64 p1_seen.x2] ag_43 rfl rfl rfl) ?_
      obtain ⟨y12, hy13, h⟩ := bind_some h
      refine qx_y rfl (y_call [.agg #[.int .i64 p0_whole.x0, .int .i64 p0_whole.x1, .int .i64 p0_whole.x2], .agg #[.int .i64 p1_seen.x0, .int .i64 p1_seen.x1, .int .i64 p1_seen.x2]] go_90 rfl (fun W2 hW2 => sample_ways_ok p0_whole p1_seen y12 hy13 W2 ) rfl) ?_
      refine qx_y rfl (y_loadN 0 [.int .i64 p0_whole.x0, .int .i64 p0_whole.x1, .int .i64 p0_whole.x2] ag_43 rfl rfl rfl) ?_
      obtain ⟨y14, hy15, h⟩ := bind_some h
      refine qx_y rfl (y_call [.agg #[.int .i64 p0_whole.x0, .int .i64 p0_whole.x1, .int .i64 p0_whole.x2]] go_94 rfl (fun W2 hW2 => sample_size_ok p0_whole y14 hy15 W2 ) rfl) ?_
      refine qx_y rfl (y_loadN 1 [.int .i64 p1_seen.x0, .int .i64 p1_seen.x1, .int .i64 p1_seen.x2] ag_43 rfl rfl rfl) ?_
      obtain ⟨y16, hy17, h⟩ := bind_some h
      refine qx_y rfl (y_call [.agg #[.int .i64 p1_seen.x0, .int .i64 p1_seen.x1, .int .i64 p1_seen.x2]] go_94 rfl (fun W2 hW2 => sample_size_ok p1_seen y16 hy17 W2 ) rfl) ?_
      obtain ⟨y18, hy19, h⟩ := bind_some h
      refine qx_y rfl (y_call [.int .i64 y14, .int .i64 y16] go_76 rfl (fun W2 hW2 => sample_choose_ok y14 y16 y18 hy19 W2 ) rfl) ?_
      obtain ⟨y20, hy21, h⟩ := bind_some h
      refine qx_y rfl (y_call [.int .i64 y12, .int .i64 y18] go_95 rfl (fun W2 hW2 => sample_ratio_ok y12 y18 y20 hy21 W2 ) rfl) ?_
      refine qx_nil ?_
      refine ox_n rfl (y_storeN 2 [.int .i64 y20.fNum, .int .i64 y20.fDen] sz_23 rfl (Nat.le_of_ble_eq_true rfl) rfl rfl rfl) ?_
      refine ox_y rfl (y_assign_int rfl) ?_
      refine ox_nil ?_
      refine ex_then ?_
      refine cx_ret ?_
      obtain rfl := Option.some.inj h
      exact ex_res2 (.inl rfl) rfl (resV_cellN 2 [.int .i64 y20.fNum, .int .i64 y20.fDen] ag_23 rfl rfl rfl) (resV_tmp (v := .int .i64 0) rfl) (fun W2 hW2 => ⟨rfl, hW2.none⟩)

/-! slices.AppendSeq[[]calx/api.Kinds,calx/api.Kinds] -/
set_option maxRecDepth 100000 in
theorem slices_AppendSeq_calx_api_Kinds_calx_api_Kinds_ok (p1_seq : TBatch) (res : (List TKinds)) (h : slices_AppendSeq_calx_api_Kinds_calx_api_Kinds p1_seq = some res) (W : World) (bl1 : Nat) (bb1 : Nat) (hsbl1 : W.heap[bl1]? = some (.cells #[.func (.func 124) #[] #[.pointer (some ⟨bb1, 0, none⟩)]] 136 (0, 0))) (hsbb1 : W.heap[bb1]? = some (.cells (TBatch_cells p1_seq).toArray 52 (0, 0))) :
    Calls Try.prog 123 [.slice none 0 0, .func (.func 125) #[] #[.pointer (some ⟨bl1, 0, none⟩), .pointer (some ⟨bb1, 0, none⟩)]].toArray W fun e W2 => ∃ x : Option Addr × Nat × Nat, x.2.1 = res.length ∧ e = .returned (.slice x.1 x.2.1 x.2.2) ∧ Ext W W2 [rowR x.1 x.2.2 43 3 x.2.1 (encL TKinds_cells res)] := by
  unfold slices_AppendSeq_calx_api_Kinds_calx_api_Kinds at h
  refine calls_enterM (m := 13) Try.func123 rfl rfl (Nat.le_of_ble_eq_true rfl) ?_
  refine cx_seq ?_
  refine cx_region ?_
  refine ox_box [.slice none 0 0] rfl rfl rfl (fun b1 => ?_)
  refine ox_y rfl (y_assign_slice rfl) ?_
  refine ox_nil ?_
  refine ex_then ?_
  refine cx_seq ?_
  refine cx_seq ?_
  refine cx_region ?_
  refine ox_y rfl (y_move_func rfl) ?_
  refine ox_nil ?_
  refine ex_then ?_
  refine cx_block ?_
  refine cx_nilrow 43 3 ?_
  obtain ⟨hok15, h⟩ := guardO_some h
  obtain ⟨u8, hl14, h⟩ := bind_some h
  refine cx_range (enc := fun x : TKinds => .agg #[.int .i64 x.x0, .int .i64 x.x1, .int .i64 x.x2]) (bs := [bl1, bb1]) (caps := [.pointer (some ⟨bl1, 0, none⟩), .pointer (some ⟨bb1, 0, none⟩)]) (fun (s : (List TKinds)) L => ∃ (A1_s : Option Addr) (c1_s : Nat) (n1_s : Nat), n1_s = s.length ∧ L = [cellsR b1 53 [.slice A1_s n1_s c1_s], rowR A1_s c1_s 43 3 n1_s (encL TKinds_cells s)]) (fun (_ : Unit) _ _ => False) hl14 rfl go_125 (fun W2 hW2 => (sample_wholes_2_seq p1_seq hok15 _ bl1 bb1 hsbl1 hsbb1).later hW2.below) (by intro b hb; simp only [List.mem_cons, List.not_mem_nil, or_false] at hb; rcases hb with rfl | rfl; all_goals first | exact .inl (lt_of_block hsbl1) | exact .inl (lt_of_block hsbb1)) ⟨none, 0, 0, rfl, rfl⟩ (fun W2 hW2 s L hI => by obtain ⟨A1_s, c1_s, n1_s, rfl, rfl⟩ := hI; exact (.cons Cy.cells (.cons Cy.row CyL.nil))) (fun _ _ _ _ _ h => h.elim) (fun _ _ _ h => h.elim) ?_ ?_ ?_
  · rintro D l rec s6 x7 L st hrec ⟨A1_s6, c1_s6, n1_s6, rfl, rfl⟩ h
    unfold slices_AppendSeq_calx_api_Kinds_calx_api_Kinds_r1 at h
    refine cx_region ?_
    refine ox_alloc ze_43 rfl (fun b9 => ?_)
    refine ox_n rfl (y_storeN 4 [.int .i64 x7.x0, .int .i64 x7.x1, .int .i64 x7.x2] sz_43 rfl (Nat.le_of_ble_eq_true rfl) rfl rfl rfl) ?_
    refine ox_nil ?_
    refine ex_begin 3 rfl hrec ?_
    refine cx_block ?_
    refine cx_region ?_
    refine ox_y rfl (y_load1 0 (v := .slice A1_s6 s6.length c1_s6) sc_53 rfl rfl rfl) ?_
    refine ox_y rfl (y_loadN 4 [.int .i64 x7.x0, .int .i64 x7.x1, .int .i64 x7.x2] ag_43 rfl rfl rfl) ?_
    refine ox_buildSliceE 1 (encL TKinds_cells [x7]) _ mc_43_1 us_53 ze_43 by_43 (by decide) (by decide) (by kernel_rfl) (encL_len TKinds_cells_len rfl) rfl (fun b10 => ?_)
    try dsimp only [List.nil_append, List.cons_append, List.set_cons_zero, List.set_cons_succ]
    obtain ⟨hg13, h⟩ := guardO_some h
    refine ox_appendE 1 us_53 ze_43 by_43 rfl rfl rfl (Nat.lt_of_lt_of_le (Nat.lt_succ_self 0) (Nat.le_of_ble_eq_true rfl)) (RdL.row 5 rfl) (encL_len TKinds_cells_len rfl) (encL_one TKinds_cells_one _) (app_room hg13 (by decide)) rfl (fun A11 c12 => ?_)
    refine ox_n rfl (y_store1 0 (v := .slice A11 (s6.length + 1) c12) sz_53 rfl (Nat.lt_of_lt_of_le (Nat.lt_succ_self _) (Nat.le_of_ble_eq_true rfl)) rfl rfl rfl) ?_
    refine ox_nil ?_
    refine ex_block ?_
    refine ex_take 4 ?_
    obtain rfl := Option.some.inj h
    exact ex_rnext [cellsR b1 53 [.slice A11 (s6.length + 1) c12], rowR A11 c12 43 3 (s6.length + 1) (encL TKinds_cells (s6 ++ [x7]))] ⟨A11, c12, (s6.length + 1), (hn_app rfl rfl), rfl⟩
  · rintro D u16 L hst ⟨A1_u16, c1_u16, n1_u16, rfl, rfl⟩
    subst hst
    dsimp only at h
    refine ex_block ?_
    refine ex_then ?_
    refine cx_seq ?_
    refine cx_region ?_
    refine ox_y rfl (y_load1 0 (v := .slice A1_u16 u16.length c1_u16) sc_53 rfl rfl rfl) ?_
    refine ox_y rfl (y_assign_slice rfl) ?_
    refine ox_nil ?_
    refine ex_then ?_
    refine cx_ret ?_
    refine ex_M1 2 rfl (.inl rfl) ?_
    obtain rfl := Option.some.inj h
    exact ex_res1 (.inl rfl) rfl (resV_tmp (v := .slice A1_u16 u16.length c1_u16) rfl) (fun W2 hW2 => ⟨(A1_u16, u16.length, c1_u16), rfl, rfl, (hW2.pick 1 rfl)⟩)
  · intro D t e L _ hh
    exact hh.elim

/-! slices.Collect[calx/api.Kinds] -/
set_option maxRecDepth 100000 in
theorem slices_Collect_calx_api_Kinds_ok (p0_seq : TBatch) (res : (List TKinds)) (h : slices_Collect_calx_api_Kinds p0_seq = some res) (W : World) (bl0 : Nat) (bb0 : Nat) (hsbl0 : W.heap[bl0]? = some (.cells #[.func (.func 124) #[] #[.pointer (some ⟨bb0, 0, none⟩)]] 136 (0, 0))) (hsbb0 : W.heap[bb0]? = some (.cells (TBatch_cells p0_seq).toArray 52 (0, 0))) :
    Calls Try.prog 98 [.func (.func 125) #[] #[.pointer (some ⟨bl0, 0, none⟩), .pointer (some ⟨bb0, 0, none⟩)]].toArray W fun e W2 => ∃ x : Option Addr × Nat × Nat, x.2.1 = res.length ∧ e = .returned (.slice x.1 x.2.1 x.2.2) ∧ Ext W W2 [rowR x.1 x.2.2 43 3 x.2.1 (encL TKinds_cells res)] := by
  unfold slices_Collect_calx_api_Kinds at h
  refine calls_enter (m := 5) Try.func98 rfl rfl (Nat.le_of_ble_eq_true rfl) ?_
  refine cx_seq ?_
  refine cx_region ?_
  refine ox_y rfl (y_assign_slice rfl) ?_
  refine ox_nil ?_
  refine ex_then ?_
  refine cx_seq ?_
  refine cx_region ?_
  refine ox_y rfl (y_move_func rfl) ?_
  obtain ⟨y1, hy2, h⟩ := bind_some h
  refine ox_call [.slice none 0 0, .func (.func 125) #[] #[.pointer (some ⟨bl0, 0, none⟩), .pointer (some ⟨bb0, 0, none⟩)]] _ _ _ rfl go_123 rfl (fun W2 hW2 => slices_AppendSeq_calx_api_Kinds_calx_api_Kinds_ok p0_seq y1 hy2 W2 bl0 bb0 ((hW2.below.block _ (lt_of_block hsbl0)).trans hsbl0) ((hW2.below.block _ (lt_of_block hsbb0)).trans hsbb0)) ?_
  rintro ⟨A3, n5, c4⟩ hn6
  replace hn6 : n5 = y1.length := hn6; subst hn6
  refine ox_y rfl (y_assign_slice rfl) ?_
  refine ox_nil ?_
  refine ex_then ?_
  refine cx_ret ?_
  obtain rfl := Option.some.inj h
  exact ex_res1 (.inl rfl) rfl (resV_tmp (v := .slice A3 y1.length c4) rfl) (fun W2 hW2 => ⟨(A3, y1.length, c4), rfl, rfl, (hW2.pick 0 rfl)⟩)

/-! calx/sample.Wholes -/
set_option maxRecDepth 100000 in
theorem sample_Wholes_ok (p0_b : TBatch) (res : ((List TKinds) × Int)) (h : sample_Wholes p0_b = some res) (W : World)  :
    Calls Try.prog 34 [.agg #[.int .i64 p0_b.fBarrows, .int .i64 p0_b.fSeen.x0, .int .i64 p0_b.fSeen.x1, .int .i64 p0_b.fSeen.x2, .int .i64 p0_b.fKnown.x0.fLo, .int .i64 p0_b.fKnown.x0.fHi, .int .i64 p0_b.fKnown.x1.fLo, .int .i64 p0_b.fKnown.x1.fHi, .int .i64 p0_b.fKnown.x2.fLo, .int .i64 p0_b.fKnown.x2.fHi]].toArray W fun e W2 => ∃ x : Option Addr × Nat × Nat, x.2.1 = res.1.length ∧ e = .returned (.tuple #[.slice x.1 x.2.1 x.2.2, .int .i64 res.2]) ∧ Ext W W2 [rowR x.1 x.2.2 43 3 x.2.1 (encL TKinds_cells res.1)] := by
  unfold sample_Wholes at h
  refine calls_enter (m := 13) Try.func34 rfl rfl (Nat.le_of_ble_eq_true rfl) ?_
  refine cx_seq ?_
  refine cx_region ?_
  refine ox_box [.int .i64 p0_b.fBarrows, .int .i64 p0_b.fSeen.x0, .int .i64 p0_b.fSeen.x1, .int .i64 p0_b.fSeen.x2, .int .i64 p0_b.fKnown.x0.fLo, .int .i64 p0_b.fKnown.x0.fHi, .int .i64 p0_b.fKnown.x1.fLo, .int .i64 p0_b.fKnown.x1.fHi, .int .i64 p0_b.fKnown.x2.fLo, .int .i64 p0_b.fKnown.x2.fHi] rfl rfl rfl (fun b1 => ?_)
  refine ox_y rfl (y_assign_slice rfl) ?_
  refine ox_y rfl (y_assign_int rfl) ?_
  refine ox_nil ?_
  refine ex_then ?_
  refine cx_seq ?_
  refine cx_seq ?_
  refine cx_region ?_
  refine ox_y rfl (y_loadN 0 [.int .i64 p0_b.fBarrows, .int .i64 p0_b.fSeen.x0, .int .i64 p0_b.fSeen.x1, .int .i64 p0_b.fSeen.x2, .int .i64 p0_b.fKnown.x0.fLo, .int .i64 p0_b.fKnown.x0.fHi, .int .i64 p0_b.fKnown.x1.fLo, .int .i64 p0_b.fKnown.x1.fHi, .int .i64 p0_b.fKnown.x2.fLo, .int .i64 p0_b.fKnown.x2.fHi] ag_52 rfl rfl rfl) ?_
  obtain ⟨y2, hy3, h⟩ := bind_some h
  refine ox_y rfl (y_call [.agg #[.int .i64 p0_b.fBarrows, .int .i64 p0_b.fSeen.x0, .int .i64 p0_b.fSeen.x1, .int .i64 p0_b.fSeen.x2, .int .i64 p0_b.fKnown.x0.fLo, .int .i64 p0_b.fKnown.x0.fHi, .int .i64 p0_b.fKnown.x1.fLo, .int .i64 p0_b.fKnown.x1.fHi, .int .i64 p0_b.fKnown.x2.fLo, .int .i64 p0_b.fKnown.x2.fHi]] go_39 rfl (fun W2 hW2 => sample_Check_ok p0_b y2 hy3 W2 ) rfl) ?_
  refine ox_y rfl (y_assign_int rfl) ?_
  refine ox_nil ?_
  refine ex_then ?_
  refine cx_seq ?_
  refine cx_region ?_
  refine ox_y rfl (y_move_int rfl) ?_
  refine ox_y rfl (y_neq rfl rfl) ?_
  refine ox_nil ?_
  refine ex_then ?_
  rcases ite_some h with ⟨hp4, h⟩ | ⟨hp4, h⟩
  · refine cx_true (congrArg Value.bool hp4) ?_
    refine cx_seq ?_
    refine cx_region ?_
    refine ox_y rfl (y_move_int rfl) ?_
    refine ox_y rfl (y_assign_slice rfl) ?_
    refine ox_y rfl (y_assign_int rfl) ?_
    refine ox_nil ?_
    refine ex_then ?_
    refine cx_ret ?_
    refine ex_then_ret ?_
    obtain rfl := Option.some.inj h
    exact ex_res2 (.inl rfl) rfl (resV_tmp (v := .slice none 0 0) rfl) (resV_tmp (v := .int .i64 y2) rfl) (fun W2 hW2 => ⟨(none, 0, 0), rfl, rfl, ((hW2.nilrow 43 3).pick 1 rfl)⟩)
  · refine cx_false (congrArg Value.bool hp4) ?_
    refine cx_skip ?_
    refine ex_then ?_
    refine cx_seq ?_
    refine cx_region ?_
    refine ox_y rfl (y_loadN 0 [.int .i64 p0_b.fBarrows, .int .i64 p0_b.fSeen.x0, .int .i64 p0_b.fSeen.x1, .int .i64 p0_b.fSeen.x2, .int .i64 p0_b.fKnown.x0.fLo, .int .i64 p0_b.fKnown.x0.fHi, .int .i64 p0_b.fKnown.x1.fLo, .int .i64 p0_b.fKnown.x1.fHi, .int .i64 p0_b.fKnown.x2.fLo, .int .i64 p0_b.fKnown.x2.fHi] ag_52 rfl rfl rfl) ?_
    obtain ⟨y5, hy6, h⟩ := bind_some h
    refine ox_call1 [.agg #[.int .i64 p0_b.fBarrows, .int .i64 p0_b.fSeen.x0, .int .i64 p0_b.fSeen.x1, .int .i64 p0_b.fSeen.x2, .int .i64 p0_b.fKnown.x0.fLo, .int .i64 p0_b.fKnown.x0.fHi, .int .i64 p0_b.fKnown.x1.fLo, .int .i64 p0_b.fKnown.x1.fHi, .int .i64 p0_b.fKnown.x2.fLo, .int .i64 p0_b.fKnown.x2.fHi]] _ _ rfl go_99 rfl (fun W2 hW2 => sample_wholes_ok p0_b y5 hy6 W2 ) ?_
    rintro ⟨b7, b8⟩
    obtain ⟨y9, hy10, h⟩ := bind_some h
    refine ox_call [.func (.func 125) #[] #[.pointer (some ⟨b8, 0, none⟩), .pointer (some ⟨b7, 0, none⟩)]] _ _ _ rfl go_98 rfl (fun W2 hW2 => slices_Collect_calx_api_Kinds_ok y5 y9 hy10 W2 b8 b7 (hW2.mem (i := 2) rfl) (hW2.mem (i := 1) rfl)) ?_
    rintro ⟨A11, n13, c12⟩ hn14
    replace hn14 : n13 = y9.length := hn14; subst hn14
    refine ox_y rfl (y_assign_slice rfl) ?_
    refine ox_y rfl (y_assign_int rfl) ?_
    refine ox_nil ?_
    refine ex_then ?_
    refine cx_ret ?_
    obtain rfl := Option.some.inj h
    exact ex_res2 (.inl rfl) rfl (resV_tmp (v := .slice A11 y9.length c12) rfl) (resV_tmp (v := .int .i64 0) rfl) (fun W2 hW2 => ⟨(A11, y9.length, c12), rfl, rfl, (hW2.pick 3 rfl)⟩)

/-! calx/calxref03.SameKinds -/
set_option maxRecDepth 100000 in
theorem calxref03_SameKinds_ok (p0_a : (List TKinds)) (p1_b : (List TKinds)) (res : Bool) (h : calxref03_SameKinds p0_a p1_b = some res) (W : World) (A0_0 : Option Addr) (n0_0 c0_0 : Nat) (hn0_0 : n0_0 = p0_a.length) (hr0_0 : Rd W A0_0 n0_0 c0_0 (encL TKinds_cells p0_a)) (A1_0 : Option Addr) (n1_0 c1_0 : Nat) (hn1_0 : n1_0 = p1_b.length) (hr1_0 : Rd W A1_0 n1_0 c1_0 (encL TKinds_cells p1_b)) :
    Calls Try.prog 38 [.slice A0_0 n0_0 c0_0, .slice A1_0 n1_0 c1_0].toArray W fun e W2 => e = .returned (.bool res) ∧ Ext W W2 [] := by
  subst hn0_0
  subst hn1_0
  unfold calxref03_SameKinds at h
  refine calls_enter (m := 26) Try.func38 rfl rfl (Nat.le_of_ble_eq_true rfl) ?_
  refine cx_seq ?_
  refine cx_region ?_
  refine ox_y rfl (y_assign_bool rfl) ?_
  refine ox_nil ?_
  refine ex_then ?_
  refine cx_seq ?_
  refine cx_seq ?_
  refine cx_region ?_
  refine ox_y rfl (y_move_slice rfl) ?_
  refine ox_y rfl (y_len (us := []) us_53 rfl) ?_
  refine ox_y rfl (y_move_slice rfl) ?_
  refine ox_y rfl (y_len (us := []) us_53 rfl) ?_
  refine ox_y rfl (y_neq rfl rfl) ?_
  refine ox_nil ?_
  refine ex_then ?_
  rcases ite_some h with ⟨hp1, h⟩ | ⟨hp1, h⟩
  · refine cx_true (congrArg Value.bool hp1) ?_
    refine cx_seq ?_
    refine cx_region ?_
    refine ox_y rfl (y_assign_bool rfl) ?_
    refine ox_nil ?_
    refine ex_then ?_
    refine cx_ret ?_
    refine ex_then_ret ?_
    obtain rfl := Option.some.inj h
    exact ex_res1 (.inl rfl) rfl (resV_tmp (v := .bool false) rfl) (fun W2 hW2 => ⟨rfl, hW2.none⟩)
  · refine cx_false (congrArg Value.bool hp1) ?_
    refine cx_skip ?_
    refine ex_then ?_
    refine cx_seq ?_
    refine cx_seq ?_
    refine cx_region ?_
    refine ox_y rfl (y_assign_int rfl) ?_
    refine ox_nil ?_
    refine ex_then ?_
    refine cx_block ?_
    obtain ⟨u4, hl9, h⟩ := bind_some h
    refine cx_loop (fun (s : (Bool × Int)) L tm => ∃ (tm0 : Nat → Value), L = [] ∧ tm = (upd (upd (upd (upd (upd tm0 0 (.slice A0_0 p0_a.length c0_0)) 1 (.slice A1_0 p1_b.length c1_0)) 4 (.bool s.1)) 10 (.bool (((p0_a.length : Nat) : Int) != ((p1_b.length : Nat) : Int)))) 5 (.int .i64 s.2))) (fun | (.inl s), e, L, tm => e = .ret ∧ ∃ (tm0 : Nat → Value), L = [] ∧ tm = (upd (upd (upd (upd (upd tm0 0 (.slice A0_0 p0_a.length c0_0)) 1 (.slice A1_0 p1_b.length c1_0)) 4 (.bool s.1)) 10 (.bool (((p0_a.length : Nat) : Int) != ((p1_b.length : Nat) : Int)))) 5 (.int .i64 s.2)) | (.inr s), e, L, tm => e = .exit 0 ∧ ∃ (tm0 : Nat → Value), L = [] ∧ tm = (upd (upd (upd (upd (upd tm0 0 (.slice A0_0 p0_a.length c0_0)) 1 (.slice A1_0 p1_b.length c1_0)) 4 (.bool s.1)) 10 (.bool (((p0_a.length : Nat) : Int) != ((p1_b.length : Nat) : Int)))) 5 (.int .i64 s.2))) hl9 ⟨_, rfl, (keep (keep (keep (keep (keep rfl rfl) rfl) rfl) rfl) rfl)⟩ ?_ ?_
    · rintro s3 L tm st ⟨tm0_s3, rfl, rfl⟩ h
      unfold calxref03_SameKinds_l1 at h
      refine cx_seq ?_
      refine cx_seq ?_
      refine cx_region ?_
      refine ox_y rfl (y_move_int rfl) ?_
      refine ox_y rfl (y_move_slice rfl) ?_
      refine ox_y rfl (y_len (us := []) us_53 rfl) ?_
      refine ox_y rfl (y_lss rfl rfl) ?_
      refine ox_nil ?_
      refine ex_then ?_
      rcases ite_some h with ⟨hp5, h⟩ | ⟨hp5, h⟩
      · refine cx_true (congrArg Value.bool hp5) ?_
        refine cx_skip ?_
        refine ex_then ?_
        refine cx_seq ?_
        refine cx_block ?_
        refine cx_seq ?_
        refine cx_draws 9 mixed (by kernel_rfl) (by kernel_rfl) ?_
        refine qx_y rfl (y_move_slice rfl) ?_
        refine qx_y rfl (y_move_int rfl) ?_
        obtain ⟨hg6, h⟩ := guardO_some h
        refine qx_y rfl (y_indexR sl_53 (by decide) hg6.1 hg6.2 (RdL.arg hr0_0) (encL_len TKinds_cells_len rfl) rfl rfl) ?_
        refine qx_y rfl (y_loadRN (A := A0_0) (j := (Int.toNat s3.2 * 3)) [.int .i64 ((rdL p0_a s3.2).x0), .int .i64 ((rdL p0_a s3.2).x1), .int .i64 ((rdL p0_a s3.2).x2)] ag_43 (Nat.succ_pos _) (RdL.arg hr0_0) rfl (encL_gets TKinds_cells_len hg6.1 (lt_nat hg6.2 rfl))) ?_
        refine qx_y rfl (y_move_slice rfl) ?_
        refine qx_y rfl (y_move_int rfl) ?_
        obtain ⟨hg7, h⟩ := guardO_some h
        refine qx_y rfl (y_indexR sl_53 (by decide) hg7.1 hg7.2 (RdL.arg hr1_0) (encL_len TKinds_cells_len rfl) rfl rfl) ?_
        refine qx_y rfl (y_loadRN (A := A1_0) (j := (Int.toNat s3.2 * 3)) [.int .i64 ((rdL p1_b s3.2).x0), .int .i64 ((rdL p1_b s3.2).x1), .int .i64 ((rdL p1_b s3.2).x2)] ag_43 (Nat.succ_pos _) (RdL.arg hr1_0) rfl (encL_gets TKinds_cells_len hg7.1 (lt_nat hg7.2 rfl))) ?_
        refine qx_y rfl (y_neqa (b := (((rdL p0_a s3.2).x0 == (rdL p1_b s3.2).x0) && ((rdL p0_a s3.2).x1 == (rdL p1_b s3.2).x1) && ((rdL p0_a s3.2).x2 == (rdL p1_b s3.2).x2))) eg_43 rfl rfl (fun _ => (eqA3 ua_43 sz_3 (part1 sc_3 rfl) (part1 sc_3 rfl) (part1 sc_3 rfl) (part1 sc_3 rfl) (part1 sc_3 rfl) (part1 sc_3 rfl) (run_equalIn_int _ _ _ _ _ _ _ ui_3) (run_equalIn_int _ _ _ _ _ _ _ ui_3) (run_equalIn_int _ _ _ _ _ _ _ ui_3)))) ?_
        refine qx_nil ?_
        refine ox_nil ?_
        refine ex_then ?_
        rcases ite_some h with ⟨hp8, h⟩ | ⟨hp8, h⟩
        · refine cx_true (congrArg Value.bool hp8) ?_
          refine cx_seq ?_
          refine cx_region ?_
          refine ox_y rfl (y_assign_bool rfl) ?_
          refine ox_nil ?_
          refine ex_then ?_
          refine cx_ret ?_
          refine ex_block_ret ?_
          refine ex_then_ret ?_
          obtain rfl := Option.some.inj h
          exact ex_stop ⟨rfl, _, rfl, (keep (keep (keep (keep (keep rfl rfl) rfl) rfl) rfl) rfl)⟩
        · refine cx_false (congrArg Value.bool hp8) ?_
          refine cx_skip ?_
          refine ex_block ?_
          refine ex_then ?_
          refine cx_region ?_
          refine ox_y rfl (y_move_int rfl) ?_
          refine ox_y rfl (y_add rfl rfl) ?_
          refine ox_y rfl (y_assign_int rfl) ?_
          refine ox_nil ?_
          obtain rfl := Option.some.inj h
          exact ex_next ⟨_, rfl, (keep (keep (keep (keep (keep rfl rfl) rfl) rfl) rfl) rfl)⟩
      · refine cx_false (congrArg Value.bool hp5) ?_
        refine cx_exit ?_
        refine ex_then_exit ?_
        obtain rfl := Option.some.inj h
        exact ex_stop ⟨rfl, _, rfl, (keep (keep (keep (keep (keep rfl rfl) rfl) rfl) rfl) rfl)⟩
    · intro e L tm hJ
      rcases u4 with u10 | u11
      · dsimp only at h hJ
        obtain ⟨rfl, tm0_u10, rfl, rfl⟩ := hJ
        refine ⟨(by intro hc; cases hc), ?_⟩
        refine ex_block_ret ?_
        refine ex_then_ret ?_
        obtain rfl := Option.some.inj h
        exact ex_res1 (.inl rfl) rfl (resV_tmp (v := .bool u10.1) rfl) (fun W2 hW2 => ⟨rfl, hW2.none⟩)
      · dsimp only at h hJ
        obtain ⟨rfl, tm0_u11, rfl, rfl⟩ := hJ
        refine ⟨(by intro hc; cases hc), ?_⟩
        refine ex_block_here ?_
        refine ex_then ?_
        refine cx_seq ?_
        refine cx_region ?_
        refine ox_y rfl (y_assign_bool rfl) ?_
        refine ox_nil ?_
        refine ex_then ?_
        refine cx_ret ?_
        obtain rfl := Option.some.inj h
        exact ex_res1 (.inl rfl) rfl (resV_tmp (v := .bool true) rfl) (fun W2 hW2 => ⟨rfl, hW2.none⟩)

/-! calx/sample.sorted -/
set_option maxRecDepth 100000 in
theorem sample_sorted_ok (p0_b : TBatch) (p1_sort : Int) (res : Int) (h : sample_sorted p0_b p1_sort = some res) (W : World)  :
    Calls Try.prog 101 [.agg #[.int .i64 p0_b.fBarrows, .int .i64 p0_b.fSeen.x0, .int .i64 p0_b.fSeen.x1, .int .i64 p0_b.fSeen.x2, .int .i64 p0_b.fKnown.x0.fLo, .int .i64 p0_b.fKnown.x0.fHi, .int .i64 p0_b.fKnown.x1.fLo, .int .i64 p0_b.fKnown.x1.fHi, .int .i64 p0_b.fKnown.x2.fLo, .int .i64 p0_b.fKnown.x2.fHi], .int .i64 p1_sort].toArray W fun e W2 => e = .returned (.int .i64 res) ∧ Ext W W2 [] := by
  unfold sample_sorted at h
  refine calls_enter (m := 14) Try.func101 rfl rfl (Nat.le_of_ble_eq_true rfl) ?_
  refine cx_seq ?_
  refine cx_region ?_
  refine ox_box [.int .i64 p0_b.fBarrows, .int .i64 p0_b.fSeen.x0, .int .i64 p0_b.fSeen.x1, .int .i64 p0_b.fSeen.x2, .int .i64 p0_b.fKnown.x0.fLo, .int .i64 p0_b.fKnown.x0.fHi, .int .i64 p0_b.fKnown.x1.fLo, .int .i64 p0_b.fKnown.x1.fHi, .int .i64 p0_b.fKnown.x2.fLo, .int .i64 p0_b.fKnown.x2.fHi] rfl rfl rfl (fun b1 => ?_)
  refine ox_y rfl (y_assign_int rfl) ?_
  refine ox_nil ?_
  refine ex_then ?_
  refine cx_seq ?_
  refine cx_seq ?_
  refine cx_region ?_
  refine ox_y rfl (y_loadN 0 [.int .i64 p0_b.fBarrows, .int .i64 p0_b.fSeen.x0, .int .i64 p0_b.fSeen.x1, .int .i64 p0_b.fSeen.x2, .int .i64 p0_b.fKnown.x0.fLo, .int .i64 p0_b.fKnown.x0.fHi, .int .i64 p0_b.fKnown.x1.fLo, .int .i64 p0_b.fKnown.x1.fHi, .int .i64 p0_b.fKnown.x2.fLo, .int .i64 p0_b.fKnown.x2.fHi] ag_52 rfl rfl rfl) ?_
  obtain ⟨y2, hy3, h⟩ := bind_some h
  refine ox_y rfl (y_call [.agg #[.int .i64 p0_b.fBarrows, .int .i64 p0_b.fSeen.x0, .int .i64 p0_b.fSeen.x1, .int .i64 p0_b.fSeen.x2, .int .i64 p0_b.fKnown.x0.fLo, .int .i64 p0_b.fKnown.x0.fHi, .int .i64 p0_b.fKnown.x1.fLo, .int .i64 p0_b.fKnown.x1.fHi, .int .i64 p0_b.fKnown.x2.fLo, .int .i64 p0_b.fKnown.x2.fHi]] go_39 rfl (fun W2 hW2 => sample_Check_ok p0_b y2 hy3 W2 ) rfl) ?_
  refine ox_y rfl (y_assign_int rfl) ?_
  refine ox_nil ?_
  refine ex_then ?_
  refine cx_seq ?_
  refine cx_region ?_
  refine ox_y rfl (y_move_int rfl) ?_
  refine ox_y rfl (y_neq rfl rfl) ?_
  refine ox_nil ?_
  refine ex_then ?_
  rcases ite_some h with ⟨hp4, h⟩ | ⟨hp4, h⟩
  · refine cx_true (congrArg Value.bool hp4) ?_
    refine cx_seq ?_
    refine cx_region ?_
    refine ox_y rfl (y_move_int rfl) ?_
    refine ox_y rfl (y_assign_int rfl) ?_
    refine ox_nil ?_
    refine ex_then ?_
    refine cx_ret ?_
    refine ex_then_ret ?_
    obtain rfl := Option.some.inj h
    exact ex_res1 (.inl rfl) rfl (resV_tmp (v := .int .i64 y2) rfl) (fun W2 hW2 => ⟨rfl, hW2.none⟩)
  · refine cx_false (congrArg Value.bool hp4) ?_
    refine cx_skip ?_
    refine ex_then ?_
    refine cx_seq ?_
    refine cx_seq ?_
    refine cx_region ?_
    refine ox_y rfl (y_move_int rfl) ?_
    obtain ⟨y5, hy6, h⟩ := bind_some h
    refine ox_y rfl (y_call [.int .i64 p1_sort] go_83 rfl (fun W2 hW2 => sample_isSort_ok p1_sort y5 hy6 W2 ) rfl) ?_
    refine ox_y rfl (y_not rfl) ?_
    refine ox_nil ?_
    refine ex_then ?_
    rcases ite_some h with ⟨hp7, h⟩ | ⟨hp7, h⟩
    · refine cx_true (congrArg Value.bool hp7) ?_
      refine cx_seq ?_
      refine cx_region ?_
      refine ox_y rfl (y_assign_int rfl) ?_
      refine ox_nil ?_
      refine ex_then ?_
      refine cx_ret ?_
      refine ex_then_ret ?_
      obtain rfl := Option.some.inj h
      exact ex_res1 (.inl rfl) rfl (resV_tmp (v := .int .i64 1) rfl) (fun W2 hW2 => ⟨rfl, hW2.none⟩)
    · refine cx_false (congrArg Value.bool hp7) ?_
      refine cx_skip ?_
      refine ex_then ?_
      refine cx_seq ?_
      refine cx_region ?_
      refine ox_y rfl (y_assign_int rfl) ?_
      refine ox_nil ?_
      refine ex_then ?_
      refine cx_ret ?_
      obtain rfl := Option.some.inj h
      exact ex_res1 (.inl rfl) rfl (resV_tmp (v := .int .i64 0) rfl) (fun W2 hW2 => ⟨rfl, hW2.none⟩)

/-! calx/sample.weights -/
set_option maxRecDepth 100000 in
theorem sample_weights_ok (p0_b : TBatch) (p1_sort : Int) (res : (List Int)) (h : sample_weights p0_b p1_sort = some res) (W : World)  :
    Calls Try.prog 104 [.agg #[.int .i64 p0_b.fBarrows, .int .i64 p0_b.fSeen.x0, .int .i64 p0_b.fSeen.x1, .int .i64 p0_b.fSeen.x2, .int .i64 p0_b.fKnown.x0.fLo, .int .i64 p0_b.fKnown.x0.fHi, .int .i64 p0_b.fKnown.x1.fLo, .int .i64 p0_b.fKnown.x1.fHi, .int .i64 p0_b.fKnown.x2.fLo, .int .i64 p0_b.fKnown.x2.fHi], .int .i64 p1_sort].toArray W fun e W2 => ∃ x : Option Addr × Nat × Nat, x.2.1 = res.length ∧ e = .returned (.slice x.1 x.2.1 x.2.2) ∧ Ext W W2 [rowR x.1 x.2.2 3 1 x.2.1 (encL cI res)] := by
  unfold sample_weights at h
  refine calls_enterM (m := 40) Try.func104 rfl rfl (Nat.le_of_ble_eq_true rfl) ?_
  refine cx_seq ?_
  refine cx_region ?_
  refine ox_box [.int .i64 p0_b.fBarrows, .int .i64 p0_b.fSeen.x0, .int .i64 p0_b.fSeen.x1, .int .i64 p0_b.fSeen.x2, .int .i64 p0_b.fKnown.x0.fLo, .int .i64 p0_b.fKnown.x0.fHi, .int .i64 p0_b.fKnown.x1.fLo, .int .i64 p0_b.fKnown.x1.fHi, .int .i64 p0_b.fKnown.x2.fLo, .int .i64 p0_b.fKnown.x2.fHi] rfl rfl rfl (fun b1 => ?_)
  refine ox_box [.int .i64 p1_sort] rfl rfl rfl (fun b2 => ?_)
  refine ox_y rfl (y_assign_slice rfl) ?_
  refine ox_nil ?_
  refine ex_then ?_
  refine cx_seq ?_
  refine cx_region ?_
  refine ox_makeMap 3 3 rfl (fun b3 => ?_)
  refine ox_alloc ze_152 rfl (fun b4 => ?_)
  refine ox_n rfl (y_store1 3 (v := .map (some b3)) sz_152 rfl (Nat.lt_of_lt_of_le (Nat.lt_succ_self _) (Nat.le_of_ble_eq_true rfl)) rfl rfl rfl) ?_
  refine ox_nil ?_
  refine ex_then ?_
  refine cx_seq ?_
  refine cx_seq ?_
  refine cx_region ?_
  refine ox_y rfl (y_loadN 0 [.int .i64 p0_b.fBarrows, .int .i64 p0_b.fSeen.x0, .int .i64 p0_b.fSeen.x1, .int .i64 p0_b.fSeen.x2, .int .i64 p0_b.fKnown.x0.fLo, .int .i64 p0_b.fKnown.x0.fHi, .int .i64 p0_b.fKnown.x1.fLo, .int .i64 p0_b.fKnown.x1.fHi, .int .i64 p0_b.fKnown.x2.fLo, .int .i64 p0_b.fKnown.x2.fHi] ag_52 rfl rfl rfl) ?_
  obtain ⟨y5, hy6, h⟩ := bind_some h
  refine ox_call1 [.agg #[.int .i64 p0_b.fBarrows, .int .i64 p0_b.fSeen.x0, .int .i64 p0_b.fSeen.x1, .int .i64 p0_b.fSeen.x2, .int .i64 p0_b.fKnown.x0.fLo, .int .i64 p0_b.fKnown.x0.fHi, .int .i64 p0_b.fKnown.x1.fLo, .int .i64 p0_b.fKnown.x1.fHi, .int .i64 p0_b.fKnown.x2.fLo, .int .i64 p0_b.fKnown.x2.fHi]] _ _ rfl go_99 rfl (fun W2 hW2 => sample_wholes_ok p0_b y5 hy6 W2 ) ?_
  rintro ⟨b7, b8⟩
  try dsimp only [List.nil_append, List.cons_append, List.set_cons_zero, List.set_cons_succ]
  refine ox_nil ?_
  refine ex_then ?_
  refine cx_block ?_
  obtain ⟨hok23, h⟩ := guardO_some h
  obtain ⟨u15, hl22, h⟩ := bind_some h
  refine cx_range (enc := fun x : TKinds => .agg #[.int .i64 x.x0, .int .i64 x.x1, .int .i64 x.x2]) (bs := [b8, b7]) (caps := [.pointer (some ⟨b8, 0, none⟩), .pointer (some ⟨b7, 0, none⟩)]) (fun (s : (List (Int × Int))) L => L = [cellsR b1 52 [.int .i64 p0_b.fBarrows, .int .i64 p0_b.fSeen.x0, .int .i64 p0_b.fSeen.x1, .int .i64 p0_b.fSeen.x2, .int .i64 p0_b.fKnown.x0.fLo, .int .i64 p0_b.fKnown.x0.fHi, .int .i64 p0_b.fKnown.x1.fLo, .int .i64 p0_b.fKnown.x1.fHi, .int .i64 p0_b.fKnown.x2.fLo, .int .i64 p0_b.fKnown.x2.fHi], cellsR b2 3 [.int .i64 p1_sort], mapR Try.prog 3 3 b3 s, cellsR b4 152 [.map (some b3)], cellsR b7 52 [.int .i64 y5.fBarrows, .int .i64 y5.fSeen.x0, .int .i64 y5.fSeen.x1, .int .i64 y5.fSeen.x2, .int .i64 y5.fKnown.x0.fLo, .int .i64 y5.fKnown.x0.fHi, .int .i64 y5.fKnown.x1.fLo, .int .i64 y5.fKnown.x1.fHi, .int .i64 y5.fKnown.x2.fLo, .int .i64 y5.fKnown.x2.fHi], cellsR b8 136 [.func (.func 124) #[] #[.pointer (some ⟨b7, 0, none⟩)]]]) (fun (_ : Unit) _ _ => False) hl22 rfl go_125 (fun W2 hW2 => sample_wholes_2_seq y5 hok23 W2 b8 b7 (hW2.mem (i := 5) rfl) (hW2.mem (i := 4) rfl)) (by intro b hb; simp only [List.mem_cons, List.not_mem_nil, or_false] at hb; rcases hb with rfl | rfl; all_goals first | exact .inr ⟨_, fun s L hI => by obtain rfl := hI; exact ⟨5, rfl⟩⟩ | exact .inr ⟨_, fun s L hI => by obtain rfl := hI; exact ⟨4, rfl⟩⟩) rfl (fun W2 hW2 s L hI => by obtain rfl := hI; exact (.cons Cy.cells (.cons Cy.cells (.cons (Cy.map (Res.inb (mapR Try.prog 3 3 b3 _) W2 (hW2.mem (i := 2) rfl) _ rfl)) (.cons Cy.cells (.cons Cy.cells (.cons Cy.cells CyL.nil))))))) (fun _ _ _ _ _ h => h.elim) (fun _ _ _ h => h.elim) ?_ ?_ ?_
  · rintro D l rec s13 x14 L st hrec rfl h
    unfold sample_weights_r1 at h
    refine cx_region ?_
    try dsimp only [List.nil_append, List.cons_append, List.set_cons_zero, List.set_cons_succ]
    refine ox_alloc ze_43 rfl (fun b16 => ?_)
    try dsimp only [List.nil_append, List.cons_append, List.set_cons_zero, List.set_cons_succ]
    refine ox_n rfl (y_storeN 8 [.int .i64 x14.x0, .int .i64 x14.x1, .int .i64 x14.x2] sz_43 rfl (Nat.le_of_ble_eq_true rfl) rfl rfl rfl) ?_
    refine ox_nil ?_
    refine ex_begin 7 rfl hrec ?_
    refine cx_block ?_
    refine cx_draws 10 mixed (by kernel_rfl) (by kernel_rfl) ?_
    refine qx_y rfl (y_load1 3 (v := .map (some b3)) sc_152 rfl rfl rfl) ?_
    refine qx_y rfl (y_load1 1 (v := .int .i64 p1_sort) sc_3 rfl rfl rfl) ?_
    obtain ⟨hg17, h⟩ := guardO_some h
    refine qx_y rfl (y_indexArr ar_43 hg17.1 hg17.2 rfl rfl) ?_
    refine qx_y rfl (y_load1 8 (v := .int .i64 (sel3 x14.x0 x14.x1 x14.x2 p1_sort)) sc_3 rfl rfl (by rcases in3 hg17 with e | e | e <;> rw [e] <;> rfl)) ?_
    obtain ⟨hg18, h⟩ := guardO_some h
    refine qx_y rfl (y_lookup 2 um_152 ui_3 ui_3 ze_3 rfl rfl rfl hg18) ?_
    refine qx_y rfl (y_loadN 8 [.int .i64 x14.x0, .int .i64 x14.x1, .int .i64 x14.x2] ag_43 rfl rfl rfl) ?_
    refine qx_y rfl (y_fieldAddr fo_52_1 rfl) ?_
    refine qx_y rfl (y_loadN 0 [.int .i64 p0_b.fSeen.x0, .int .i64 p0_b.fSeen.x1, .int .i64 p0_b.fSeen.x2] ag_43 rfl rfl rfl) ?_
    obtain ⟨y19, hy20, h⟩ := bind_some h
    refine qx_y rfl (y_call [.agg #[.int .i64 x14.x0, .int .i64 x14.x1, .int .i64 x14.x2], .agg #[.int .i64 p0_b.fSeen.x0, .int .i64 p0_b.fSeen.x1, .int .i64 p0_b.fSeen.x2]] go_90 rfl (fun W2 hW2 => sample_ways_ok x14 p0_b.fSeen y19 hy20 W2 ) rfl) ?_
    refine qx_y rfl (y_add rfl rfl) ?_
    refine qx_nil ?_
    obtain ⟨hg21, h⟩ := guardO_some h
    refine ox_n rfl (y_mapUpdate 2 (m := s13) um_152 ui_3 ui_3 rfl rfl rfl rfl hg21) ?_
    refine ox_nil ?_
    refine ex_block ?_
    refine ex_take 8 ?_
    obtain rfl := Option.some.inj h
    exact ex_rnext [cellsR b1 52 [.int .i64 p0_b.fBarrows, .int .i64 p0_b.fSeen.x0, .int .i64 p0_b.fSeen.x1, .int .i64 p0_b.fSeen.x2, .int .i64 p0_b.fKnown.x0.fLo, .int .i64 p0_b.fKnown.x0.fHi, .int .i64 p0_b.fKnown.x1.fLo, .int .i64 p0_b.fKnown.x1.fHi, .int .i64 p0_b.fKnown.x2.fLo, .int .i64 p0_b.fKnown.x2.fHi], cellsR b2 3 [.int .i64 p1_sort], mapR Try.prog 3 3 b3 ((sel3 x14.x0 x14.x1 x14.x2 p1_sort, w64 ((mget s13 (sel3 x14.x0 x14.x1 x14.x2 p1_sort)) + y19)) :: s13), cellsR b4 152 [.map (some b3)], cellsR b7 52 [.int .i64 y5.fBarrows, .int .i64 y5.fSeen.x0, .int .i64 y5.fSeen.x1, .int .i64 y5.fSeen.x2, .int .i64 y5.fKnown.x0.fLo, .int .i64 y5.fKnown.x0.fHi, .int .i64 y5.fKnown.x1.fLo, .int .i64 y5.fKnown.x1.fHi, .int .i64 y5.fKnown.x2.fLo, .int .i64 y5.fKnown.x2.fHi], cellsR b8 136 [.func (.func 124) #[] #[.pointer (some ⟨b7, 0, none⟩)]]] rfl
  · rintro D u24 L hst rfl
    subst hst
    dsimp only at h
    refine ex_block ?_
    refine ex_then ?_
    refine cx_seq ?_
    refine cx_region ?_
    try dsimp only [List.nil_append, List.cons_append, List.set_cons_zero, List.set_cons_succ]
    refine ox_y rfl (y_fieldAddr fo_52_0 rfl) ?_
    refine ox_y rfl (y_load1 0 (v := .int .i64 p0_b.fBarrows) sc_3 rfl rfl rfl) ?_
    refine ox_y rfl (y_add rfl rfl) ?_
    obtain ⟨hg26, h⟩ := guardO_some h
    refine ox_make (encL cI (List.replicate (Int.toNat (w64 (p0_b.fBarrows + 1))) 0)) us_66 ze_3 by_3 hg26.1 hg26.2 rfl (made_enc _ _ _ rfl rfl) rfl (fun b25 => ?_)
    try dsimp only [List.nil_append, List.cons_append, List.set_cons_zero, List.set_cons_succ]
    refine ox_y rfl (y_assign_slice rfl) ?_
    refine ox_nil ?_
    refine ex_then ?_
    refine cx_seq ?_
    refine cx_seq ?_
    refine cx_region ?_
    refine ox_y rfl (y_move_slice rfl) ?_
    refine ox_y rfl (y_len (us := []) us_66 rfl) ?_
    refine ox_y rfl (y_move_int rfl) ?_
    refine ox_nil ?_
    refine ex_then ?_
    refine cx_block ?_
    obtain ⟨u30, hl34, h⟩ := bind_some h
    refine cx_loop (fun (s : (Int × (List Int))) L tm => ∃ (tm0 : Nat → Value), Int.toNat (w64 (p0_b.fBarrows + 1)) = s.2.length ∧ L = [cellsR b1 52 [.int .i64 p0_b.fBarrows, .int .i64 p0_b.fSeen.x0, .int .i64 p0_b.fSeen.x1, .int .i64 p0_b.fSeen.x2, .int .i64 p0_b.fKnown.x0.fLo, .int .i64 p0_b.fKnown.x0.fHi, .int .i64 p0_b.fKnown.x1.fLo, .int .i64 p0_b.fKnown.x1.fHi, .int .i64 p0_b.fKnown.x2.fLo, .int .i64 p0_b.fKnown.x2.fHi], cellsR b2 3 [.int .i64 p1_sort], mapR Try.prog 3 3 b3 u24, cellsR b4 152 [.map (some b3)], cellsR b7 52 [.int .i64 y5.fBarrows, .int .i64 y5.fSeen.x0, .int .i64 y5.fSeen.x1, .int .i64 y5.fSeen.x2, .int .i64 y5.fKnown.x0.fLo, .int .i64 y5.fKnown.x0.fHi, .int .i64 y5.fKnown.x1.fLo, .int .i64 y5.fKnown.x1.fHi, .int .i64 y5.fKnown.x2.fLo, .int .i64 y5.fKnown.x2.fHi], cellsR b8 136 [.func (.func 124) #[] #[.pointer (some ⟨b7, 0, none⟩)]], dfR D, rowR (some ⟨b25, 0, none⟩) (Int.toNat (w64 (p0_b.fBarrows + 1))) 3 1 (Int.toNat (w64 (p0_b.fBarrows + 1))) (encL cI s.2)] ∧ tm = (upd (upd (upd (upd (upd (upd (upd (upd (upd (upd tm0 0 (.agg #[.int .i64 p0_b.fBarrows, .int .i64 p0_b.fSeen.x0, .int .i64 p0_b.fSeen.x1, .int .i64 p0_b.fSeen.x2, .int .i64 p0_b.fKnown.x0.fLo, .int .i64 p0_b.fKnown.x0.fHi, .int .i64 p0_b.fKnown.x1.fLo, .int .i64 p0_b.fKnown.x1.fHi, .int .i64 p0_b.fKnown.x2.fLo, .int .i64 p0_b.fKnown.x2.fHi])) 1 (.int .i64 p1_sort)) 2 (.pointer (some ⟨b1, 0, none⟩))) 3 (.pointer (some ⟨b2, 0, none⟩))) 4 (.slice none 0 0)) 5 (.pointer (some ⟨b4, 0, none⟩))) 11 (.func (.func 125) #[] #[.pointer (some ⟨b8, 0, none⟩), .pointer (some ⟨b7, 0, none⟩)])) 7 (.slice (some ⟨b25, 0, none⟩) (Int.toNat (w64 (p0_b.fBarrows + 1))) (Int.toNat (w64 (p0_b.fBarrows + 1))))) 28 (.int .i64 ((Int.toNat (w64 (p0_b.fBarrows + 1)) : Nat) : Int))) 29 (.int .i64 s.1))) (fun s e L tm => e = .exit 2 ∧ ∃ (tm0 : Nat → Value), Int.toNat (w64 (p0_b.fBarrows + 1)) = s.2.length ∧ L = [cellsR b1 52 [.int .i64 p0_b.fBarrows, .int .i64 p0_b.fSeen.x0, .int .i64 p0_b.fSeen.x1, .int .i64 p0_b.fSeen.x2, .int .i64 p0_b.fKnown.x0.fLo, .int .i64 p0_b.fKnown.x0.fHi, .int .i64 p0_b.fKnown.x1.fLo, .int .i64 p0_b.fKnown.x1.fHi, .int .i64 p0_b.fKnown.x2.fLo, .int .i64 p0_b.fKnown.x2.fHi], cellsR b2 3 [.int .i64 p1_sort], mapR Try.prog 3 3 b3 u24, cellsR b4 152 [.map (some b3)], cellsR b7 52 [.int .i64 y5.fBarrows, .int .i64 y5.fSeen.x0, .int .i64 y5.fSeen.x1, .int .i64 y5.fSeen.x2, .int .i64 y5.fKnown.x0.fLo, .int .i64 y5.fKnown.x0.fHi, .int .i64 y5.fKnown.x1.fLo, .int .i64 y5.fKnown.x1.fHi, .int .i64 y5.fKnown.x2.fLo, .int .i64 y5.fKnown.x2.fHi], cellsR b8 136 [.func (.func 124) #[] #[.pointer (some ⟨b7, 0, none⟩)]], dfR D, rowR (some ⟨b25, 0, none⟩) (Int.toNat (w64 (p0_b.fBarrows + 1))) 3 1 (Int.toNat (w64 (p0_b.fBarrows + 1))) (encL cI s.2)] ∧ tm = (upd (upd (upd (upd (upd (upd (upd (upd (upd (upd tm0 0 (.agg #[.int .i64 p0_b.fBarrows, .int .i64 p0_b.fSeen.x0, .int .i64 p0_b.fSeen.x1, .int .i64 p0_b.fSeen.x2, .int .i64 p0_b.fKnown.x0.fLo, .int .i64 p0_b.fKnown.x0.fHi, .int .i64 p0_b.fKnown.x1.fLo, .int .i64 p0_b.fKnown.x1.fHi, .int .i64 p0_b.fKnown.x2.fLo, .int .i64 p0_b.fKnown.x2.fHi])) 1 (.int .i64 p1_sort)) 2 (.pointer (some ⟨b1, 0, none⟩))) 3 (.pointer (some ⟨b2, 0, none⟩))) 4 (.slice none 0 0)) 5 (.pointer (some ⟨b4, 0, none⟩))) 11 (.func (.func 125) #[] #[.pointer (some ⟨b8, 0, none⟩), .pointer (some ⟨b7, 0, none⟩)])) 7 (.slice (some ⟨b25, 0, none⟩) (Int.toNat (w64 (p0_b.fBarrows + 1))) (Int.toNat (w64 (p0_b.fBarrows + 1))))) 28 (.int .i64 ((Int.toNat (w64 (p0_b.fBarrows + 1)) : Nat) : Int))) 29 (.int .i64 s.1))) hl34 ⟨_, (List.length_replicate).symm, rfl, (keep (keep (keep (keep (keep (keep (keep (keep (keep (keep rfl rfl) rfl) rfl) rfl) rfl) rfl) rfl) rfl) rfl) rfl)⟩ ?_ ?_
    · rintro s29 L tm st ⟨tm0_s29, hn7_s29, rfl, rfl⟩ h
      unfold sample_weights_l2 at h
      refine cx_seq ?_
      refine cx_region ?_
      refine ox_y rfl (y_lss rfl rfl) ?_
      refine ox_nil ?_
      refine ex_then ?_
      refine cx_seq ?_
      rcases ite_some h with ⟨hp31, h⟩ | ⟨hp31, h⟩
      · refine cx_true (congrArg Value.bool hp31) ?_
        refine cx_skip ?_
        refine ex_then ?_
        refine cx_seq ?_
        refine cx_block ?_
        refine cx_seq ?_
        refine cx_region ?_
        refine ox_y rfl (y_move_int rfl) ?_
        refine ox_y rfl (y_assign_int rfl) ?_
        refine ox_nil ?_
        refine ex_then ?_
        refine cx_region ?_
        refine ox_y rfl (y_move_slice rfl) ?_
        refine ox_y rfl (y_move_int rfl) ?_
        refine ox_y rfl (y_load1 3 (v := .map (some b3)) sc_152 rfl rfl rfl) ?_
        refine ox_y rfl (y_move_int rfl) ?_
        obtain ⟨hg32, h⟩ := guardO_some h
        refine ox_y rfl (y_lookup 2 um_152 ui_3 ui_3 ze_3 rfl rfl rfl hg32) ?_
        obtain ⟨hg33, h⟩ := guardO_some h
        refine ox_y rfl (y_indexR sl_66 (by decide) hg33.1 hg33.2 (RdL.row 7 rfl) (encL_len cI_len hn7_s29) rfl rfl) ?_
        refine ox_n rfl (y_storeR1 7 (xs := s29.2) cI_len (mget u24 s29.1) sz_3 rfl hg33.1 (lt_nat hg33.2 hn7_s29) rfl rfl rfl rfl) ?_
        refine ox_nil ?_
        refine ex_block ?_
        refine ex_then ?_
        refine cx_region ?_
        refine ox_y rfl (y_add rfl rfl) ?_
        refine ox_y rfl (y_move_int rfl) ?_
        refine ox_nil ?_
        obtain rfl := Option.some.inj h
        exact ex_next ⟨_, (hn_set hn7_s29), rfl, (keep (keep (keep (keep (keep (keep (keep (keep (keep (keep rfl rfl) rfl) rfl) rfl) rfl) rfl) rfl) rfl) rfl) rfl)⟩
      · refine cx_false (congrArg Value.bool hp31) ?_
        refine cx_exit ?_
        refine ex_then_exit ?_
        obtain rfl := Option.some.inj h
        exact ex_stop ⟨rfl, _, hn7_s29, rfl, (keep (keep (keep (keep (keep (keep (keep (keep (keep (keep rfl rfl) rfl) rfl) rfl) rfl) rfl) rfl) rfl) rfl) rfl)⟩
    · intro e L tm hJ
      obtain ⟨rfl, tm0_u30, hn7_u30, rfl, rfl⟩ := hJ
      refine ⟨(by intro hc; cases hc), ?_⟩
      refine ex_block_here ?_
      refine ex_then ?_
      refine cx_seq ?_
      refine cx_region ?_
      refine ox_y rfl (y_move_slice rfl) ?_
      refine ox_y rfl (y_assign_slice rfl) ?_
      refine ox_nil ?_
      refine ex_then ?_
      refine cx_ret ?_
      refine ex_M1 6 rfl (.inl rfl) ?_
      obtain rfl := Option.some.inj h
      exact ex_res1 (.inl rfl) rfl (resV_tmp (v := .slice (some ⟨b25, 0, none⟩) (Int.toNat (w64 (p0_b.fBarrows + 1))) (Int.toNat (w64 (p0_b.fBarrows + 1)))) rfl) (fun W2 hW2 => ⟨((some ⟨b25, 0, none⟩), Int.toNat (w64 (p0_b.fBarrows + 1)), Int.toNat (w64 (p0_b.fBarrows + 1))), hn7_u30, rfl, (hW2.pick 7 rfl)⟩)
  · intro D t e L _ hh
    exact hh.elim

/-! calx/sample.total -/
set_option maxRecDepth 100000 in
theorem sample_total_ok (p0_w : (List Int)) (p1_less : Int) (res : Int) (h : sample_total p0_w p1_less = some res) (W : World) (A0_0 : Option Addr) (n0_0 c0_0 : Nat) (hn0_0 : n0_0 = p0_w.length) (hr0_0 : Rd W A0_0 n0_0 c0_0 (encL cI p0_w)) :
    Calls Try.prog 105 [.slice A0_0 n0_0 c0_0, .int .i64 p1_less].toArray W fun e W2 => e = .returned (.int .i64 res) ∧ Ext W W2 [] := by
  subst hn0_0
  unfold sample_total at h
  refine calls_enter (m := 24) Try.func105 rfl rfl (Nat.le_of_ble_eq_true rfl) ?_
  refine cx_seq ?_
  refine cx_region ?_
  refine ox_y rfl (y_assign_int rfl) ?_
  refine ox_nil ?_
  refine ex_then ?_
  refine cx_seq ?_
  refine cx_region ?_
  refine ox_y rfl (y_assign_int rfl) ?_
  refine ox_nil ?_
  refine ex_then ?_
  refine cx_seq ?_
  refine cx_seq ?_
  refine cx_region ?_
  refine ox_y rfl (y_move_slice rfl) ?_
  refine ox_y rfl (y_len (us := []) us_66 rfl) ?_
  refine ox_y rfl (y_move_int rfl) ?_
  refine ox_nil ?_
  refine ex_then ?_
  refine cx_block ?_
  obtain ⟨u3, hl6, h⟩ := bind_some h
  refine cx_loop (fun (s : (Int × Int)) L tm => ∃ (tm0 : Nat → Value), L = [] ∧ tm = (upd (upd (upd (upd (upd (upd (upd tm0 0 (.slice A0_0 p0_w.length c0_0)) 1 (.int .i64 p1_less)) 4 (.int .i64 0)) 5 (.int .i64 s.1)) 8 (.slice A0_0 p0_w.length c0_0)) 9 (.int .i64 ((p0_w.length : Nat) : Int))) 10 (.int .i64 s.2))) (fun s e L tm => e = .exit 0 ∧ ∃ (tm0 : Nat → Value), L = [] ∧ tm = (upd (upd (upd (upd (upd (upd (upd tm0 0 (.slice A0_0 p0_w.length c0_0)) 1 (.int .i64 p1_less)) 4 (.int .i64 0)) 5 (.int .i64 s.1)) 8 (.slice A0_0 p0_w.length c0_0)) 9 (.int .i64 ((p0_w.length : Nat) : Int))) 10 (.int .i64 s.2))) hl6 ⟨_, rfl, (keep (keep (keep (keep (keep (keep (keep rfl rfl) rfl) rfl) rfl) rfl) rfl) rfl)⟩ ?_ ?_
  · rintro s2 L tm st ⟨tm0_s2, rfl, rfl⟩ h
    unfold sample_total_l1 at h
    refine cx_seq ?_
    refine cx_region ?_
    refine ox_y rfl (y_lss rfl rfl) ?_
    refine ox_nil ?_
    refine ex_then ?_
    refine cx_seq ?_
    rcases ite_some h with ⟨hp4, h⟩ | ⟨hp4, h⟩
    · refine cx_true (congrArg Value.bool hp4) ?_
      refine cx_skip ?_
      refine ex_then ?_
      refine cx_seq ?_
      refine cx_block ?_
      refine cx_seq ?_
      refine cx_region ?_
      refine ox_y rfl (y_move_int rfl) ?_
      obtain ⟨hg5, h⟩ := guardO_some h
      refine ox_y rfl (y_indexR sl_66 (by decide) hg5.1 hg5.2 (RdL.arg hr0_0) (encL_len cI_len rfl) rfl rfl) ?_
      refine ox_y rfl (y_loadR1 (A := A0_0) (j := (Int.toNat s2.2 * 1)) (v := .int .i64 (rdL p0_w s2.2)) sc_3 (RdL.arg hr0_0) rfl (encL_get0 cI_len hg5.1 (lt_nat hg5.2 rfl) rfl)) ?_
      refine ox_y rfl (y_assign_int rfl) ?_
      refine ox_y rfl (y_assign_int rfl) ?_
      refine ox_nil ?_
      refine ex_then ?_
      refine cx_region ?_
      refine ox_y rfl (y_move_int rfl) ?_
      refine ox_y rfl (y_move_int rfl) ?_
      refine ox_y rfl (y_move_int rfl) ?_
      refine ox_y rfl (y_sub rfl rfl) ?_
      refine ox_y rfl (y_move_int rfl) ?_
      refine ox_y rfl (y_mul rfl rfl) ?_
      refine ox_y rfl (y_add rfl rfl) ?_
      refine ox_y rfl (y_assign_int rfl) ?_
      refine ox_nil ?_
      refine ex_block ?_
      refine ex_then ?_
      refine cx_region ?_
      refine ox_y rfl (y_add rfl rfl) ?_
      refine ox_y rfl (y_move_int rfl) ?_
      refine ox_nil ?_
      obtain rfl := Option.some.inj h
      exact ex_next ⟨_, rfl, (keep (keep (keep (keep (keep (keep (keep rfl rfl) rfl) rfl) rfl) rfl) rfl) rfl)⟩
    · refine cx_false (congrArg Value.bool hp4) ?_
      refine cx_exit ?_
      refine ex_then_exit ?_
      obtain rfl := Option.some.inj h
      exact ex_stop ⟨rfl, _, rfl, (keep (keep (keep (keep (keep (keep (keep rfl rfl) rfl) rfl) rfl) rfl) rfl) rfl)⟩
  · intro e L tm hJ
    obtain ⟨rfl, tm0_u3, rfl, rfl⟩ := hJ
    refine ⟨(by intro hc; cases hc), ?_⟩
    refine ex_block_here ?_
    refine ex_then ?_
    refine cx_seq ?_
    refine cx_region ?_
    refine ox_y rfl (y_move_int rfl) ?_
    refine ox_y rfl (y_assign_int rfl) ?_
    refine ox_nil ?_
    refine ex_then ?_
    refine cx_ret ?_
    obtain rfl := Option.some.inj h
    exact ex_res1 (.inl rfl) rfl (resV_tmp (v := .int .i64 u3.1) rfl) (fun W2 hW2 => ⟨rfl, hW2.none⟩)

/-! calx/sample.own -/
set_option maxRecDepth 100000 in
theorem sample_own_ok (p0_n : Int) (res : Int) (h : sample_own p0_n = some res) (W : World)  :
    Calls Try.prog 107 [.int .i64 p0_n].toArray W fun e W2 => e = .returned (.int .i64 res) ∧ Ext W W2 [] := by
  unfold sample_own at h
  refine calls_enter (m := 4) Try.func107 rfl rfl (Nat.le_of_ble_eq_true rfl) ?_
  refine cx_seq ?_
  refine cx_region ?_
  refine ox_y rfl (y_assign_int rfl) ?_
  refine ox_nil ?_
  refine ex_then ?_
  refine cx_seq ?_
  refine cx_region ?_
  refine ox_y rfl (y_move_int rfl) ?_
  refine ox_y rfl (y_assign_int rfl) ?_
  refine ox_nil ?_
  refine ex_then ?_
  refine cx_ret ?_
  obtain rfl := Option.some.inj h
  exact ex_res1 (.inl rfl) rfl (resV_tmp (v := .int .i64 p0_n) rfl) (fun W2 hW2 => ⟨rfl, hW2.none⟩)

/-! calx/sample.Mean -/
set_option maxRecDepth 100000 in
theorem sample_Mean_ok (p0_b : TBatch) (p1_sort : Int) (res : (TRatio × Int)) (h : sample_Mean p0_b p1_sort = some res) (W : World)  :
    Calls Try.prog 41 [.agg #[.int .i64 p0_b.fBarrows, .int .i64 p0_b.fSeen.x0, .int .i64 p0_b.fSeen.x1, .int .i64 p0_b.fSeen.x2, .int .i64 p0_b.fKnown.x0.fLo, .int .i64 p0_b.fKnown.x0.fHi, .int .i64 p0_b.fKnown.x1.fLo, .int .i64 p0_b.fKnown.x1.fHi, .int .i64 p0_b.fKnown.x2.fLo, .int .i64 p0_b.fKnown.x2.fHi], .int .i64 p1_sort].toArray W fun e W2 => e = .returned (.tuple #[.agg #[.int .i64 res.1.fNum, .int .i64 res.1.fDen], .int .i64 res.2]) ∧ Ext W W2 [] := by
  unfold sample_Mean at h
  refine calls_enter (m := 23) Try.func41 rfl rfl (Nat.le_of_ble_eq_true rfl) ?_
  refine cx_seq ?_
  refine cx_region ?_
  refine ox_box [.int .i64 p0_b.fBarrows, .int .i64 p0_b.fSeen.x0, .int .i64 p0_b.fSeen.x1, .int .i64 p0_b.fSeen.x2, .int .i64 p0_b.fKnown.x0.fLo, .int .i64 p0_b.fKnown.x0.fHi, .int .i64 p0_b.fKnown.x1.fLo, .int .i64 p0_b.fKnown.x1.fHi, .int .i64 p0_b.fKnown.x2.fLo, .int .i64 p0_b.fKnown.x2.fHi] rfl rfl rfl (fun b1 => ?_)
  refine ox_alloc ze_23 rfl (fun b2 => ?_)
  refine ox_y rfl (y_assign_int rfl) ?_
  refine ox_nil ?_
  refine ex_then ?_
  refine cx_seq ?_
  refine cx_seq ?_
  refine cx_region ?_
  refine ox_y rfl (y_loadN 0 [.int .i64 p0_b.fBarrows, .int .i64 p0_b.fSeen.x0, .int .i64 p0_b.fSeen.x1, .int .i64 p0_b.fSeen.x2, .int .i64 p0_b.fKnown.x0.fLo, .int .i64 p0_b.fKnown.x0.fHi, .int .i64 p0_b.fKnown.x1.fLo, .int .i64 p0_b.fKnown.x1.fHi, .int .i64 p0_b.fKnown.x2.fLo, .int .i64 p0_b.fKnown.x2.fHi] ag_52 rfl rfl rfl) ?_
  refine ox_y rfl (y_move_int rfl) ?_
  obtain ⟨y3, hy4, h⟩ := bind_some h
  refine ox_y rfl (y_call [.agg #[.int .i64 p0_b.fBarrows, .int .i64 p0_b.fSeen.x0, .int .i64 p0_b.fSeen.x1, .int .i64 p0_b.fSeen.x2, .int .i64 p0_b.fKnown.x0.fLo, .int .i64 p0_b.fKnown.x0.fHi, .int .i64 p0_b.fKnown.x1.fLo, .int .i64 p0_b.fKnown.x1.fHi, .int .i64 p0_b.fKnown.x2.fLo, .int .i64 p0_b.fKnown.x2.fHi], .int .i64 p1_sort] go_101 rfl (fun W2 hW2 => sample_sorted_ok p0_b p1_sort y3 hy4 W2 ) rfl) ?_
  refine ox_y rfl (y_assign_int rfl) ?_
  refine ox_nil ?_
  refine ex_then ?_
  refine cx_seq ?_
  refine cx_region ?_
  refine ox_y rfl (y_move_int rfl) ?_
  refine ox_y rfl (y_neq rfl rfl) ?_
  refine ox_nil ?_
  refine ex_then ?_
  rcases ite_some h with ⟨hp5, h⟩ | ⟨hp5, h⟩
  · refine cx_true (congrArg Value.bool hp5) ?_
    refine cx_seq ?_
    refine cx_region ?_
    refine ox_y rfl (y_buildS [.int .i64 0, .int .i64 0] [(0, 1), (1, 1)] ust_23 ze_23 (by kernel_rfl)) ?_
    refine ox_y rfl (y_move_int rfl) ?_
    refine ox_n rfl (y_storeN 1 [.int .i64 0, .int .i64 0] sz_23 rfl (Nat.le_of_ble_eq_true rfl) rfl rfl rfl) ?_
    refine ox_y rfl (y_assign_int rfl) ?_
    refine ox_nil ?_
    refine ex_then ?_
    refine cx_ret ?_
    refine ex_then_ret ?_
    obtain rfl := Option.some.inj h
    exact ex_res2 (.inl rfl) rfl (resV_cellN 1 [.int .i64 0, .int .i64 0] ag_23 rfl rfl rfl) (resV_tmp (v := .int .i64 y3) rfl) (fun W2 hW2 => ⟨rfl, hW2.none⟩)
  · refine cx_false (congrArg Value.bool hp5) ?_
    refine cx_skip ?_
    refine ex_then ?_
    refine cx_seq ?_
    refine cx_region ?_
    refine ox_y rfl (y_loadN 0 [.int .i64 p0_b.fBarrows, .int .i64 p0_b.fSeen.x0, .int .i64 p0_b.fSeen.x1, .int .i64 p0_b.fSeen.x2, .int .i64 p0_b.fKnown.x0.fLo, .int .i64 p0_b.fKnown.x0.fHi, .int .i64 p0_b.fKnown.x1.fLo, .int .i64 p0_b.fKnown.x1.fHi, .int .i64 p0_b.fKnown.x2.fLo, .int .i64 p0_b.fKnown.x2.fHi] ag_52 rfl rfl rfl) ?_
    refine ox_y rfl (y_move_int rfl) ?_
    obtain ⟨y6, hy7, h⟩ := bind_some h
    refine ox_call [.agg #[.int .i64 p0_b.fBarrows, .int .i64 p0_b.fSeen.x0, .int .i64 p0_b.fSeen.x1, .int .i64 p0_b.fSeen.x2, .int .i64 p0_b.fKnown.x0.fLo, .int .i64 p0_b.fKnown.x0.fHi, .int .i64 p0_b.fKnown.x1.fLo, .int .i64 p0_b.fKnown.x1.fHi, .int .i64 p0_b.fKnown.x2.fLo, .int .i64 p0_b.fKnown.x2.fHi], .int .i64 p1_sort] _ _ _ rfl go_104 rfl (fun W2 hW2 => sample_weights_ok p0_b p1_sort y6 hy7 W2 ) ?_
    rintro ⟨A8, n10, c9⟩ hn11
    replace hn11 : n10 = y6.length := hn11; subst hn11
    refine ox_y rfl (y_assign_slice rfl) ?_
    refine ox_nil ?_
    refine ex_then ?_
    refine cx_seq ?_
    refine cx_region ?_
    refine ox_y rfl (y_move_slice rfl) ?_
    obtain ⟨y12, hy13, h⟩ := bind_some h
    refine ox_y rfl (y_call [.slice A8 y6.length c9, .int .i64 0] go_105 rfl (fun W2 hW2 => sample_total_ok y6 0 y12 hy13 W2 A8 y6.length c9 rfl ((RdL.row 2 rfl) W2 hW2)) rfl) ?_
    refine ox_y rfl (y_move_slice rfl) ?_
    obtain ⟨y15, hy16, h⟩ := bind_some h
    refine ox_y rfl (y_call [.slice A8 y6.length c9, .func (.func 107) #[] #[]] go_106 rfl (fun W2 hW2 => sample_sum_int_ok y6 (fun x14 => sample_own x14) y15 hy16 W2 A8 y6.length c9 rfl ((RdL.row 2 rfl) W2 hW2) 107 [] go_107 (fun W3 hb x y hxy => sample_own_ok x  y hxy W3 )) rfl) ?_
    obtain ⟨y17, hy18, h⟩ := bind_some h
    refine ox_y rfl (y_call [.int .i64 y12, .int .i64 y15] go_95 rfl (fun W2 hW2 => sample_ratio_ok y12 y15 y17 hy18 W2 ) rfl) ?_
    refine ox_n rfl (y_storeN 1 [.int .i64 y17.fNum, .int .i64 y17.fDen] sz_23 rfl (Nat.le_of_ble_eq_true rfl) rfl rfl rfl) ?_
    refine ox_y rfl (y_assign_int rfl) ?_
    refine ox_nil ?_
    refine ex_then ?_
    refine cx_ret ?_
    obtain rfl := Option.some.inj h
    exact ex_res2 (.inl rfl) rfl (resV_cellN 1 [.int .i64 y17.fNum, .int .i64 y17.fDen] ag_23 rfl rfl rfl) (resV_tmp (v := .int .i64 0) rfl) (fun W2 hW2 => ⟨rfl, hW2.none⟩)

/-! calx/sample.Weights -/
set_option maxRecDepth 100000 in
theorem sample_Weights_ok (p0_b : TBatch) (p1_sort : Int) (res : ((List Int) × Int)) (h : sample_Weights p0_b p1_sort = some res) (W : World)  :
    Calls Try.prog 42 [.agg #[.int .i64 p0_b.fBarrows, .int .i64 p0_b.fSeen.x0, .int .i64 p0_b.fSeen.x1, .int .i64 p0_b.fSeen.x2, .int .i64 p0_b.fKnown.x0.fLo, .int .i64 p0_b.fKnown.x0.fHi, .int .i64 p0_b.fKnown.x1.fLo, .int .i64 p0_b.fKnown.x1.fHi, .int .i64 p0_b.fKnown.x2.fLo, .int .i64 p0_b.fKnown.x2.fHi], .int .i64 p1_sort].toArray W fun e W2 => ∃ x : Option Addr × Nat × Nat, x.2.1 = res.1.length ∧ e = .returned (.tuple #[.slice x.1 x.2.1 x.2.2, .int .i64 res.2]) ∧ Ext W W2 [rowR x.1 x.2.2 3 1 x.2.1 (encL cI res.1)] := by
  unfold sample_Weights at h
  refine calls_enter (m := 16) Try.func42 rfl rfl (Nat.le_of_ble_eq_true rfl) ?_
  refine cx_seq ?_
  refine cx_region ?_
  refine ox_box [.int .i64 p0_b.fBarrows, .int .i64 p0_b.fSeen.x0, .int .i64 p0_b.fSeen.x1, .int .i64 p0_b.fSeen.x2, .int .i64 p0_b.fKnown.x0.fLo, .int .i64 p0_b.fKnown.x0.fHi, .int .i64 p0_b.fKnown.x1.fLo, .int .i64 p0_b.fKnown.x1.fHi, .int .i64 p0_b.fKnown.x2.fLo, .int .i64 p0_b.fKnown.x2.fHi] rfl rfl rfl (fun b1 => ?_)
  refine ox_y rfl (y_assign_slice rfl) ?_
  refine ox_y rfl (y_assign_int rfl) ?_
  refine ox_nil ?_
  refine ex_then ?_
  refine cx_seq ?_
  refine cx_seq ?_
  refine cx_region ?_
  refine ox_y rfl (y_loadN 0 [.int .i64 p0_b.fBarrows, .int .i64 p0_b.fSeen.x0, .int .i64 p0_b.fSeen.x1, .int .i64 p0_b.fSeen.x2, .int .i64 p0_b.fKnown.x0.fLo, .int .i64 p0_b.fKnown.x0.fHi, .int .i64 p0_b.fKnown.x1.fLo, .int .i64 p0_b.fKnown.x1.fHi, .int .i64 p0_b.fKnown.x2.fLo, .int .i64 p0_b.fKnown.x2.fHi] ag_52 rfl rfl rfl) ?_
  refine ox_y rfl (y_move_int rfl) ?_
  obtain ⟨y2, hy3, h⟩ := bind_some h
  refine ox_y rfl (y_call [.agg #[.int .i64 p0_b.fBarrows, .int .i64 p0_b.fSeen.x0, .int .i64 p0_b.fSeen.x1, .int .i64 p0_b.fSeen.x2, .int .i64 p0_b.fKnown.x0.fLo, .int .i64 p0_b.fKnown.x0.fHi, .int .i64 p0_b.fKnown.x1.fLo, .int .i64 p0_b.fKnown.x1.fHi, .int .i64 p0_b.fKnown.x2.fLo, .int .i64 p0_b.fKnown.x2.fHi], .int .i64 p1_sort] go_101 rfl (fun W2 hW2 => sample_sorted_ok p0_b p1_sort y2 hy3 W2 ) rfl) ?_
  refine ox_y rfl (y_assign_int rfl) ?_
  refine ox_nil ?_
  refine ex_then ?_
  refine cx_seq ?_
  refine cx_region ?_
  refine ox_y rfl (y_move_int rfl) ?_
  refine ox_y rfl (y_neq rfl rfl) ?_
  refine ox_nil ?_
  refine ex_then ?_
  rcases ite_some h with ⟨hp4, h⟩ | ⟨hp4, h⟩
  · refine cx_true (congrArg Value.bool hp4) ?_
    refine cx_seq ?_
    refine cx_region ?_
    refine ox_y rfl (y_move_int rfl) ?_
    refine ox_y rfl (y_assign_slice rfl) ?_
    refine ox_y rfl (y_assign_int rfl) ?_
    refine ox_nil ?_
    refine ex_then ?_
    refine cx_ret ?_
    refine ex_then_ret ?_
    obtain rfl := Option.some.inj h
    exact ex_res2 (.inl rfl) rfl (resV_tmp (v := .slice none 0 0) rfl) (resV_tmp (v := .int .i64 y2) rfl) (fun W2 hW2 => ⟨(none, 0, 0), rfl, rfl, ((hW2.nilrow 3 1).pick 1 rfl)⟩)
  · refine cx_false (congrArg Value.bool hp4) ?_
    refine cx_skip ?_
    refine ex_then ?_
    refine cx_seq ?_
    refine cx_region ?_
    refine ox_y rfl (y_loadN 0 [.int .i64 p0_b.fBarrows, .int .i64 p0_b.fSeen.x0, .int .i64 p0_b.fSeen.x1, .int .i64 p0_b.fSeen.x2, .int .i64 p0_b.fKnown.x0.fLo, .int .i64 p0_b.fKnown.x0.fHi, .int .i64 p0_b.fKnown.x1.fLo, .int .i64 p0_b.fKnown.x1.fHi, .int .i64 p0_b.fKnown.x2.fLo, .int .i64 p0_b.fKnown.x2.fHi] ag_52 rfl rfl rfl) ?_
    refine ox_y rfl (y_move_int rfl) ?_
    obtain ⟨y5, hy6, h⟩ := bind_some h
    refine ox_call [.agg #[.int .i64 p0_b.fBarrows, .int .i64 p0_b.fSeen.x0, .int .i64 p0_b.fSeen.x1, .int .i64 p0_b.fSeen.x2, .int .i64 p0_b.fKnown.x0.fLo, .int .i64 p0_b.fKnown.x0.fHi, .int .i64 p0_b.fKnown.x1.fLo, .int .i64 p0_b.fKnown.x1.fHi, .int .i64 p0_b.fKnown.x2.fLo, .int .i64 p0_b.fKnown.x2.fHi], .int .i64 p1_sort] _ _ _ rfl go_104 rfl (fun W2 hW2 => sample_weights_ok p0_b p1_sort y5 hy6 W2 ) ?_
    rintro ⟨A7, n9, c8⟩ hn10
    replace hn10 : n9 = y5.length := hn10; subst hn10
    refine ox_y rfl (y_assign_slice rfl) ?_
    refine ox_y rfl (y_assign_int rfl) ?_
    refine ox_nil ?_
    refine ex_then ?_
    refine cx_ret ?_
    obtain rfl := Option.some.inj h
    exact ex_res2 (.inl rfl) rfl (resV_tmp (v := .slice A7 y5.length c8) rfl) (resV_tmp (v := .int .i64 0) rfl) (fun W2 hW2 => ⟨(A7, y5.length, c8), rfl, rfl, (hW2.pick 1 rfl)⟩)

/-! calx/sample.Next -/
set_option maxRecDepth 100000 in
theorem sample_Next_ok (p0_b : TBatch) (p1_sort : Int) (res : (TRatio × Int)) (h : sample_Next p0_b p1_sort = some res) (W : World)  :
    Calls Try.prog 43 [.agg #[.int .i64 p0_b.fBarrows, .int .i64 p0_b.fSeen.x0, .int .i64 p0_b.fSeen.x1, .int .i64 p0_b.fSeen.x2, .int .i64 p0_b.fKnown.x0.fLo, .int .i64 p0_b.fKnown.x0.fHi, .int .i64 p0_b.fKnown.x1.fLo, .int .i64 p0_b.fKnown.x1.fHi, .int .i64 p0_b.fKnown.x2.fLo, .int .i64 p0_b.fKnown.x2.fHi], .int .i64 p1_sort].toArray W fun e W2 => e = .returned (.tuple #[.agg #[.int .i64 res.1.fNum, .int .i64 res.1.fDen], .int .i64 res.2]) ∧ Ext W W2 [] := by
  unfold sample_Next at h
  refine calls_enter (m := 39) Try.func43 rfl rfl (Nat.le_of_ble_eq_true rfl) ?_
  refine cx_seq ?_
  refine cx_region ?_
  refine ox_box [.int .i64 p0_b.fBarrows, .int .i64 p0_b.fSeen.x0, .int .i64 p0_b.fSeen.x1, .int .i64 p0_b.fSeen.x2, .int .i64 p0_b.fKnown.x0.fLo, .int .i64 p0_b.fKnown.x0.fHi, .int .i64 p0_b.fKnown.x1.fLo, .int .i64 p0_b.fKnown.x1.fHi, .int .i64 p0_b.fKnown.x2.fLo, .int .i64 p0_b.fKnown.x2.fHi] rfl rfl rfl (fun b1 => ?_)
  refine ox_alloc ze_23 rfl (fun b2 => ?_)
  refine ox_y rfl (y_assign_int rfl) ?_
  refine ox_nil ?_
  refine ex_then ?_
  refine cx_seq ?_
  refine cx_seq ?_
  refine cx_region ?_
  refine ox_y rfl (y_loadN 0 [.int .i64 p0_b.fBarrows, .int .i64 p0_b.fSeen.x0, .int .i64 p0_b.fSeen.x1, .int .i64 p0_b.fSeen.x2, .int .i64 p0_b.fKnown.x0.fLo, .int .i64 p0_b.fKnown.x0.fHi, .int .i64 p0_b.fKnown.x1.fLo, .int .i64 p0_b.fKnown.x1.fHi, .int .i64 p0_b.fKnown.x2.fLo, .int .i64 p0_b.fKnown.x2.fHi] ag_52 rfl rfl rfl) ?_
  refine ox_y rfl (y_move_int rfl) ?_
  obtain ⟨y3, hy4, h⟩ := bind_some h
  refine ox_y rfl (y_call [.agg #[.int .i64 p0_b.fBarrows, .int .i64 p0_b.fSeen.x0, .int .i64 p0_b.fSeen.x1, .int .i64 p0_b.fSeen.x2, .int .i64 p0_b.fKnown.x0.fLo, .int .i64 p0_b.fKnown.x0.fHi, .int .i64 p0_b.fKnown.x1.fLo, .int .i64 p0_b.fKnown.x1.fHi, .int .i64 p0_b.fKnown.x2.fLo, .int .i64 p0_b.fKnown.x2.fHi], .int .i64 p1_sort] go_101 rfl (fun W2 hW2 => sample_sorted_ok p0_b p1_sort y3 hy4 W2 ) rfl) ?_
  refine ox_y rfl (y_assign_int rfl) ?_
  refine ox_nil ?_
  refine ex_then ?_
  refine cx_seq ?_
  refine cx_region ?_
  refine ox_y rfl (y_move_int rfl) ?_
  refine ox_y rfl (y_neq rfl rfl) ?_
  refine ox_nil ?_
  refine ex_then ?_
  rcases ite_some h with ⟨hp5, h⟩ | ⟨hp5, h⟩
  · refine cx_true (congrArg Value.bool hp5) ?_
    refine cx_seq ?_
    refine cx_region ?_
    refine ox_y rfl (y_buildS [.int .i64 0, .int .i64 0] [(0, 1), (1, 1)] ust_23 ze_23 (by kernel_rfl)) ?_
    refine ox_y rfl (y_move_int rfl) ?_
    refine ox_n rfl (y_storeN 1 [.int .i64 0, .int .i64 0] sz_23 rfl (Nat.le_of_ble_eq_true rfl) rfl rfl rfl) ?_
    refine ox_y rfl (y_assign_int rfl) ?_
    refine ox_nil ?_
    refine ex_then ?_
    refine cx_ret ?_
    refine ex_then_ret ?_
    obtain rfl := Option.some.inj h
    exact ex_res2 (.inl rfl) rfl (resV_cellN 1 [.int .i64 0, .int .i64 0] ag_23 rfl rfl rfl) (resV_tmp (v := .int .i64 y3) rfl) (fun W2 hW2 => ⟨rfl, hW2.none⟩)
  · refine cx_false (congrArg Value.bool hp5) ?_
    refine cx_skip ?_
    refine ex_then ?_
    refine cx_seq ?_
    refine cx_draws 7 mixed (by kernel_rfl) (by kernel_rfl) ?_
    refine qx_y rfl (y_fieldAddr fo_52_0 rfl) ?_
    refine qx_y rfl (y_load1 0 (v := .int .i64 p0_b.fBarrows) sc_3 rfl rfl rfl) ?_
    refine qx_y rfl (y_fieldAddr fo_52_1 rfl) ?_
    refine qx_y rfl (y_loadN 0 [.int .i64 p0_b.fSeen.x0, .int .i64 p0_b.fSeen.x1, .int .i64 p0_b.fSeen.x2] ag_43 rfl rfl rfl) ?_
    obtain ⟨y6, hy7, h⟩ := bind_some h
    refine qx_y rfl (y_call [.agg #[.int .i64 p0_b.fSeen.x0, .int .i64 p0_b.fSeen.x1, .int .i64 p0_b.fSeen.x2]] go_94 rfl (fun W2 hW2 => sample_size_ok p0_b.fSeen y6 hy7 W2 ) rfl) ?_
    refine qx_y rfl (y_sub rfl rfl) ?_
    refine qx_y rfl (y_assign_int rfl) ?_
    refine qx_nil ?_
    refine ox_nil ?_
    refine ex_then ?_
    refine cx_seq ?_
    refine cx_seq ?_
    refine cx_region ?_
    refine ox_y rfl (y_move_int rfl) ?_
    refine ox_y rfl (y_eql rfl rfl) ?_
    refine ox_nil ?_
    refine ex_then ?_
    rcases ite_some h with ⟨hp8, h⟩ | ⟨hp8, h⟩
    · refine cx_true (congrArg Value.bool hp8) ?_
      refine cx_seq ?_
      refine cx_region ?_
      refine ox_y rfl (y_buildS [.int .i64 0, .int .i64 0] [(0, 1), (1, 1)] ust_23 ze_23 (by kernel_rfl)) ?_
      refine ox_n rfl (y_storeN 1 [.int .i64 0, .int .i64 0] sz_23 rfl (Nat.le_of_ble_eq_true rfl) rfl rfl rfl) ?_
      refine ox_y rfl (y_assign_int rfl) ?_
      refine ox_nil ?_
      refine ex_then ?_
      refine cx_ret ?_
      refine ex_then_ret ?_
      obtain rfl := Option.some.inj h
      exact ex_res2 (.inl rfl) rfl (resV_cellN 1 [.int .i64 0, .int .i64 0] ag_23 rfl rfl rfl) (resV_tmp (v := .int .i64 5) rfl) (fun W2 hW2 => ⟨rfl, hW2.none⟩)
    · refine cx_false (congrArg Value.bool hp8) ?_
      refine cx_skip ?_
      refine ex_then ?_
      refine cx_seq ?_
      refine cx_region ?_
      refine ox_y rfl (y_loadN 0 [.int .i64 p0_b.fBarrows, .int .i64 p0_b.fSeen.x0, .int .i64 p0_b.fSeen.x1, .int .i64 p0_b.fSeen.x2, .int .i64 p0_b.fKnown.x0.fLo, .int .i64 p0_b.fKnown.x0.fHi, .int .i64 p0_b.fKnown.x1.fLo, .int .i64 p0_b.fKnown.x1.fHi, .int .i64 p0_b.fKnown.x2.fLo, .int .i64 p0_b.fKnown.x2.fHi] ag_52 rfl rfl rfl) ?_
      refine ox_y rfl (y_move_int rfl) ?_
      obtain ⟨y9, hy10, h⟩ := bind_some h
      refine ox_call [.agg #[.int .i64 p0_b.fBarrows, .int .i64 p0_b.fSeen.x0, .int .i64 p0_b.fSeen.x1, .int .i64 p0_b.fSeen.x2, .int .i64 p0_b.fKnown.x0.fLo, .int .i64 p0_b.fKnown.x0.fHi, .int .i64 p0_b.fKnown.x1.fLo, .int .i64 p0_b.fKnown.x1.fHi, .int .i64 p0_b.fKnown.x2.fLo, .int .i64 p0_b.fKnown.x2.fHi], .int .i64 p1_sort] _ _ _ rfl go_104 rfl (fun W2 hW2 => sample_weights_ok p0_b p1_sort y9 hy10 W2 ) ?_
      rintro ⟨A11, n13, c12⟩ hn14
      replace hn14 : n13 = y9.length := hn14; subst hn14
      refine ox_y rfl (y_assign_slice rfl) ?_
      refine ox_nil ?_
      refine ex_then ?_
      refine cx_seq ?_
      refine cx_region ?_
      refine ox_y rfl (y_move_slice rfl) ?_
      refine ox_y rfl (y_move_int rfl) ?_
      refine ox_y rfl (y_fieldAddr fo_52_1 rfl) ?_
      obtain ⟨hg15, h⟩ := guardO_some h
      refine ox_y rfl (y_indexArr ar_43 hg15.1 hg15.2 rfl rfl) ?_
      refine ox_y rfl (y_load1 0 (v := .int .i64 (sel3 p0_b.fSeen.x0 p0_b.fSeen.x1 p0_b.fSeen.x2 p1_sort)) sc_3 rfl rfl (by rcases in3 hg15 with e | e | e <;> rw [e] <;> rfl)) ?_
      obtain ⟨y16, hy17, h⟩ := bind_some h
      refine ox_y rfl (y_call [.slice A11 y9.length c12, .int .i64 (sel3 p0_b.fSeen.x0 p0_b.fSeen.x1 p0_b.fSeen.x2 p1_sort)] go_105 rfl (fun W2 hW2 => sample_total_ok y9 (sel3 p0_b.fSeen.x0 p0_b.fSeen.x1 p0_b.fSeen.x2 p1_sort) y16 hy17 W2 A11 y9.length c12 rfl ((RdL.row 2 rfl) W2 hW2)) rfl) ?_
      refine ox_y rfl (y_move_slice rfl) ?_
      obtain ⟨y19, hy20, h⟩ := bind_some h
      refine ox_y rfl (y_call [.slice A11 y9.length c12, .func (.func 107) #[] #[]] go_106 rfl (fun W2 hW2 => sample_sum_int_ok y9 (fun x18 => sample_own x18) y19 hy20 W2 A11 y9.length c12 rfl ((RdL.row 2 rfl) W2 hW2) 107 [] go_107 (fun W3 hb x y hxy => sample_own_ok x  y hxy W3 )) rfl) ?_
      refine ox_y rfl (y_move_int rfl) ?_
      refine ox_y rfl (y_mul rfl rfl) ?_
      obtain ⟨y21, hy22, h⟩ := bind_some h
      refine ox_y rfl (y_call [.int .i64 y16, .int .i64 (w64 (y19 * (w64 (p0_b.fBarrows - y6))))] go_95 rfl (fun W2 hW2 => sample_ratio_ok y16 (w64 (y19 * (w64 (p0_b.fBarrows - y6)))) y21 hy22 W2 ) rfl) ?_
      refine ox_n rfl (y_storeN 1 [.int .i64 y21.fNum, .int .i64 y21.fDen] sz_23 rfl (Nat.le_of_ble_eq_true rfl) rfl rfl rfl) ?_
      refine ox_y rfl (y_assign_int rfl) ?_
      refine ox_nil ?_
      refine ex_then ?_
      refine cx_ret ?_
      obtain rfl := Option.some.inj h
      exact ex_res2 (.inl rfl) rfl (resV_cellN 1 [.int .i64 y21.fNum, .int .i64 y21.fDen] ag_23 rfl rfl rfl) (resV_tmp (v := .int .i64 0) rfl) (fun W2 hW2 => ⟨rfl, hW2.none⟩)

/-! calx/sample.leveled -/
set_option maxRecDepth 100000 in
theorem sample_leveled_ok (p0_b : TBatch) (p1_sort : Int) (p2_level : TRatio) (res : Int) (h : sample_leveled p0_b p1_sort p2_level = some res) (W : World)  :
    Calls Try.prog 108 [.agg #[.int .i64 p0_b.fBarrows, .int .i64 p0_b.fSeen.x0, .int .i64 p0_b.fSeen.x1, .int .i64 p0_b.fSeen.x2, .int .i64 p0_b.fKnown.x0.fLo, .int .i64 p0_b.fKnown.x0.fHi, .int .i64 p0_b.fKnown.x1.fLo, .int .i64 p0_b.fKnown.x1.fHi, .int .i64 p0_b.fKnown.x2.fLo, .int .i64 p0_b.fKnown.x2.fHi], .int .i64 p1_sort, .agg #[.int .i64 p2_level.fNum, .int .i64 p2_level.fDen]].toArray W fun e W2 => e = .returned (.int .i64 res) ∧ Ext W W2 [] := by
  unfold sample_leveled at h
  refine calls_enter (m := 17) Try.func108 rfl rfl (Nat.le_of_ble_eq_true rfl) ?_
  refine cx_seq ?_
  refine cx_region ?_
  refine ox_box [.int .i64 p0_b.fBarrows, .int .i64 p0_b.fSeen.x0, .int .i64 p0_b.fSeen.x1, .int .i64 p0_b.fSeen.x2, .int .i64 p0_b.fKnown.x0.fLo, .int .i64 p0_b.fKnown.x0.fHi, .int .i64 p0_b.fKnown.x1.fLo, .int .i64 p0_b.fKnown.x1.fHi, .int .i64 p0_b.fKnown.x2.fLo, .int .i64 p0_b.fKnown.x2.fHi] rfl rfl rfl (fun b1 => ?_)
  refine ox_box [.int .i64 p2_level.fNum, .int .i64 p2_level.fDen] rfl rfl rfl (fun b2 => ?_)
  refine ox_y rfl (y_assign_int rfl) ?_
  refine ox_nil ?_
  refine ex_then ?_
  refine cx_seq ?_
  refine cx_seq ?_
  refine cx_region ?_
  refine ox_y rfl (y_loadN 0 [.int .i64 p0_b.fBarrows, .int .i64 p0_b.fSeen.x0, .int .i64 p0_b.fSeen.x1, .int .i64 p0_b.fSeen.x2, .int .i64 p0_b.fKnown.x0.fLo, .int .i64 p0_b.fKnown.x0.fHi, .int .i64 p0_b.fKnown.x1.fLo, .int .i64 p0_b.fKnown.x1.fHi, .int .i64 p0_b.fKnown.x2.fLo, .int .i64 p0_b.fKnown.x2.fHi] ag_52 rfl rfl rfl) ?_
  refine ox_y rfl (y_move_int rfl) ?_
  obtain ⟨y3, hy4, h⟩ := bind_some h
  refine ox_y rfl (y_call [.agg #[.int .i64 p0_b.fBarrows, .int .i64 p0_b.fSeen.x0, .int .i64 p0_b.fSeen.x1, .int .i64 p0_b.fSeen.x2, .int .i64 p0_b.fKnown.x0.fLo, .int .i64 p0_b.fKnown.x0.fHi, .int .i64 p0_b.fKnown.x1.fLo, .int .i64 p0_b.fKnown.x1.fHi, .int .i64 p0_b.fKnown.x2.fLo, .int .i64 p0_b.fKnown.x2.fHi], .int .i64 p1_sort] go_101 rfl (fun W2 hW2 => sample_sorted_ok p0_b p1_sort y3 hy4 W2 ) rfl) ?_
  refine ox_y rfl (y_assign_int rfl) ?_
  refine ox_nil ?_
  refine ex_then ?_
  refine cx_seq ?_
  refine cx_region ?_
  refine ox_y rfl (y_move_int rfl) ?_
  refine ox_y rfl (y_neq rfl rfl) ?_
  refine ox_nil ?_
  refine ex_then ?_
  rcases ite_some h with ⟨hp5, h⟩ | ⟨hp5, h⟩
  · refine cx_true (congrArg Value.bool hp5) ?_
    refine cx_seq ?_
    refine cx_region ?_
    refine ox_y rfl (y_move_int rfl) ?_
    refine ox_y rfl (y_assign_int rfl) ?_
    refine ox_nil ?_
    refine ex_then ?_
    refine cx_ret ?_
    refine ex_then_ret ?_
    obtain rfl := Option.some.inj h
    exact ex_res1 (.inl rfl) rfl (resV_tmp (v := .int .i64 y3) rfl) (fun W2 hW2 => ⟨rfl, hW2.none⟩)
  · refine cx_false (congrArg Value.bool hp5) ?_
    refine cx_skip ?_
    refine ex_then ?_
    refine cx_seq ?_
    refine cx_seq ?_
    refine cx_region ?_
    refine ox_y rfl (y_loadN 1 [.int .i64 p2_level.fNum, .int .i64 p2_level.fDen] ag_23 rfl rfl rfl) ?_
    obtain ⟨y6, hy7, h⟩ := bind_some h
    refine ox_y rfl (y_call [.agg #[.int .i64 p2_level.fNum, .int .i64 p2_level.fDen]] go_75 rfl (fun W2 hW2 => sample_isLevel_ok p2_level y6 hy7 W2 ) rfl) ?_
    refine ox_y rfl (y_not rfl) ?_
    refine ox_nil ?_
    refine ex_then ?_
    rcases ite_some h with ⟨hp8, h⟩ | ⟨hp8, h⟩
    · refine cx_true (congrArg Value.bool hp8) ?_
      refine cx_seq ?_
      refine cx_region ?_
      refine ox_y rfl (y_assign_int rfl) ?_
      refine ox_nil ?_
      refine ex_then ?_
      refine cx_ret ?_
      refine ex_then_ret ?_
      obtain rfl := Option.some.inj h
      exact ex_res1 (.inl rfl) rfl (resV_tmp (v := .int .i64 1) rfl) (fun W2 hW2 => ⟨rfl, hW2.none⟩)
    · refine cx_false (congrArg Value.bool hp8) ?_
      refine cx_skip ?_
      refine ex_then ?_
      refine cx_seq ?_
      refine cx_region ?_
      refine ox_y rfl (y_assign_int rfl) ?_
      refine ox_nil ?_
      refine ex_then ?_
      refine cx_ret ?_
      obtain rfl := Option.some.inj h
      exact ex_res1 (.inl rfl) rfl (resV_tmp (v := .int .i64 0) rfl) (fun W2 hW2 => ⟨rfl, hW2.none⟩)

end Go.Proofs.Ytepfgdfahinpkaa
