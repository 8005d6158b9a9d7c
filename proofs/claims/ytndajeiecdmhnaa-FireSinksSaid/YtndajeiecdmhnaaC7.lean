/- The calls hand back what the plain functions say. -/
import Derived.Test.YtndajeiecdmhnaaF
set_option linter.unusedVariables false
set_option maxHeartbeats 4000000
namespace Go.Proofs.Ytndajeiecdmhnaa
open Go.RowKit (Below)
attribute [local irreducible] OX QX CX EX OpY Calls CallsIn

/-! calx/calxref02.Burn -/
set_option maxRecDepth 100000 in
theorem calxref02_Burn_ok (p0_l : (List Int)) (p1_need : Int) (res : TBurn) (h : calxref02_Burn p0_l p1_need = some res) (W : World) (A0_0 : Option Addr) (n0_0 c0_0 : Nat) (hn0_0 : n0_0 = p0_l.length) (hr0_0 : Rd W A0_0 n0_0 c0_0 (encL cI p0_l)) :
    Calls Try.prog 41 [.slice A0_0 n0_0 c0_0, .int .i64 p1_need].toArray W fun e W2 => e = .returned (.agg #[.int .i64 res.fHours, .int .i64 res.fRow, .int .i64 res.fSum]) ∧ Ext W W2 [] := by
  subst hn0_0
  unfold calxref02_Burn at h
  refine calls_enter (m := 42) Try.func41 rfl rfl (Nat.le_of_ble_eq_true rfl) ?_
  refine cx_seq ?_
  refine cx_region ?_
  refine ox_alloc ze_49 rfl (fun b1 => ?_)
  refine ox_nil ?_
  refine ex_then ?_
  refine cx_seq ?_
  refine cx_region ?_
  refine ox_alloc ze_49 rfl (fun b2 => ?_)
  refine ox_nil ?_
  refine ex_then ?_
  refine cx_seq ?_
  refine cx_region ?_
  refine ox_y rfl (y_assign_int rfl) ?_
  refine ox_nil ?_
  refine ex_then ?_
  refine cx_seq ?_
  refine cx_seq ?_
  refine cx_region ?_
  refine ox_y rfl (y_assign_int rfl) ?_
  refine ox_nil ?_
  refine ex_then ?_
  refine cx_block ?_
  obtain ⟨u6, hl11, h⟩ := bind_some h
  refine cx_loop (fun (s : (Int × Int × Int × Int × Int)) L tm => ∃ (tm0 : Nat → Value), L = [cellsR b1 49 [.int .i64 0, .int .i64 0, .int .i64 0], cellsR b2 49 [.int .i64 s.2.2.1, .int .i64 s.2.2.2.1, .int .i64 s.2.2.2.2]] ∧ tm = (upd (upd (upd (upd (upd (upd tm0 0 (.slice A0_0 p0_l.length c0_0)) 1 (.int .i64 p1_need)) 4 (.pointer (some ⟨b1, 0, none⟩))) 5 (.pointer (some ⟨b2, 0, none⟩))) 6 (.int .i64 s.1)) 7 (.int .i64 s.2.1))) (fun s e L tm => e = .exit 0 ∧ ∃ (tm0 : Nat → Value), L = [cellsR b1 49 [.int .i64 0, .int .i64 0, .int .i64 0], cellsR b2 49 [.int .i64 s.2.2.1, .int .i64 s.2.2.2.1, .int .i64 s.2.2.2.2]] ∧ tm = (upd (upd (upd (upd (upd (upd tm0 0 (.slice A0_0 p0_l.length c0_0)) 1 (.int .i64 p1_need)) 4 (.pointer (some ⟨b1, 0, none⟩))) 5 (.pointer (some ⟨b2, 0, none⟩))) 6 (.int .i64 s.1)) 7 (.int .i64 s.2.1))) hl11 ⟨_, rfl, (keep (keep (keep (keep (keep (keep rfl rfl) rfl) rfl) rfl) rfl) rfl)⟩ ?_ ?_
  · rintro s5 L tm st ⟨tm0_s5, rfl, rfl⟩ h
    unfold calxref02_Burn_l1 at h
    refine cx_seq ?_
    refine cx_seq ?_
    refine cx_region ?_
    refine ox_y rfl (y_move_int rfl) ?_
    refine ox_y rfl (y_move_slice rfl) ?_
    refine ox_y rfl (y_len (us := []) us_41 rfl) ?_
    refine ox_y rfl (y_lss rfl rfl) ?_
    refine ox_nil ?_
    refine ex_then ?_
    rcases ite_some h with ⟨hp7, h⟩ | ⟨hp7, h⟩
    · refine cx_true (congrArg Value.bool hp7) ?_
      refine cx_skip ?_
      refine ex_then ?_
      refine cx_seq ?_
      refine cx_block ?_
      refine cx_seq ?_
      refine cx_seq ?_
      refine cx_region ?_
      refine ox_y rfl (y_move_slice rfl) ?_
      refine ox_y rfl (y_move_int rfl) ?_
      obtain ⟨hg8, h⟩ := guardO_some h
      refine ox_y rfl (y_indexR sl_41 (by decide) hg8.1 hg8.2 (RdL.arg hr0_0) (encL_len cI_len rfl) rfl rfl) ?_
      refine ox_y rfl (y_loadR1 (A := A0_0) (j := (Int.toNat s5.2.1 * 1)) (v := .int .i64 (rdL p0_l s5.2.1)) sc_3 (RdL.arg hr0_0) rfl (encL_get0 cI_len hg8.1 (lt_nat hg8.2 rfl) rfl)) ?_
      refine ox_y rfl (y_move_int rfl) ?_
      refine ox_y rfl (y_lss rfl rfl) ?_
      refine ox_nil ?_
      refine ex_then ?_
      rcases ite_some h with ⟨hp9, h⟩ | ⟨hp9, h⟩
      · refine cx_true (congrArg Value.bool hp9) ?_
        refine cx_seq ?_
        refine cx_region ?_
        refine ox_y rfl (y_assign_int rfl) ?_
        refine ox_nil ?_
        refine ex_then ?_
        refine cx_exit ?_
        refine ex_then_exit ?_
        refine ex_block_here ?_
        refine ex_then ?_
        refine cx_region ?_
        refine ox_y rfl (y_move_int rfl) ?_
        refine ox_y rfl (y_add rfl rfl) ?_
        refine ox_y rfl (y_assign_int rfl) ?_
        refine ox_nil ?_
        obtain rfl := Option.some.inj h
        exact ex_next ⟨_, rfl, (keep (keep (keep (keep (keep (keep rfl rfl) rfl) rfl) rfl) rfl) rfl)⟩
      · refine cx_false (congrArg Value.bool hp9) ?_
        refine cx_skip ?_
        refine ex_then ?_
        refine cx_seq ?_
        refine cx_region ?_
        refine ox_y rfl (y_move_int rfl) ?_
        refine ox_y rfl (y_add rfl rfl) ?_
        refine ox_y rfl (y_assign_int rfl) ?_
        refine ox_nil ?_
        refine ex_then ?_
        refine cx_seq ?_
        refine cx_region ?_
        refine ox_y rfl (y_fieldAddr fo_49_0 rfl) ?_
        refine ox_y rfl (y_load1 1 (v := .int .i64 s5.2.2.1) sc_3 rfl rfl rfl) ?_
        refine ox_y rfl (y_add rfl rfl) ?_
        refine ox_y rfl (y_fieldAddr fo_49_0 rfl) ?_
        refine ox_n rfl (y_store1 1 (v := .int .i64 (w64 (s5.2.2.1 + 1))) sz_3 rfl (Nat.lt_of_lt_of_le (Nat.lt_succ_self _) (Nat.le_of_ble_eq_true rfl)) rfl rfl rfl) ?_
        refine ox_nil ?_
        refine ex_then ?_
        refine cx_seq ?_
        refine cx_region ?_
        refine ox_y rfl (y_fieldAddr fo_49_1 rfl) ?_
        refine ox_y rfl (y_load1 1 (v := .int .i64 s5.2.2.2.1) sc_3 rfl rfl rfl) ?_
        refine ox_y rfl (y_move_int rfl) ?_
        refine ox_y rfl (y_max rfl rfl) ?_
        refine ox_y rfl (y_fieldAddr fo_49_1 rfl) ?_
        refine ox_n rfl (y_store1 1 (v := .int .i64 (max s5.2.2.2.1 (w64 (s5.1 + 1)))) sz_3 rfl (Nat.lt_of_lt_of_le (Nat.lt_succ_self _) (Nat.le_of_ble_eq_true rfl)) rfl rfl rfl) ?_
        refine ox_nil ?_
        refine ex_then ?_
        refine cx_draws 10 mixed (by kernel_rfl) (by kernel_rfl) ?_
        refine qx_y rfl (y_fieldAddr fo_49_2 rfl) ?_
        refine qx_y rfl (y_load1 1 (v := .int .i64 s5.2.2.2.2) sc_3 rfl rfl rfl) ?_
        refine qx_y rfl (y_move_slice rfl) ?_
        refine qx_y rfl (y_move_int rfl) ?_
        obtain ⟨hg10, h⟩ := guardO_some h
        refine qx_y rfl (y_indexR sl_41 (by decide) hg10.1 hg10.2 (RdL.arg hr0_0) (encL_len cI_len rfl) rfl rfl) ?_
        refine qx_y rfl (y_loadR1 (A := A0_0) (j := (Int.toNat s5.2.1 * 1)) (v := .int .i64 (rdL p0_l s5.2.1)) sc_3 (RdL.arg hr0_0) rfl (encL_get0 cI_len hg10.1 (lt_nat hg10.2 rfl) rfl)) ?_
        refine qx_y rfl (y_add rfl rfl) ?_
        refine qx_y rfl (y_move_int rfl) ?_
        refine qx_y rfl (y_sub rfl rfl) ?_
        refine qx_y rfl (y_fieldAddr fo_49_2 rfl) ?_
        refine qx_nil ?_
        refine ox_n rfl (y_store1 1 (v := .int .i64 (w64 ((w64 (s5.2.2.2.2 + (rdL p0_l s5.2.1))) - p1_need))) sz_3 rfl (Nat.lt_of_lt_of_le (Nat.lt_succ_self _) (Nat.le_of_ble_eq_true rfl)) rfl rfl rfl) ?_
        refine ox_nil ?_
        refine ex_block ?_
        refine ex_then ?_
        refine cx_region ?_
        refine ox_y rfl (y_move_int rfl) ?_
        refine ox_y rfl (y_add rfl rfl) ?_
        refine ox_y rfl (y_assign_int rfl) ?_
        refine ox_nil ?_
        obtain rfl := Option.some.inj h
        exact ex_next ⟨_, rfl, (keep (keep (keep (keep (keep (keep rfl rfl) rfl) rfl) rfl) rfl) rfl)⟩
    · refine cx_false (congrArg Value.bool hp7) ?_
      refine cx_exit ?_
      refine ex_then_exit ?_
      obtain rfl := Option.some.inj h
      exact ex_stop ⟨rfl, _, rfl, (keep (keep (keep (keep (keep (keep rfl rfl) rfl) rfl) rfl) rfl) rfl)⟩
  · intro e L tm hJ
    obtain ⟨rfl, tm0_u6, rfl, rfl⟩ := hJ
    refine ⟨(by intro hc; cases hc), ?_⟩
    refine ex_block_here ?_
    refine ex_then ?_
    refine cx_seq ?_
    refine cx_region ?_
    refine ox_y rfl (y_loadN 1 [.int .i64 u6.2.2.1, .int .i64 u6.2.2.2.1, .int .i64 u6.2.2.2.2] ag_49 rfl rfl rfl) ?_
    refine ox_n rfl (y_storeN 0 [.int .i64 u6.2.2.1, .int .i64 u6.2.2.2.1, .int .i64 u6.2.2.2.2] sz_49 rfl (Nat.le_of_ble_eq_true rfl) rfl rfl rfl) ?_
    refine ox_nil ?_
    refine ex_then ?_
    refine cx_ret ?_
    obtain rfl := Option.some.inj h
    exact ex_res1 (.inl rfl) rfl (resV_cellN 0 [.int .i64 u6.2.2.1, .int .i64 u6.2.2.2.1, .int .i64 u6.2.2.2.2] ag_49 rfl rfl rfl) (fun W2 hW2 => ⟨rfl, hW2.none⟩)

end Go.Proofs.Ytndajeiecdmhnaa
