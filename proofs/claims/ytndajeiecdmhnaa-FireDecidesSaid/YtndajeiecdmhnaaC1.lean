/- The calls hand back what the plain functions say. -/
import Derived.Test.YtndajeiecdmhnaaF
import Derived.Test.YtndajeiecdmhnaaGj
import Derived.Test.YtndajeiecdmhnaaC0
set_option linter.unusedVariables false
set_option maxHeartbeats 4000000
namespace Go.Proofs.Ytndajeiecdmhnaa
open Go.RowKit (Below)
attribute [local irreducible] OX QX CX EX OpY Calls CallsIn

/-! slices.partialInsertionSortCmpFunc[calx/api.Look] -/
set_option maxRecDepth 100000 in
theorem slices_partialInsertionSortCmpFunc_calx_api_Look_ok (p0 : (List TLook)) (p1 : Int) (p2 : Int) (p3 : TLook → TLook → Option Int) (res : (Bool × (List TLook))) (h : slices_partialInsertionSortCmpFunc_calx_api_Look p0 p1 p2 p3 = some res) (W : World) (w0 : World) (R : Res) (A0_0 : Option Addr) (n0_0 c0_0 : Nat) (hn0_0 : n0_0 = p0.length) (fid3 : Nat) (caps3 : List Value) (hgo3 : goes Try.prog fid3 = true) (hof3 : ∀ W2, Below w0.heap.size w0 W2 → R.holds W2 → ∀ x0 x1 y, p3 x0 x1 = some y → Calls Try.prog fid3 (([.agg #[.int .i64 x0.fID, .int .i64 x0.fAt.fFoot, .int .i64 x0.fAt.fHour, .int .i64 x0.fHeat.fLo, .int .i64 x0.fHeat.fHi], .agg #[.int .i64 x1.fID, .int .i64 x1.fAt.fFoot, .int .i64 x1.fAt.fHour, .int .i64 x1.fHeat.fLo, .int .i64 x1.fHeat.fHi]] : List Value) ++ caps3).toArray W2 fun e W3 => e = .returned (.int .i64 y) ∧ Ext W2 W3 []) (hW : Ext w0 W [R, rowR A0_0 c0_0 34 5 n0_0 (encL TLook_cells p0)]) :
    Calls Try.prog 127 [.slice A0_0 n0_0 c0_0, .int .i64 p1, .int .i64 p2, .func (.func fid3) #[] caps3.toArray].toArray W fun e W2 => e = .returned (.bool res.1) ∧ n0_0 = res.2.length ∧ Ext w0 W2 [R, rowR A0_0 c0_0 34 5 n0_0 (encL TLook_cells res.2)] := by
  subst hn0_0
  unfold slices_partialInsertionSortCmpFunc_calx_api_Look at h
  refine calls_enterB (m := 141) Try.func127 rfl rfl (Nat.le_of_ble_eq_true rfl) hW ?_
  refine cx_seq ?_
  refine cx_region ?_
  refine ox_y rfl (y_assign_bool rfl) ?_
  refine ox_nil ?_
  refine ex_then ?_
  refine cx_seq ?_
  refine cx_region ?_
  refine ox_y rfl (y_move_int rfl) ?_
  refine ox_y rfl (y_add rfl rfl) ?_
  refine ox_y rfl (y_assign_int rfl) ?_
  refine ox_nil ?_
  refine ex_then ?_
  refine cx_seq ?_
  refine cx_seq ?_
  refine cx_region ?_
  refine ox_y rfl (y_assign_int rfl) ?_
  refine ox_nil ?_
  refine ex_then ?_
  refine cx_block ?_
  obtain ⟨u3, hl19, h⟩ := bind_some h
  refine cx_loop (fun (s : (Bool × Int × Int)) L tm => ∃ (tm0 : Nat → Value), L = [R, rowR A0_0 c0_0 34 5 p0.length (encL TLook_cells p0)] ∧ tm = (upd (upd (upd (upd (upd (upd (upd tm0 0 (.slice A0_0 p0.length c0_0)) 1 (.int .i64 p1)) 2 (.int .i64 p2)) 3 (.func (.func fid3) #[] caps3.toArray)) 8 (.bool s.1)) 9 (.int .i64 s.2.1)) 10 (.int .i64 s.2.2))) (fun | (.inl s), e, L, tm => e = .ret ∧ ∃ (tm0 : Nat → Value), L = [R, rowR A0_0 c0_0 34 5 p0.length (encL TLook_cells p0)] ∧ tm = (upd (upd (upd (upd (upd (upd (upd tm0 0 (.slice A0_0 p0.length c0_0)) 1 (.int .i64 p1)) 2 (.int .i64 p2)) 3 (.func (.func fid3) #[] caps3.toArray)) 8 (.bool s.1)) 9 (.int .i64 s.2.1)) 10 (.int .i64 s.2.2)) | (.inr s), e, L, tm => e = .exit 0 ∧ ∃ (tm0 : Nat → Value), L = [R, rowR A0_0 c0_0 34 5 p0.length (encL TLook_cells p0)] ∧ tm = (upd (upd (upd (upd (upd (upd (upd tm0 0 (.slice A0_0 p0.length c0_0)) 1 (.int .i64 p1)) 2 (.int .i64 p2)) 3 (.func (.func fid3) #[] caps3.toArray)) 8 (.bool s.1)) 9 (.int .i64 s.2.1)) 10 (.int .i64 s.2.2))) hl19 ⟨_, rfl, (keep (keep (keep (keep (keep (keep (keep rfl rfl) rfl) rfl) rfl) rfl) rfl) rfl)⟩ ?_ ?_
  · rintro s2 L tm st ⟨tm0_s2, rfl, rfl⟩ h
    unfold slices_partialInsertionSortCmpFunc_calx_api_Look_l1 at h
    refine cx_seq ?_
    refine cx_seq ?_
    refine cx_region ?_
    refine ox_y rfl (y_move_int rfl) ?_
    refine ox_y rfl (y_lss rfl rfl) ?_
    refine ox_nil ?_
    refine ex_then ?_
    rcases ite_some h with ⟨hp4, h⟩ | ⟨hp4, h⟩
    · refine cx_true (congrArg Value.bool hp4) ?_
      refine cx_skip ?_
      refine ex_then ?_
      refine cx_seq ?_
      refine cx_block ?_
      refine cx_seq ?_
      refine cx_block ?_
      obtain ⟨u7, hl16, h⟩ := bind_some h
      refine cx_loop (fun (s : Int) L tm => ∃ (tm0 : Nat → Value), L = [R, rowR A0_0 c0_0 34 5 p0.length (encL TLook_cells p0)] ∧ tm = (upd (upd (upd (upd (upd (upd (upd (upd tm0 0 (.slice A0_0 p0.length c0_0)) 1 (.int .i64 p1)) 2 (.int .i64 p2)) 3 (.func (.func fid3) #[] caps3.toArray)) 8 (.bool s2.1)) 9 (.int .i64 s)) 10 (.int .i64 s2.2.2)) 16 (.bool (decide (s2.2.2 < 5))))) (fun s e L tm => e = .exit 2 ∧ ∃ (tm0 : Nat → Value), L = [R, rowR A0_0 c0_0 34 5 p0.length (encL TLook_cells p0)] ∧ tm = (upd (upd (upd (upd (upd (upd (upd (upd tm0 0 (.slice A0_0 p0.length c0_0)) 1 (.int .i64 p1)) 2 (.int .i64 p2)) 3 (.func (.func fid3) #[] caps3.toArray)) 8 (.bool s2.1)) 9 (.int .i64 s)) 10 (.int .i64 s2.2.2)) 16 (.bool (decide (s2.2.2 < 5))))) hl16 ⟨_, rfl, (keep (keep (keep (keep (keep (keep (keep (keep rfl rfl) rfl) rfl) rfl) rfl) rfl) rfl) rfl)⟩ ?_ ?_
      · rintro s6 L tm st ⟨tm0_s6, rfl, rfl⟩ h
        unfold slices_partialInsertionSortCmpFunc_calx_api_Look_l2 at h
        refine cx_seq ?_
        refine cx_seq ?_
        refine cx_draws 18 mixed (by kernel_rfl) (by kernel_rfl) ?_
        refine qx_y rfl (y_move_int rfl) ?_
        refine qx_y rfl (y_move_int rfl) ?_
        refine qx_y rfl (y_lss rfl rfl) ?_
        refine qx_y rfl (y_move_bool rfl) ?_
        obtain ⟨b9, hb10, h⟩ := bind_some h
        refine qx_join 14 (fun tm0 => (upd (upd (upd (upd (upd (upd (upd (upd (upd tm0 0 (.slice A0_0 p0.length c0_0)) 1 (.int .i64 p1)) 2 (.int .i64 p2)) 3 (.func (.func fid3) #[] caps3.toArray)) 8 (.bool s2.1)) 9 (.int .i64 s6)) 10 (.int .i64 s2.2.2)) 16 (.bool (decide (s2.2.2 < 5)))) 36 (.bool b9))) (fun tm0 => ?_) (fun key => ?_)
        · refine qx_nil ?_
          refine ox_nil ?_
          refine ex_then ?_
          rcases ite_some h with ⟨hp11, h⟩ | ⟨hp11, h⟩
          · refine cx_true (congrArg Value.bool hp11) ?_
            refine cx_skip ?_
            refine ex_then ?_
            refine cx_block ?_
            refine cx_region ?_
            refine ox_y rfl (y_move_int rfl) ?_
            refine ox_y rfl (y_add rfl rfl) ?_
            refine ox_y rfl (y_assign_int rfl) ?_
            refine ox_nil ?_
            refine ex_block ?_
            obtain rfl := Option.some.inj h
            exact ex_next ⟨_, rfl, (keep (keep (keep (keep (keep (keep (keep (keep rfl rfl) rfl) rfl) rfl) rfl) rfl) rfl) rfl)⟩
          · refine cx_false (congrArg Value.bool hp11) ?_
            refine cx_exit ?_
            refine ex_then_exit ?_
            obtain rfl := Option.some.inj h
            exact ex_stop ⟨rfl, _, rfl, (keep (keep (keep (keep (keep (keep (keep (keep rfl rfl) rfl) rfl) rfl) rfl) rfl) rfl) rfl)⟩
        · clear h; rcases ite_some hb10 with ⟨hp8, h⟩ | ⟨hp8, h⟩
          · refine qx_y (sees_t rfl rfl rfl rfl hp8) (y_move (v := .func (.func fid3) #[] caps3.toArray) rfl) ?_
            refine qx_y (sees_t rfl rfl rfl rfl hp8) (y_move_slice rfl) ?_
            refine qx_y (sees_t rfl rfl rfl rfl hp8) (y_move_int rfl) ?_
            obtain ⟨hg12, h⟩ := guardO_some h
            refine qx_y (sees_t rfl rfl rfl rfl hp8) (y_indexR sl_22 (by decide) hg12.1 hg12.2 (RdL.row 1 rfl) (encL_len TLook_cells_len rfl) rfl rfl) ?_
            refine qx_y (sees_t rfl rfl rfl rfl hp8) (y_loadRN (A := A0_0) (j := (Int.toNat s6 * 5)) [.int .i64 ((rdL p0 s6).fID), .int .i64 ((rdL p0 s6).fAt.fFoot), .int .i64 ((rdL p0 s6).fAt.fHour), .int .i64 ((rdL p0 s6).fHeat.fLo), .int .i64 ((rdL p0 s6).fHeat.fHi)] ag_34 (Nat.succ_pos _) (RdL.row 1 rfl) rfl (encL_gets TLook_cells_len hg12.1 (lt_nat hg12.2 rfl))) ?_
            refine qx_y (sees_t rfl rfl rfl rfl hp8) (y_move_slice rfl) ?_
            refine qx_y (sees_t rfl rfl rfl rfl hp8) (y_move_int rfl) ?_
            refine qx_y (sees_t rfl rfl rfl rfl hp8) (y_sub rfl rfl) ?_
            obtain ⟨hg13, h⟩ := guardO_some h
            refine qx_y (sees_t rfl rfl rfl rfl hp8) (y_indexR sl_22 (by decide) hg13.1 hg13.2 (RdL.row 1 rfl) (encL_len TLook_cells_len rfl) rfl rfl) ?_
            refine qx_y (sees_t rfl rfl rfl rfl hp8) (y_loadRN (A := A0_0) (j := (Int.toNat (w64 (s6 - 1)) * 5)) [.int .i64 ((rdL p0 (w64 (s6 - 1))).fID), .int .i64 ((rdL p0 (w64 (s6 - 1))).fAt.fFoot), .int .i64 ((rdL p0 (w64 (s6 - 1))).fAt.fHour), .int .i64 ((rdL p0 (w64 (s6 - 1))).fHeat.fLo), .int .i64 ((rdL p0 (w64 (s6 - 1))).fHeat.fHi)] ag_34 (Nat.succ_pos _) (RdL.row 1 rfl) rfl (encL_gets TLook_cells_len hg13.1 (lt_nat hg13.2 rfl))) ?_
            obtain ⟨y14, hy15, h⟩ := bind_some h
            refine qx_y (sees_t rfl rfl rfl rfl hp8) (y_callv [.agg #[.int .i64 ((rdL p0 s6).fID), .int .i64 ((rdL p0 s6).fAt.fFoot), .int .i64 ((rdL p0 s6).fAt.fHour), .int .i64 ((rdL p0 s6).fHeat.fLo), .int .i64 ((rdL p0 s6).fHeat.fHi)], .agg #[.int .i64 ((rdL p0 (w64 (s6 - 1))).fID), .int .i64 ((rdL p0 (w64 (s6 - 1))).fAt.fFoot), .int .i64 ((rdL p0 (w64 (s6 - 1))).fAt.fHour), .int .i64 ((rdL p0 (w64 (s6 - 1))).fHeat.fLo), .int .i64 ((rdL p0 (w64 (s6 - 1))).fHeat.fHi)]] hgo3 rfl rfl (fun W2 hW2 => hof3 W2 hW2.below (hW2.mem (i := 0) rfl) (rdL p0 s6) (rdL p0 (w64 (s6 - 1))) y14 hy15)) ?_
            refine qx_y (sees_t rfl rfl rfl rfl hp8) (y_lss rfl rfl) ?_
            refine qx_y (sees_t rfl rfl rfl rfl hp8) (y_not rfl) ?_
            refine qx_y rfl (y_pick_tb (congrArg Value.bool hp8) rfl) ?_
            obtain rfl := Option.some.inj h
            exact key _ _ (keep (keep (keep (keep (keep (keep (keep (keep (keep rfl rfl) rfl) rfl) rfl) rfl) rfl) rfl) rfl) rfl)
          · refine qx_skip (sees_f rfl rfl rfl rfl hp8) ?_
            refine qx_skip (sees_f rfl rfl rfl rfl hp8) ?_
            refine qx_skip (sees_f rfl rfl rfl rfl hp8) ?_
            refine qx_skip (sees_f rfl rfl rfl rfl hp8) ?_
            refine qx_skip (sees_f rfl rfl rfl rfl hp8) ?_
            refine qx_skip (sees_f rfl rfl rfl rfl hp8) ?_
            refine qx_skip (sees_f rfl rfl rfl rfl hp8) ?_
            refine qx_skip (sees_f rfl rfl rfl rfl hp8) ?_
            refine qx_skip (sees_f rfl rfl rfl rfl hp8) ?_
            refine qx_skip (sees_f rfl rfl rfl rfl hp8) ?_
            refine qx_skip (sees_f rfl rfl rfl rfl hp8) ?_
            refine qx_skip (sees_f rfl rfl rfl rfl hp8) ?_
            refine qx_skip (sees_f rfl rfl rfl rfl hp8) ?_
            refine qx_y rfl (y_pick_fb (congrArg Value.bool hp8) rfl) ?_
            obtain rfl := Option.some.inj h
            exact key _ _ (keep (keep (keep (keep (keep (keep (keep (keep (keep rfl rfl) rfl) rfl) rfl) rfl) rfl) rfl) rfl) rfl)
      · intro e L tm hJ
        obtain ⟨rfl, tm0_u7, rfl, rfl⟩ := hJ
        refine ⟨(by intro hc; cases hc), ?_⟩
        refine ex_block_here ?_
        refine ex_then ?_
        refine cx_seq ?_
        refine cx_seq ?_
        refine cx_region ?_
        refine ox_y rfl (y_move_int rfl) ?_
        refine ox_y rfl (y_move_int rfl) ?_
        refine ox_y rfl (y_eql rfl rfl) ?_
        refine ox_nil ?_
        refine ex_then ?_
        rcases ite_some h with ⟨hp17, h⟩ | ⟨hp17, h⟩
        · refine cx_true (congrArg Value.bool hp17) ?_
          refine cx_seq ?_
          refine cx_region ?_
          refine ox_y rfl (y_assign_bool rfl) ?_
          refine ox_nil ?_
          refine ex_then ?_
          refine cx_ret ?_
          refine ex_then_ret ?_
          refine ex_block_ret ?_
          refine ex_then_ret ?_
          obtain rfl := Option.some.inj h
          exact ex_stop ⟨rfl, _, rfl, (keep (keep (keep (keep (keep (keep (keep rfl rfl) rfl) rfl) rfl) rfl) rfl) rfl)⟩
        · refine cx_false (congrArg Value.bool hp17) ?_
          refine cx_skip ?_
          refine ex_then ?_
          refine cx_seq ?_
          refine cx_seq ?_
          refine cx_region ?_
          refine ox_y rfl (y_move_int rfl) ?_
          refine ox_y rfl (y_move_int rfl) ?_
          refine ox_y rfl (y_sub rfl rfl) ?_
          refine ox_y rfl (y_lss rfl rfl) ?_
          refine ox_nil ?_
          refine ex_then ?_
          obtain ⟨hp18, h⟩ := guardO_some h
          refine cx_true (congrArg Value.bool hp18) ?_
          refine cx_seq ?_
          refine cx_region ?_
          refine ox_y rfl (y_assign_bool rfl) ?_
          refine ox_nil ?_
          refine ex_then ?_
          refine cx_ret ?_
          refine ex_then_ret ?_
          refine ex_block_ret ?_
          refine ex_then_ret ?_
          obtain rfl := Option.some.inj h
          exact ex_stop ⟨rfl, _, rfl, (keep (keep (keep (keep (keep (keep (keep rfl rfl) rfl) rfl) rfl) rfl) rfl) rfl)⟩
    · refine cx_false (congrArg Value.bool hp4) ?_
      refine cx_exit ?_
      refine ex_then_exit ?_
      obtain rfl := Option.some.inj h
      exact ex_stop ⟨rfl, _, rfl, (keep (keep (keep (keep (keep (keep (keep rfl rfl) rfl) rfl) rfl) rfl) rfl) rfl)⟩
  · intro e L tm hJ
    rcases u3 with u20 | u21
    · dsimp only at h hJ
      obtain ⟨rfl, tm0_u20, rfl, rfl⟩ := hJ
      refine ⟨(by intro hc; cases hc), ?_⟩
      refine ex_block_ret ?_
      refine ex_then_ret ?_
      obtain rfl := Option.some.inj h
      exact ex_res1 (.inl rfl) rfl (resV_tmp (v := .bool u20.1) rfl) (fun W2 hW2 => ⟨rfl, rfl, hW2.take 2⟩)
    · dsimp only at h hJ
      obtain ⟨rfl, tm0_u21, rfl, rfl⟩ := hJ
      refine ⟨(by intro hc; cases hc), ?_⟩
      refine ex_block_here ?_
      refine ex_then ?_
      refine cx_seq ?_
      refine cx_region ?_
      refine ox_y rfl (y_assign_bool rfl) ?_
      refine ox_nil ?_
      refine ex_then ?_
      refine cx_ret ?_
      obtain rfl := Option.some.inj h
      exact ex_res1 (.inl rfl) rfl (resV_tmp (v := .bool false) rfl) (fun W2 hW2 => ⟨rfl, rfl, hW2.take 2⟩)

/-! slices.partitionCmpFunc[calx/api.Look] -/
set_option maxRecDepth 100000 in
theorem slices_partitionCmpFunc_calx_api_Look_ok (p0 : (List TLook)) (p1 : Int) (p2 : Int) (p3 : Int) (p4 : TLook → TLook → Option Int) (res : (Int × Bool × (List TLook))) (h : slices_partitionCmpFunc_calx_api_Look p0 p1 p2 p3 p4 = some res) (W : World) (w0 : World) (R : Res) (A0_0 : Option Addr) (n0_0 c0_0 : Nat) (hn0_0 : n0_0 = p0.length) (fid4 : Nat) (caps4 : List Value) (hgo4 : goes Try.prog fid4 = true) (hof4 : ∀ W2, Below w0.heap.size w0 W2 → R.holds W2 → ∀ x0 x1 y, p4 x0 x1 = some y → Calls Try.prog fid4 (([.agg #[.int .i64 x0.fID, .int .i64 x0.fAt.fFoot, .int .i64 x0.fAt.fHour, .int .i64 x0.fHeat.fLo, .int .i64 x0.fHeat.fHi], .agg #[.int .i64 x1.fID, .int .i64 x1.fAt.fFoot, .int .i64 x1.fAt.fHour, .int .i64 x1.fHeat.fLo, .int .i64 x1.fHeat.fHi]] : List Value) ++ caps4).toArray W2 fun e W3 => e = .returned (.int .i64 y) ∧ Ext W2 W3 []) (hW : Ext w0 W [R, rowR A0_0 c0_0 34 5 n0_0 (encL TLook_cells p0)]) :
    Calls Try.prog 129 [.slice A0_0 n0_0 c0_0, .int .i64 p1, .int .i64 p2, .int .i64 p3, .func (.func fid4) #[] caps4.toArray].toArray W fun e W2 => e = .returned (.tuple #[.int .i64 res.1, .bool res.2.1]) ∧ n0_0 = res.2.2.length ∧ Ext w0 W2 [R, rowR A0_0 c0_0 34 5 n0_0 (encL TLook_cells res.2.2)] := by
  subst hn0_0
  unfold slices_partitionCmpFunc_calx_api_Look at h
  refine calls_enterB (m := 178) Try.func129 rfl rfl (Nat.le_of_ble_eq_true rfl) hW ?_
  refine cx_seq ?_
  refine cx_region ?_
  refine ox_y rfl (y_assign_int rfl) ?_
  refine ox_y rfl (y_assign_bool rfl) ?_
  refine ox_nil ?_
  refine ex_then ?_
  refine cx_seq ?_
  refine cx_drawsF [2, 3] 13 mixed (by kernel_rfl) (by kernel_rfl) ?_
  refine qx_y rfl (y_move_slice rfl) ?_
  refine qx_y rfl (y_move_int rfl) ?_
  refine qx_y rfl (y_move_slice rfl) ?_
  refine qx_y rfl (y_move_int rfl) ?_
  refine qx_y rfl (y_move_slice rfl) ?_
  refine qx_y rfl (y_move_int rfl) ?_
  obtain ⟨hg1, h⟩ := guardO_some h
  refine qx_y rfl (y_indexR sl_22 (by decide) hg1.1 hg1.2 (RdL.row 1 rfl) (encL_len TLook_cells_len rfl) rfl rfl) ?_
  refine qx_y rfl (y_loadRN (A := A0_0) (j := (Int.toNat p3 * 5)) [.int .i64 ((rdL p0 p3).fID), .int .i64 ((rdL p0 p3).fAt.fFoot), .int .i64 ((rdL p0 p3).fAt.fHour), .int .i64 ((rdL p0 p3).fHeat.fLo), .int .i64 ((rdL p0 p3).fHeat.fHi)] ag_34 (Nat.succ_pos _) (RdL.row 1 rfl) rfl (encL_gets TLook_cells_len hg1.1 (lt_nat hg1.2 rfl))) ?_
  refine qx_y rfl (y_move_slice rfl) ?_
  refine qx_y rfl (y_move_int rfl) ?_
  obtain ⟨hg2, h⟩ := guardO_some h
  refine qx_y rfl (y_indexR sl_22 (by decide) hg2.1 hg2.2 (RdL.row 1 rfl) (encL_len TLook_cells_len rfl) rfl rfl) ?_
  refine qx_y rfl (y_loadRN (A := A0_0) (j := (Int.toNat p1 * 5)) [.int .i64 ((rdL p0 p1).fID), .int .i64 ((rdL p0 p1).fAt.fFoot), .int .i64 ((rdL p0 p1).fAt.fHour), .int .i64 ((rdL p0 p1).fHeat.fLo), .int .i64 ((rdL p0 p1).fHeat.fHi)] ag_34 (Nat.succ_pos _) (RdL.row 1 rfl) rfl (encL_gets TLook_cells_len hg2.1 (lt_nat hg2.2 rfl))) ?_
  obtain ⟨hg3, h⟩ := guardO_some h
  refine qx_y rfl (y_indexR sl_22 (by decide) hg3.1 hg3.2 (RdL.row 1 rfl) (encL_len TLook_cells_len rfl) rfl rfl) ?_
  refine qx_nil ?_
  refine ox_n rfl (y_storeRN 1 (xs := p0) [.int .i64 ((rdL p0 p3).fID), .int .i64 ((rdL p0 p3).fAt.fFoot), .int .i64 ((rdL p0 p3).fAt.fHour), .int .i64 ((rdL p0 p3).fHeat.fLo), .int .i64 ((rdL p0 p3).fHeat.fHi)] TLook_cells_len (Nat.succ_pos _) (rdL p0 p3) sz_34 rfl hg3.1 (lt_nat hg3.2 rfl) rfl rfl rfl rfl) ?_
  obtain ⟨hg4, h⟩ := guardO_some h
  refine ox_y rfl (y_indexR sl_22 (by decide) hg4.1 hg4.2 (RdL.row 1 rfl) (encL_len TLook_cells_len (hn_set rfl)) rfl rfl) ?_
  refine ox_n rfl (y_storeRN 1 (xs := (p0.set (Int.toNat p1) (rdL p0 p3))) [.int .i64 ((rdL p0 p1).fID), .int .i64 ((rdL p0 p1).fAt.fFoot), .int .i64 ((rdL p0 p1).fAt.fHour), .int .i64 ((rdL p0 p1).fHeat.fLo), .int .i64 ((rdL p0 p1).fHeat.fHi)] TLook_cells_len (Nat.succ_pos _) (rdL p0 p1) sz_34 rfl hg4.1 (lt_nat hg4.2 (hn_set rfl)) rfl rfl rfl rfl) ?_
  refine ox_nil ?_
  refine ex_only ?_
  refine ex_then ?_
  refine cx_seq ?_
  refine cx_region ?_
  refine ox_y rfl (y_move_int rfl) ?_
  refine ox_y rfl (y_add rfl rfl) ?_
  refine ox_y rfl (y_move_int rfl) ?_
  refine ox_y rfl (y_sub rfl rfl) ?_
  refine ox_y rfl (y_assign_int rfl) ?_
  refine ox_y rfl (y_assign_int rfl) ?_
  refine ox_nil ?_
  refine ex_then ?_
  refine cx_seq ?_
  refine cx_block ?_
  obtain ⟨u7, hl16, h⟩ := bind_some h
  refine cx_loop (fun (s : Int) L tm => ∃ (tm0 : Nat → Value), L = [R, rowR A0_0 c0_0 34 5 p0.length (encL TLook_cells ((p0.set (Int.toNat p1) (rdL p0 p3)).set (Int.toNat p3) (rdL p0 p1)))] ∧ tm = (upd (upd (upd (upd (upd (upd (upd (upd (upd tm0 0 (.slice A0_0 p0.length c0_0)) 1 (.int .i64 p1)) 2 (.int .i64 p2)) 3 (.int .i64 p3)) 4 (.func (.func fid4) #[] caps4.toArray)) 10 (.int .i64 0)) 11 (.bool false)) 12 (.int .i64 s)) 13 (.int .i64 (w64 (p2 - 1))))) (fun s e L tm => e = .exit 0 ∧ ∃ (tm0 : Nat → Value), L = [R, rowR A0_0 c0_0 34 5 p0.length (encL TLook_cells ((p0.set (Int.toNat p1) (rdL p0 p3)).set (Int.toNat p3) (rdL p0 p1)))] ∧ tm = (upd (upd (upd (upd (upd (upd (upd (upd (upd tm0 0 (.slice A0_0 p0.length c0_0)) 1 (.int .i64 p1)) 2 (.int .i64 p2)) 3 (.int .i64 p3)) 4 (.func (.func fid4) #[] caps4.toArray)) 10 (.int .i64 0)) 11 (.bool false)) 12 (.int .i64 s)) 13 (.int .i64 (w64 (p2 - 1))))) hl16 ⟨_, rfl, (keep (keep (keep (keep (keep (keep (keep (keep (keep rfl rfl) rfl) rfl) rfl) rfl) rfl) rfl) rfl) rfl)⟩ ?_ ?_
  · rintro s6 L tm st ⟨tm0_s6, rfl, rfl⟩ h
    unfold slices_partitionCmpFunc_calx_api_Look_l1 at h
    refine cx_seq ?_
    refine cx_seq ?_
    refine cx_draws 16 mixed (by kernel_rfl) (by kernel_rfl) ?_
    refine qx_y rfl (y_move_int rfl) ?_
    refine qx_y rfl (y_move_int rfl) ?_
    refine qx_y rfl (y_leq rfl rfl) ?_
    refine qx_y rfl (y_move_bool rfl) ?_
    obtain ⟨b9, hb10, h⟩ := bind_some h
    refine qx_join 12 (fun tm0 => (upd (upd (upd (upd (upd (upd (upd (upd (upd (upd tm0 0 (.slice A0_0 p0.length c0_0)) 1 (.int .i64 p1)) 2 (.int .i64 p2)) 3 (.int .i64 p3)) 4 (.func (.func fid4) #[] caps4.toArray)) 10 (.int .i64 0)) 11 (.bool false)) 12 (.int .i64 s6)) 13 (.int .i64 (w64 (p2 - 1)))) 47 (.bool b9))) (fun tm0 => ?_) (fun key => ?_)
    · refine qx_nil ?_
      refine ox_nil ?_
      refine ex_then ?_
      rcases ite_some h with ⟨hp11, h⟩ | ⟨hp11, h⟩
      · refine cx_true (congrArg Value.bool hp11) ?_
        refine cx_skip ?_
        refine ex_then ?_
        refine cx_block ?_
        refine cx_region ?_
        refine ox_y rfl (y_move_int rfl) ?_
        refine ox_y rfl (y_add rfl rfl) ?_
        refine ox_y rfl (y_assign_int rfl) ?_
        refine ox_nil ?_
        refine ex_block ?_
        obtain rfl := Option.some.inj h
        exact ex_next ⟨_, rfl, (keep (keep (keep (keep (keep (keep (keep (keep (keep rfl rfl) rfl) rfl) rfl) rfl) rfl) rfl) rfl) rfl)⟩
      · refine cx_false (congrArg Value.bool hp11) ?_
        refine cx_exit ?_
        refine ex_then_exit ?_
        obtain rfl := Option.some.inj h
        exact ex_stop ⟨rfl, _, rfl, (keep (keep (keep (keep (keep (keep (keep (keep (keep rfl rfl) rfl) rfl) rfl) rfl) rfl) rfl) rfl) rfl)⟩
    · clear h; rcases ite_some hb10 with ⟨hp8, h⟩ | ⟨hp8, h⟩
      · refine qx_y (sees_t rfl rfl rfl rfl hp8) (y_move (v := .func (.func fid4) #[] caps4.toArray) rfl) ?_
        refine qx_y (sees_t rfl rfl rfl rfl hp8) (y_move_slice rfl) ?_
        refine qx_y (sees_t rfl rfl rfl rfl hp8) (y_move_int rfl) ?_
        obtain ⟨hg12, h⟩ := guardO_some h
        refine qx_y (sees_t rfl rfl rfl rfl hp8) (y_indexR sl_22 (by decide) hg12.1 hg12.2 (RdL.row 1 rfl) (encL_len TLook_cells_len (hn_set (hn_set rfl))) rfl rfl) ?_
        refine qx_y (sees_t rfl rfl rfl rfl hp8) (y_loadRN (A := A0_0) (j := (Int.toNat s6 * 5)) [.int .i64 ((rdL ((p0.set (Int.toNat p1) (rdL p0 p3)).set (Int.toNat p3) (rdL p0 p1)) s6).fID), .int .i64 ((rdL ((p0.set (Int.toNat p1) (rdL p0 p3)).set (Int.toNat p3) (rdL p0 p1)) s6).fAt.fFoot), .int .i64 ((rdL ((p0.set (Int.toNat p1) (rdL p0 p3)).set (Int.toNat p3) (rdL p0 p1)) s6).fAt.fHour), .int .i64 ((rdL ((p0.set (Int.toNat p1) (rdL p0 p3)).set (Int.toNat p3) (rdL p0 p1)) s6).fHeat.fLo), .int .i64 ((rdL ((p0.set (Int.toNat p1) (rdL p0 p3)).set (Int.toNat p3) (rdL p0 p1)) s6).fHeat.fHi)] ag_34 (Nat.succ_pos _) (RdL.row 1 rfl) rfl (encL_gets TLook_cells_len hg12.1 (lt_nat hg12.2 (hn_set (hn_set rfl))))) ?_
        refine qx_y (sees_t rfl rfl rfl rfl hp8) (y_move_slice rfl) ?_
        refine qx_y (sees_t rfl rfl rfl rfl hp8) (y_move_int rfl) ?_
        obtain ⟨hg13, h⟩ := guardO_some h
        refine qx_y (sees_t rfl rfl rfl rfl hp8) (y_indexR sl_22 (by decide) hg13.1 hg13.2 (RdL.row 1 rfl) (encL_len TLook_cells_len (hn_set (hn_set rfl))) rfl rfl) ?_
        refine qx_y (sees_t rfl rfl rfl rfl hp8) (y_loadRN (A := A0_0) (j := (Int.toNat p1 * 5)) [.int .i64 ((rdL ((p0.set (Int.toNat p1) (rdL p0 p3)).set (Int.toNat p3) (rdL p0 p1)) p1).fID), .int .i64 ((rdL ((p0.set (Int.toNat p1) (rdL p0 p3)).set (Int.toNat p3) (rdL p0 p1)) p1).fAt.fFoot), .int .i64 ((rdL ((p0.set (Int.toNat p1) (rdL p0 p3)).set (Int.toNat p3) (rdL p0 p1)) p1).fAt.fHour), .int .i64 ((rdL ((p0.set (Int.toNat p1) (rdL p0 p3)).set (Int.toNat p3) (rdL p0 p1)) p1).fHeat.fLo), .int .i64 ((rdL ((p0.set (Int.toNat p1) (rdL p0 p3)).set (Int.toNat p3) (rdL p0 p1)) p1).fHeat.fHi)] ag_34 (Nat.succ_pos _) (RdL.row 1 rfl) rfl (encL_gets TLook_cells_len hg13.1 (lt_nat hg13.2 (hn_set (hn_set rfl))))) ?_
        obtain ⟨y14, hy15, h⟩ := bind_some h
        refine qx_y (sees_t rfl rfl rfl rfl hp8) (y_callv [.agg #[.int .i64 ((rdL ((p0.set (Int.toNat p1) (rdL p0 p3)).set (Int.toNat p3) (rdL p0 p1)) s6).fID), .int .i64 ((rdL ((p0.set (Int.toNat p1) (rdL p0 p3)).set (Int.toNat p3) (rdL p0 p1)) s6).fAt.fFoot), .int .i64 ((rdL ((p0.set (Int.toNat p1) (rdL p0 p3)).set (Int.toNat p3) (rdL p0 p1)) s6).fAt.fHour), .int .i64 ((rdL ((p0.set (Int.toNat p1) (rdL p0 p3)).set (Int.toNat p3) (rdL p0 p1)) s6).fHeat.fLo), .int .i64 ((rdL ((p0.set (Int.toNat p1) (rdL p0 p3)).set (Int.toNat p3) (rdL p0 p1)) s6).fHeat.fHi)], .agg #[.int .i64 ((rdL ((p0.set (Int.toNat p1) (rdL p0 p3)).set (Int.toNat p3) (rdL p0 p1)) p1).fID), .int .i64 ((rdL ((p0.set (Int.toNat p1) (rdL p0 p3)).set (Int.toNat p3) (rdL p0 p1)) p1).fAt.fFoot), .int .i64 ((rdL ((p0.set (Int.toNat p1) (rdL p0 p3)).set (Int.toNat p3) (rdL p0 p1)) p1).fAt.fHour), .int .i64 ((rdL ((p0.set (Int.toNat p1) (rdL p0 p3)).set (Int.toNat p3) (rdL p0 p1)) p1).fHeat.fLo), .int .i64 ((rdL ((p0.set (Int.toNat p1) (rdL p0 p3)).set (Int.toNat p3) (rdL p0 p1)) p1).fHeat.fHi)]] hgo4 rfl rfl (fun W2 hW2 => hof4 W2 hW2.below (hW2.mem (i := 0) rfl) (rdL ((p0.set (Int.toNat p1) (rdL p0 p3)).set (Int.toNat p3) (rdL p0 p1)) s6) (rdL ((p0.set (Int.toNat p1) (rdL p0 p3)).set (Int.toNat p3) (rdL p0 p1)) p1) y14 hy15)) ?_
        refine qx_y (sees_t rfl rfl rfl rfl hp8) (y_lss rfl rfl) ?_
        refine qx_y rfl (y_pick_tb (congrArg Value.bool hp8) rfl) ?_
        obtain rfl := Option.some.inj h
        exact key _ _ (keep (keep (keep (keep (keep (keep (keep (keep (keep (keep rfl rfl) rfl) rfl) rfl) rfl) rfl) rfl) rfl) rfl) rfl)
      · refine qx_skip (sees_f rfl rfl rfl rfl hp8) ?_
        refine qx_skip (sees_f rfl rfl rfl rfl hp8) ?_
        refine qx_skip (sees_f rfl rfl rfl rfl hp8) ?_
        refine qx_skip (sees_f rfl rfl rfl rfl hp8) ?_
        refine qx_skip (sees_f rfl rfl rfl rfl hp8) ?_
        refine qx_skip (sees_f rfl rfl rfl rfl hp8) ?_
        refine qx_skip (sees_f rfl rfl rfl rfl hp8) ?_
        refine qx_skip (sees_f rfl rfl rfl rfl hp8) ?_
        refine qx_skip (sees_f rfl rfl rfl rfl hp8) ?_
        refine qx_skip (sees_f rfl rfl rfl rfl hp8) ?_
        refine qx_skip (sees_f rfl rfl rfl rfl hp8) ?_
        refine qx_y rfl (y_pick_fb (congrArg Value.bool hp8) rfl) ?_
        obtain rfl := Option.some.inj h
        exact key _ _ (keep (keep (keep (keep (keep (keep (keep (keep (keep (keep rfl rfl) rfl) rfl) rfl) rfl) rfl) rfl) rfl) rfl) rfl)
  · intro e L tm hJ
    obtain ⟨rfl, tm0_u7, rfl, rfl⟩ := hJ
    refine ⟨(by intro hc; cases hc), ?_⟩
    refine ex_block_here ?_
    refine ex_then ?_
    refine cx_seq ?_
    refine cx_block ?_
    obtain ⟨u19, hl28, h⟩ := bind_some h
    refine cx_loop (fun (s : Int) L tm => ∃ (tm0 : Nat → Value), L = [R, rowR A0_0 c0_0 34 5 p0.length (encL TLook_cells ((p0.set (Int.toNat p1) (rdL p0 p3)).set (Int.toNat p3) (rdL p0 p1)))] ∧ tm = (upd (upd (upd (upd (upd (upd (upd (upd (upd tm0 0 (.slice A0_0 p0.length c0_0)) 1 (.int .i64 p1)) 2 (.int .i64 p2)) 3 (.int .i64 p3)) 4 (.func (.func fid4) #[] caps4.toArray)) 10 (.int .i64 0)) 11 (.bool false)) 12 (.int .i64 u7)) 13 (.int .i64 s))) (fun s e L tm => e = .exit 2 ∧ ∃ (tm0 : Nat → Value), L = [R, rowR A0_0 c0_0 34 5 p0.length (encL TLook_cells ((p0.set (Int.toNat p1) (rdL p0 p3)).set (Int.toNat p3) (rdL p0 p1)))] ∧ tm = (upd (upd (upd (upd (upd (upd (upd (upd (upd tm0 0 (.slice A0_0 p0.length c0_0)) 1 (.int .i64 p1)) 2 (.int .i64 p2)) 3 (.int .i64 p3)) 4 (.func (.func fid4) #[] caps4.toArray)) 10 (.int .i64 0)) 11 (.bool false)) 12 (.int .i64 u7)) 13 (.int .i64 s))) hl28 ⟨_, rfl, (keep (keep (keep (keep (keep (keep (keep (keep (keep rfl rfl) rfl) rfl) rfl) rfl) rfl) rfl) rfl) rfl)⟩ ?_ ?_
    · rintro s18 L tm st ⟨tm0_s18, rfl, rfl⟩ h
      unfold slices_partitionCmpFunc_calx_api_Look_l2 at h
      refine cx_seq ?_
      refine cx_seq ?_
      refine cx_draws 17 mixed (by kernel_rfl) (by kernel_rfl) ?_
      refine qx_y rfl (y_move_int rfl) ?_
      refine qx_y rfl (y_move_int rfl) ?_
      refine qx_y rfl (y_leq rfl rfl) ?_
      refine qx_y rfl (y_move_bool rfl) ?_
      obtain ⟨b21, hb22, h⟩ := bind_some h
      refine qx_join 13 (fun tm0 => (upd (upd (upd (upd (upd (upd (upd (upd (upd (upd tm0 0 (.slice A0_0 p0.length c0_0)) 1 (.int .i64 p1)) 2 (.int .i64 p2)) 3 (.int .i64 p3)) 4 (.func (.func fid4) #[] caps4.toArray)) 10 (.int .i64 0)) 11 (.bool false)) 12 (.int .i64 u7)) 13 (.int .i64 s18)) 66 (.bool b21))) (fun tm0 => ?_) (fun key => ?_)
      · refine qx_nil ?_
        refine ox_nil ?_
        refine ex_then ?_
        rcases ite_some h with ⟨hp23, h⟩ | ⟨hp23, h⟩
        · refine cx_true (congrArg Value.bool hp23) ?_
          refine cx_skip ?_
          refine ex_then ?_
          refine cx_block ?_
          refine cx_region ?_
          refine ox_y rfl (y_move_int rfl) ?_
          refine ox_y rfl (y_sub rfl rfl) ?_
          refine ox_y rfl (y_assign_int rfl) ?_
          refine ox_nil ?_
          refine ex_block ?_
          obtain rfl := Option.some.inj h
          exact ex_next ⟨_, rfl, (keep (keep (keep (keep (keep (keep (keep (keep (keep rfl rfl) rfl) rfl) rfl) rfl) rfl) rfl) rfl) rfl)⟩
        · refine cx_false (congrArg Value.bool hp23) ?_
          refine cx_exit ?_
          refine ex_then_exit ?_
          obtain rfl := Option.some.inj h
          exact ex_stop ⟨rfl, _, rfl, (keep (keep (keep (keep (keep (keep (keep (keep (keep rfl rfl) rfl) rfl) rfl) rfl) rfl) rfl) rfl) rfl)⟩
      · clear h; rcases ite_some hb22 with ⟨hp20, h⟩ | ⟨hp20, h⟩
        · refine qx_y (sees_t rfl rfl rfl rfl hp20) (y_move (v := .func (.func fid4) #[] caps4.toArray) rfl) ?_
          refine qx_y (sees_t rfl rfl rfl rfl hp20) (y_move_slice rfl) ?_
          refine qx_y (sees_t rfl rfl rfl rfl hp20) (y_move_int rfl) ?_
          obtain ⟨hg24, h⟩ := guardO_some h
          refine qx_y (sees_t rfl rfl rfl rfl hp20) (y_indexR sl_22 (by decide) hg24.1 hg24.2 (RdL.row 1 rfl) (encL_len TLook_cells_len (hn_set (hn_set rfl))) rfl rfl) ?_
          refine qx_y (sees_t rfl rfl rfl rfl hp20) (y_loadRN (A := A0_0) (j := (Int.toNat s18 * 5)) [.int .i64 ((rdL ((p0.set (Int.toNat p1) (rdL p0 p3)).set (Int.toNat p3) (rdL p0 p1)) s18).fID), .int .i64 ((rdL ((p0.set (Int.toNat p1) (rdL p0 p3)).set (Int.toNat p3) (rdL p0 p1)) s18).fAt.fFoot), .int .i64 ((rdL ((p0.set (Int.toNat p1) (rdL p0 p3)).set (Int.toNat p3) (rdL p0 p1)) s18).fAt.fHour), .int .i64 ((rdL ((p0.set (Int.toNat p1) (rdL p0 p3)).set (Int.toNat p3) (rdL p0 p1)) s18).fHeat.fLo), .int .i64 ((rdL ((p0.set (Int.toNat p1) (rdL p0 p3)).set (Int.toNat p3) (rdL p0 p1)) s18).fHeat.fHi)] ag_34 (Nat.succ_pos _) (RdL.row 1 rfl) rfl (encL_gets TLook_cells_len hg24.1 (lt_nat hg24.2 (hn_set (hn_set rfl))))) ?_
          refine qx_y (sees_t rfl rfl rfl rfl hp20) (y_move_slice rfl) ?_
          refine qx_y (sees_t rfl rfl rfl rfl hp20) (y_move_int rfl) ?_
          obtain ⟨hg25, h⟩ := guardO_some h
          refine qx_y (sees_t rfl rfl rfl rfl hp20) (y_indexR sl_22 (by decide) hg25.1 hg25.2 (RdL.row 1 rfl) (encL_len TLook_cells_len (hn_set (hn_set rfl))) rfl rfl) ?_
          refine qx_y (sees_t rfl rfl rfl rfl hp20) (y_loadRN (A := A0_0) (j := (Int.toNat p1 * 5)) [.int .i64 ((rdL ((p0.set (Int.toNat p1) (rdL p0 p3)).set (Int.toNat p3) (rdL p0 p1)) p1).fID), .int .i64 ((rdL ((p0.set (Int.toNat p1) (rdL p0 p3)).set (Int.toNat p3) (rdL p0 p1)) p1).fAt.fFoot), .int .i64 ((rdL ((p0.set (Int.toNat p1) (rdL p0 p3)).set (Int.toNat p3) (rdL p0 p1)) p1).fAt.fHour), .int .i64 ((rdL ((p0.set (Int.toNat p1) (rdL p0 p3)).set (Int.toNat p3) (rdL p0 p1)) p1).fHeat.fLo), .int .i64 ((rdL ((p0.set (Int.toNat p1) (rdL p0 p3)).set (Int.toNat p3) (rdL p0 p1)) p1).fHeat.fHi)] ag_34 (Nat.succ_pos _) (RdL.row 1 rfl) rfl (encL_gets TLook_cells_len hg25.1 (lt_nat hg25.2 (hn_set (hn_set rfl))))) ?_
          obtain ⟨y26, hy27, h⟩ := bind_some h
          refine qx_y (sees_t rfl rfl rfl rfl hp20) (y_callv [.agg #[.int .i64 ((rdL ((p0.set (Int.toNat p1) (rdL p0 p3)).set (Int.toNat p3) (rdL p0 p1)) s18).fID), .int .i64 ((rdL ((p0.set (Int.toNat p1) (rdL p0 p3)).set (Int.toNat p3) (rdL p0 p1)) s18).fAt.fFoot), .int .i64 ((rdL ((p0.set (Int.toNat p1) (rdL p0 p3)).set (Int.toNat p3) (rdL p0 p1)) s18).fAt.fHour), .int .i64 ((rdL ((p0.set (Int.toNat p1) (rdL p0 p3)).set (Int.toNat p3) (rdL p0 p1)) s18).fHeat.fLo), .int .i64 ((rdL ((p0.set (Int.toNat p1) (rdL p0 p3)).set (Int.toNat p3) (rdL p0 p1)) s18).fHeat.fHi)], .agg #[.int .i64 ((rdL ((p0.set (Int.toNat p1) (rdL p0 p3)).set (Int.toNat p3) (rdL p0 p1)) p1).fID), .int .i64 ((rdL ((p0.set (Int.toNat p1) (rdL p0 p3)).set (Int.toNat p3) (rdL p0 p1)) p1).fAt.fFoot), .int .i64 ((rdL ((p0.set (Int.toNat p1) (rdL p0 p3)).set (Int.toNat p3) (rdL p0 p1)) p1).fAt.fHour), .int .i64 ((rdL ((p0.set (Int.toNat p1) (rdL p0 p3)).set (Int.toNat p3) (rdL p0 p1)) p1).fHeat.fLo), .int .i64 ((rdL ((p0.set (Int.toNat p1) (rdL p0 p3)).set (Int.toNat p3) (rdL p0 p1)) p1).fHeat.fHi)]] hgo4 rfl rfl (fun W2 hW2 => hof4 W2 hW2.below (hW2.mem (i := 0) rfl) (rdL ((p0.set (Int.toNat p1) (rdL p0 p3)).set (Int.toNat p3) (rdL p0 p1)) s18) (rdL ((p0.set (Int.toNat p1) (rdL p0 p3)).set (Int.toNat p3) (rdL p0 p1)) p1) y26 hy27)) ?_
          refine qx_y (sees_t rfl rfl rfl rfl hp20) (y_lss rfl rfl) ?_
          refine qx_y (sees_t rfl rfl rfl rfl hp20) (y_not rfl) ?_
          refine qx_y rfl (y_pick_tb (congrArg Value.bool hp20) rfl) ?_
          obtain rfl := Option.some.inj h
          exact key _ _ (keep (keep (keep (keep (keep (keep (keep (keep (keep (keep rfl rfl) rfl) rfl) rfl) rfl) rfl) rfl) rfl) rfl) rfl)
        · refine qx_skip (sees_f rfl rfl rfl rfl hp20) ?_
          refine qx_skip (sees_f rfl rfl rfl rfl hp20) ?_
          refine qx_skip (sees_f rfl rfl rfl rfl hp20) ?_
          refine qx_skip (sees_f rfl rfl rfl rfl hp20) ?_
          refine qx_skip (sees_f rfl rfl rfl rfl hp20) ?_
          refine qx_skip (sees_f rfl rfl rfl rfl hp20) ?_
          refine qx_skip (sees_f rfl rfl rfl rfl hp20) ?_
          refine qx_skip (sees_f rfl rfl rfl rfl hp20) ?_
          refine qx_skip (sees_f rfl rfl rfl rfl hp20) ?_
          refine qx_skip (sees_f rfl rfl rfl rfl hp20) ?_
          refine qx_skip (sees_f rfl rfl rfl rfl hp20) ?_
          refine qx_skip (sees_f rfl rfl rfl rfl hp20) ?_
          refine qx_y rfl (y_pick_fb (congrArg Value.bool hp20) rfl) ?_
          obtain rfl := Option.some.inj h
          exact key _ _ (keep (keep (keep (keep (keep (keep (keep (keep (keep (keep rfl rfl) rfl) rfl) rfl) rfl) rfl) rfl) rfl) rfl) rfl)
    · intro e L tm hJ
      obtain ⟨rfl, tm0_u19, rfl, rfl⟩ := hJ
      refine ⟨(by intro hc; cases hc), ?_⟩
      refine ex_block_here ?_
      refine ex_then ?_
      refine cx_seq ?_
      refine cx_seq ?_
      refine cx_region ?_
      refine ox_y rfl (y_move_int rfl) ?_
      refine ox_y rfl (y_move_int rfl) ?_
      refine ox_y rfl (y_gtr rfl rfl) ?_
      refine ox_nil ?_
      refine ex_then ?_
      rcases ite_some h with ⟨hp29, h⟩ | ⟨hp29, h⟩
      · refine cx_true (congrArg Value.bool hp29) ?_
        refine cx_seq ?_
        refine cx_drawsF [2, 3] 13 mixed (by kernel_rfl) (by kernel_rfl) ?_
        refine qx_y rfl (y_move_slice rfl) ?_
        refine qx_y rfl (y_move_int rfl) ?_
        refine qx_y rfl (y_move_slice rfl) ?_
        refine qx_y rfl (y_move_int rfl) ?_
        refine qx_y rfl (y_move_slice rfl) ?_
        refine qx_y rfl (y_move_int rfl) ?_
        obtain ⟨hg30, h⟩ := guardO_some h
        refine qx_y rfl (y_indexR sl_22 (by decide) hg30.1 hg30.2 (RdL.row 1 rfl) (encL_len TLook_cells_len (hn_set (hn_set rfl))) rfl rfl) ?_
        refine qx_y rfl (y_loadRN (A := A0_0) (j := (Int.toNat p1 * 5)) [.int .i64 ((rdL ((p0.set (Int.toNat p1) (rdL p0 p3)).set (Int.toNat p3) (rdL p0 p1)) p1).fID), .int .i64 ((rdL ((p0.set (Int.toNat p1) (rdL p0 p3)).set (Int.toNat p3) (rdL p0 p1)) p1).fAt.fFoot), .int .i64 ((rdL ((p0.set (Int.toNat p1) (rdL p0 p3)).set (Int.toNat p3) (rdL p0 p1)) p1).fAt.fHour), .int .i64 ((rdL ((p0.set (Int.toNat p1) (rdL p0 p3)).set (Int.toNat p3) (rdL p0 p1)) p1).fHeat.fLo), .int .i64 ((rdL ((p0.set (Int.toNat p1) (rdL p0 p3)).set (Int.toNat p3) (rdL p0 p1)) p1).fHeat.fHi)] ag_34 (Nat.succ_pos _) (RdL.row 1 rfl) rfl (encL_gets TLook_cells_len hg30.1 (lt_nat hg30.2 (hn_set (hn_set rfl))))) ?_
        refine qx_y rfl (y_move_slice rfl) ?_
        refine qx_y rfl (y_move_int rfl) ?_
        obtain ⟨hg31, h⟩ := guardO_some h
        refine qx_y rfl (y_indexR sl_22 (by decide) hg31.1 hg31.2 (RdL.row 1 rfl) (encL_len TLook_cells_len (hn_set (hn_set rfl))) rfl rfl) ?_
        refine qx_y rfl (y_loadRN (A := A0_0) (j := (Int.toNat u19 * 5)) [.int .i64 ((rdL ((p0.set (Int.toNat p1) (rdL p0 p3)).set (Int.toNat p3) (rdL p0 p1)) u19).fID), .int .i64 ((rdL ((p0.set (Int.toNat p1) (rdL p0 p3)).set (Int.toNat p3) (rdL p0 p1)) u19).fAt.fFoot), .int .i64 ((rdL ((p0.set (Int.toNat p1) (rdL p0 p3)).set (Int.toNat p3) (rdL p0 p1)) u19).fAt.fHour), .int .i64 ((rdL ((p0.set (Int.toNat p1) (rdL p0 p3)).set (Int.toNat p3) (rdL p0 p1)) u19).fHeat.fLo), .int .i64 ((rdL ((p0.set (Int.toNat p1) (rdL p0 p3)).set (Int.toNat p3) (rdL p0 p1)) u19).fHeat.fHi)] ag_34 (Nat.succ_pos _) (RdL.row 1 rfl) rfl (encL_gets TLook_cells_len hg31.1 (lt_nat hg31.2 (hn_set (hn_set rfl))))) ?_
        obtain ⟨hg32, h⟩ := guardO_some h
        refine qx_y rfl (y_indexR sl_22 (by decide) hg32.1 hg32.2 (RdL.row 1 rfl) (encL_len TLook_cells_len (hn_set (hn_set rfl))) rfl rfl) ?_
        refine qx_nil ?_
        refine ox_n rfl (y_storeRN 1 (xs := ((p0.set (Int.toNat p1) (rdL p0 p3)).set (Int.toNat p3) (rdL p0 p1))) [.int .i64 ((rdL ((p0.set (Int.toNat p1) (rdL p0 p3)).set (Int.toNat p3) (rdL p0 p1)) p1).fID), .int .i64 ((rdL ((p0.set (Int.toNat p1) (rdL p0 p3)).set (Int.toNat p3) (rdL p0 p1)) p1).fAt.fFoot), .int .i64 ((rdL ((p0.set (Int.toNat p1) (rdL p0 p3)).set (Int.toNat p3) (rdL p0 p1)) p1).fAt.fHour), .int .i64 ((rdL ((p0.set (Int.toNat p1) (rdL p0 p3)).set (Int.toNat p3) (rdL p0 p1)) p1).fHeat.fLo), .int .i64 ((rdL ((p0.set (Int.toNat p1) (rdL p0 p3)).set (Int.toNat p3) (rdL p0 p1)) p1).fHeat.fHi)] TLook_cells_len (Nat.succ_pos _) (rdL ((p0.set (Int.toNat p1) (rdL p0 p3)).set (Int.toNat p3) (rdL p0 p1)) p1) sz_34 rfl hg32.1 (lt_nat hg32.2 (hn_set (hn_set rfl))) rfl rfl rfl rfl) ?_
        obtain ⟨hg33, h⟩ := guardO_some h
        refine ox_y rfl (y_indexR sl_22 (by decide) hg33.1 hg33.2 (RdL.row 1 rfl) (encL_len TLook_cells_len (hn_set (hn_set (hn_set rfl)))) rfl rfl) ?_
        refine ox_n rfl (y_storeRN 1 (xs := (((p0.set (Int.toNat p1) (rdL p0 p3)).set (Int.toNat p3) (rdL p0 p1)).set (Int.toNat u19) (rdL ((p0.set (Int.toNat p1) (rdL p0 p3)).set (Int.toNat p3) (rdL p0 p1)) p1))) [.int .i64 ((rdL ((p0.set (Int.toNat p1) (rdL p0 p3)).set (Int.toNat p3) (rdL p0 p1)) u19).fID), .int .i64 ((rdL ((p0.set (Int.toNat p1) (rdL p0 p3)).set (Int.toNat p3) (rdL p0 p1)) u19).fAt.fFoot), .int .i64 ((rdL ((p0.set (Int.toNat p1) (rdL p0 p3)).set (Int.toNat p3) (rdL p0 p1)) u19).fAt.fHour), .int .i64 ((rdL ((p0.set (Int.toNat p1) (rdL p0 p3)).set (Int.toNat p3) (rdL p0 p1)) u19).fHeat.fLo), .int .i64 ((rdL ((p0.set (Int.toNat p1) (rdL p0 p3)).set (Int.toNat p3) (rdL p0 p1)) u19).fHeat.fHi)] TLook_cells_len (Nat.succ_pos _) (rdL ((p0.set (Int.toNat p1) (rdL p0 p3)).set (Int.toNat p3) (rdL p0 p1)) u19) sz_34 rfl hg33.1 (lt_nat hg33.2 (hn_set (hn_set (hn_set rfl)))) rfl rfl rfl rfl) ?_
        refine ox_nil ?_
        refine ex_only ?_
        refine ex_then ?_
        refine cx_seq ?_
        refine cx_region ?_
        refine ox_y rfl (y_move_int rfl) ?_
        refine ox_y rfl (y_assign_int rfl) ?_
        refine ox_y rfl (y_assign_bool rfl) ?_
        refine ox_nil ?_
        refine ex_then ?_
        refine cx_ret ?_
        refine ex_then_ret ?_
        obtain rfl := Option.some.inj h
        exact ex_res2 (.inl rfl) rfl (resV_tmp (v := .int .i64 u19) rfl) (resV_tmp (v := .bool true) rfl) (fun W2 hW2 => ⟨rfl, (hn_set (hn_set (hn_set (hn_set rfl)))), hW2.take 2⟩)
      · refine cx_false (congrArg Value.bool hp29) ?_
        refine cx_skip ?_
        refine ex_then ?_
        refine cx_seq ?_
        refine cx_drawsF [2, 3] 13 mixed (by kernel_rfl) (by kernel_rfl) ?_
        refine qx_y rfl (y_move_slice rfl) ?_
        refine qx_y rfl (y_move_int rfl) ?_
        refine qx_y rfl (y_move_slice rfl) ?_
        refine qx_y rfl (y_move_int rfl) ?_
        refine qx_y rfl (y_move_slice rfl) ?_
        refine qx_y rfl (y_move_int rfl) ?_
        obtain ⟨hg34, h⟩ := guardO_some h
        refine qx_y rfl (y_indexR sl_22 (by decide) hg34.1 hg34.2 (RdL.row 1 rfl) (encL_len TLook_cells_len (hn_set (hn_set rfl))) rfl rfl) ?_
        refine qx_y rfl (y_loadRN (A := A0_0) (j := (Int.toNat u19 * 5)) [.int .i64 ((rdL ((p0.set (Int.toNat p1) (rdL p0 p3)).set (Int.toNat p3) (rdL p0 p1)) u19).fID), .int .i64 ((rdL ((p0.set (Int.toNat p1) (rdL p0 p3)).set (Int.toNat p3) (rdL p0 p1)) u19).fAt.fFoot), .int .i64 ((rdL ((p0.set (Int.toNat p1) (rdL p0 p3)).set (Int.toNat p3) (rdL p0 p1)) u19).fAt.fHour), .int .i64 ((rdL ((p0.set (Int.toNat p1) (rdL p0 p3)).set (Int.toNat p3) (rdL p0 p1)) u19).fHeat.fLo), .int .i64 ((rdL ((p0.set (Int.toNat p1) (rdL p0 p3)).set (Int.toNat p3) (rdL p0 p1)) u19).fHeat.fHi)] ag_34 (Nat.succ_pos _) (RdL.row 1 rfl) rfl (encL_gets TLook_cells_len hg34.1 (lt_nat hg34.2 (hn_set (hn_set rfl))))) ?_
        refine qx_y rfl (y_move_slice rfl) ?_
        refine qx_y rfl (y_move_int rfl) ?_
        obtain ⟨hg35, h⟩ := guardO_some h
        refine qx_y rfl (y_indexR sl_22 (by decide) hg35.1 hg35.2 (RdL.row 1 rfl) (encL_len TLook_cells_len (hn_set (hn_set rfl))) rfl rfl) ?_
        refine qx_y rfl (y_loadRN (A := A0_0) (j := (Int.toNat u7 * 5)) [.int .i64 ((rdL ((p0.set (Int.toNat p1) (rdL p0 p3)).set (Int.toNat p3) (rdL p0 p1)) u7).fID), .int .i64 ((rdL ((p0.set (Int.toNat p1) (rdL p0 p3)).set (Int.toNat p3) (rdL p0 p1)) u7).fAt.fFoot), .int .i64 ((rdL ((p0.set (Int.toNat p1) (rdL p0 p3)).set (Int.toNat p3) (rdL p0 p1)) u7).fAt.fHour), .int .i64 ((rdL ((p0.set (Int.toNat p1) (rdL p0 p3)).set (Int.toNat p3) (rdL p0 p1)) u7).fHeat.fLo), .int .i64 ((rdL ((p0.set (Int.toNat p1) (rdL p0 p3)).set (Int.toNat p3) (rdL p0 p1)) u7).fHeat.fHi)] ag_34 (Nat.succ_pos _) (RdL.row 1 rfl) rfl (encL_gets TLook_cells_len hg35.1 (lt_nat hg35.2 (hn_set (hn_set rfl))))) ?_
        obtain ⟨hg36, h⟩ := guardO_some h
        refine qx_y rfl (y_indexR sl_22 (by decide) hg36.1 hg36.2 (RdL.row 1 rfl) (encL_len TLook_cells_len (hn_set (hn_set rfl))) rfl rfl) ?_
        refine qx_nil ?_
        refine ox_n rfl (y_storeRN 1 (xs := ((p0.set (Int.toNat p1) (rdL p0 p3)).set (Int.toNat p3) (rdL p0 p1))) [.int .i64 ((rdL ((p0.set (Int.toNat p1) (rdL p0 p3)).set (Int.toNat p3) (rdL p0 p1)) u19).fID), .int .i64 ((rdL ((p0.set (Int.toNat p1) (rdL p0 p3)).set (Int.toNat p3) (rdL p0 p1)) u19).fAt.fFoot), .int .i64 ((rdL ((p0.set (Int.toNat p1) (rdL p0 p3)).set (Int.toNat p3) (rdL p0 p1)) u19).fAt.fHour), .int .i64 ((rdL ((p0.set (Int.toNat p1) (rdL p0 p3)).set (Int.toNat p3) (rdL p0 p1)) u19).fHeat.fLo), .int .i64 ((rdL ((p0.set (Int.toNat p1) (rdL p0 p3)).set (Int.toNat p3) (rdL p0 p1)) u19).fHeat.fHi)] TLook_cells_len (Nat.succ_pos _) (rdL ((p0.set (Int.toNat p1) (rdL p0 p3)).set (Int.toNat p3) (rdL p0 p1)) u19) sz_34 rfl hg36.1 (lt_nat hg36.2 (hn_set (hn_set rfl))) rfl rfl rfl rfl) ?_
        obtain ⟨hg37, h⟩ := guardO_some h
        refine ox_y rfl (y_indexR sl_22 (by decide) hg37.1 hg37.2 (RdL.row 1 rfl) (encL_len TLook_cells_len (hn_set (hn_set (hn_set rfl)))) rfl rfl) ?_
        refine ox_n rfl (y_storeRN 1 (xs := (((p0.set (Int.toNat p1) (rdL p0 p3)).set (Int.toNat p3) (rdL p0 p1)).set (Int.toNat u7) (rdL ((p0.set (Int.toNat p1) (rdL p0 p3)).set (Int.toNat p3) (rdL p0 p1)) u19))) [.int .i64 ((rdL ((p0.set (Int.toNat p1) (rdL p0 p3)).set (Int.toNat p3) (rdL p0 p1)) u7).fID), .int .i64 ((rdL ((p0.set (Int.toNat p1) (rdL p0 p3)).set (Int.toNat p3) (rdL p0 p1)) u7).fAt.fFoot), .int .i64 ((rdL ((p0.set (Int.toNat p1) (rdL p0 p3)).set (Int.toNat p3) (rdL p0 p1)) u7).fAt.fHour), .int .i64 ((rdL ((p0.set (Int.toNat p1) (rdL p0 p3)).set (Int.toNat p3) (rdL p0 p1)) u7).fHeat.fLo), .int .i64 ((rdL ((p0.set (Int.toNat p1) (rdL p0 p3)).set (Int.toNat p3) (rdL p0 p1)) u7).fHeat.fHi)] TLook_cells_len (Nat.succ_pos _) (rdL ((p0.set (Int.toNat p1) (rdL p0 p3)).set (Int.toNat p3) (rdL p0 p1)) u7) sz_34 rfl hg37.1 (lt_nat hg37.2 (hn_set (hn_set (hn_set rfl)))) rfl rfl rfl rfl) ?_
        refine ox_nil ?_
        refine ex_only ?_
        refine ex_then ?_
        refine cx_seq ?_
        refine cx_region ?_
        refine ox_y rfl (y_move_int rfl) ?_
        refine ox_y rfl (y_add rfl rfl) ?_
        refine ox_y rfl (y_assign_int rfl) ?_
        refine ox_nil ?_
        refine ex_then ?_
        refine cx_seq ?_
        refine cx_region ?_
        refine ox_y rfl (y_move_int rfl) ?_
        refine ox_y rfl (y_sub rfl rfl) ?_
        refine ox_y rfl (y_assign_int rfl) ?_
        refine ox_nil ?_
        refine ex_then ?_
        refine cx_seq ?_
        refine cx_block ?_
        obtain ⟨u41, hl71, h⟩ := bind_some h
        refine cx_loop (fun (s : (Int × Int × (List TLook))) L tm => ∃ (tm0 : Nat → Value), p0.length = s.2.2.length ∧ L = [R, rowR A0_0 c0_0 34 5 p0.length (encL TLook_cells s.2.2)] ∧ tm = (upd (upd (upd (upd (upd (upd (upd (upd (upd (upd tm0 0 (.slice A0_0 p0.length c0_0)) 1 (.int .i64 p1)) 2 (.int .i64 p2)) 3 (.int .i64 p3)) 4 (.func (.func fid4) #[] caps4.toArray)) 10 (.int .i64 0)) 11 (.bool false)) 12 (.int .i64 s.1)) 13 (.int .i64 s.2.1)) 71 (.bool (decide (u19 < u7))))) (fun s e L tm => e = .exit 4 ∧ ∃ (tm0 : Nat → Value), p0.length = s.2.2.length ∧ L = [R, rowR A0_0 c0_0 34 5 p0.length (encL TLook_cells s.2.2)] ∧ tm = (upd (upd (upd (upd (upd (upd (upd (upd (upd (upd tm0 0 (.slice A0_0 p0.length c0_0)) 1 (.int .i64 p1)) 2 (.int .i64 p2)) 3 (.int .i64 p3)) 4 (.func (.func fid4) #[] caps4.toArray)) 10 (.int .i64 0)) 11 (.bool false)) 12 (.int .i64 s.1)) 13 (.int .i64 s.2.1)) 71 (.bool (decide (u19 < u7))))) hl71 ⟨_, (hn_set (hn_set (hn_set (hn_set rfl)))), rfl, (keep (keep (keep (keep (keep (keep (keep (keep (keep (keep rfl rfl) rfl) rfl) rfl) rfl) rfl) rfl) rfl) rfl) rfl)⟩ ?_ ?_
        · rintro s40 L tm st ⟨tm0_s40, hn1_s40, rfl, rfl⟩ h
          unfold slices_partitionCmpFunc_calx_api_Look_l3 at h
          refine cx_block ?_
          refine cx_seq ?_
          refine cx_block ?_
          obtain ⟨u44, hl53, h⟩ := bind_some h
          refine cx_loop (fun (s : Int) L tm => ∃ (tm0 : Nat → Value), L = [R, rowR A0_0 c0_0 34 5 p0.length (encL TLook_cells s40.2.2)] ∧ tm = (upd (upd (upd (upd (upd (upd (upd (upd (upd (upd tm0 0 (.slice A0_0 p0.length c0_0)) 1 (.int .i64 p1)) 2 (.int .i64 p2)) 3 (.int .i64 p3)) 4 (.func (.func fid4) #[] caps4.toArray)) 10 (.int .i64 0)) 11 (.bool false)) 12 (.int .i64 s)) 13 (.int .i64 s40.2.1)) 71 (.bool (decide (u19 < u7))))) (fun s e L tm => e = .exit 6 ∧ ∃ (tm0 : Nat → Value), L = [R, rowR A0_0 c0_0 34 5 p0.length (encL TLook_cells s40.2.2)] ∧ tm = (upd (upd (upd (upd (upd (upd (upd (upd (upd (upd tm0 0 (.slice A0_0 p0.length c0_0)) 1 (.int .i64 p1)) 2 (.int .i64 p2)) 3 (.int .i64 p3)) 4 (.func (.func fid4) #[] caps4.toArray)) 10 (.int .i64 0)) 11 (.bool false)) 12 (.int .i64 s)) 13 (.int .i64 s40.2.1)) 71 (.bool (decide (u19 < u7))))) hl53 ⟨_, rfl, (keep (keep (keep (keep (keep (keep (keep (keep (keep (keep rfl rfl) rfl) rfl) rfl) rfl) rfl) rfl) rfl) rfl) rfl)⟩ ?_ ?_
          · rintro s43 L tm st ⟨tm0_s43, rfl, rfl⟩ h
            unfold slices_partitionCmpFunc_calx_api_Look_l4 at h
            refine cx_seq ?_
            refine cx_seq ?_
            refine cx_draws 16 mixed (by kernel_rfl) (by kernel_rfl) ?_
            refine qx_y rfl (y_move_int rfl) ?_
            refine qx_y rfl (y_move_int rfl) ?_
            refine qx_y rfl (y_leq rfl rfl) ?_
            refine qx_y rfl (y_move_bool rfl) ?_
            obtain ⟨b46, hb47, h⟩ := bind_some h
            refine qx_join 12 (fun tm0 => (upd (upd (upd (upd (upd (upd (upd (upd (upd (upd (upd tm0 0 (.slice A0_0 p0.length c0_0)) 1 (.int .i64 p1)) 2 (.int .i64 p2)) 3 (.int .i64 p3)) 4 (.func (.func fid4) #[] caps4.toArray)) 10 (.int .i64 0)) 11 (.bool false)) 12 (.int .i64 s43)) 13 (.int .i64 s40.2.1)) 71 (.bool (decide (u19 < u7)))) 120 (.bool b46))) (fun tm0 => ?_) (fun key => ?_)
            · refine qx_nil ?_
              refine ox_nil ?_
              refine ex_then ?_
              rcases ite_some h with ⟨hp48, h⟩ | ⟨hp48, h⟩
              · refine cx_true (congrArg Value.bool hp48) ?_
                refine cx_skip ?_
                refine ex_then ?_
                refine cx_block ?_
                refine cx_region ?_
                refine ox_y rfl (y_move_int rfl) ?_
                refine ox_y rfl (y_add rfl rfl) ?_
                refine ox_y rfl (y_assign_int rfl) ?_
                refine ox_nil ?_
                refine ex_block ?_
                obtain rfl := Option.some.inj h
                exact ex_next ⟨_, rfl, (keep (keep (keep (keep (keep (keep (keep (keep (keep (keep rfl rfl) rfl) rfl) rfl) rfl) rfl) rfl) rfl) rfl) rfl)⟩
              · refine cx_false (congrArg Value.bool hp48) ?_
                refine cx_exit ?_
                refine ex_then_exit ?_
                obtain rfl := Option.some.inj h
                exact ex_stop ⟨rfl, _, rfl, (keep (keep (keep (keep (keep (keep (keep (keep (keep (keep rfl rfl) rfl) rfl) rfl) rfl) rfl) rfl) rfl) rfl) rfl)⟩
            · clear h; rcases ite_some hb47 with ⟨hp45, h⟩ | ⟨hp45, h⟩
              · refine qx_y (sees_t rfl rfl rfl rfl hp45) (y_move (v := .func (.func fid4) #[] caps4.toArray) rfl) ?_
                refine qx_y (sees_t rfl rfl rfl rfl hp45) (y_move_slice rfl) ?_
                refine qx_y (sees_t rfl rfl rfl rfl hp45) (y_move_int rfl) ?_
                obtain ⟨hg49, h⟩ := guardO_some h
                refine qx_y (sees_t rfl rfl rfl rfl hp45) (y_indexR sl_22 (by decide) hg49.1 hg49.2 (RdL.row 1 rfl) (encL_len TLook_cells_len hn1_s40) rfl rfl) ?_
                refine qx_y (sees_t rfl rfl rfl rfl hp45) (y_loadRN (A := A0_0) (j := (Int.toNat s43 * 5)) [.int .i64 ((rdL s40.2.2 s43).fID), .int .i64 ((rdL s40.2.2 s43).fAt.fFoot), .int .i64 ((rdL s40.2.2 s43).fAt.fHour), .int .i64 ((rdL s40.2.2 s43).fHeat.fLo), .int .i64 ((rdL s40.2.2 s43).fHeat.fHi)] ag_34 (Nat.succ_pos _) (RdL.row 1 rfl) rfl (encL_gets TLook_cells_len hg49.1 (lt_nat hg49.2 hn1_s40))) ?_
                refine qx_y (sees_t rfl rfl rfl rfl hp45) (y_move_slice rfl) ?_
                refine qx_y (sees_t rfl rfl rfl rfl hp45) (y_move_int rfl) ?_
                obtain ⟨hg50, h⟩ := guardO_some h
                refine qx_y (sees_t rfl rfl rfl rfl hp45) (y_indexR sl_22 (by decide) hg50.1 hg50.2 (RdL.row 1 rfl) (encL_len TLook_cells_len hn1_s40) rfl rfl) ?_
                refine qx_y (sees_t rfl rfl rfl rfl hp45) (y_loadRN (A := A0_0) (j := (Int.toNat p1 * 5)) [.int .i64 ((rdL s40.2.2 p1).fID), .int .i64 ((rdL s40.2.2 p1).fAt.fFoot), .int .i64 ((rdL s40.2.2 p1).fAt.fHour), .int .i64 ((rdL s40.2.2 p1).fHeat.fLo), .int .i64 ((rdL s40.2.2 p1).fHeat.fHi)] ag_34 (Nat.succ_pos _) (RdL.row 1 rfl) rfl (encL_gets TLook_cells_len hg50.1 (lt_nat hg50.2 hn1_s40))) ?_
                obtain ⟨y51, hy52, h⟩ := bind_some h
                refine qx_y (sees_t rfl rfl rfl rfl hp45) (y_callv [.agg #[.int .i64 ((rdL s40.2.2 s43).fID), .int .i64 ((rdL s40.2.2 s43).fAt.fFoot), .int .i64 ((rdL s40.2.2 s43).fAt.fHour), .int .i64 ((rdL s40.2.2 s43).fHeat.fLo), .int .i64 ((rdL s40.2.2 s43).fHeat.fHi)], .agg #[.int .i64 ((rdL s40.2.2 p1).fID), .int .i64 ((rdL s40.2.2 p1).fAt.fFoot), .int .i64 ((rdL s40.2.2 p1).fAt.fHour), .int .i64 ((rdL s40.2.2 p1).fHeat.fLo), .int .i64 ((rdL s40.2.2 p1).fHeat.fHi)]] hgo4 rfl rfl (fun W2 hW2 => hof4 W2 hW2.below (hW2.mem (i := 0) rfl) (rdL s40.2.2 s43) (rdL s40.2.2 p1) y51 hy52)) ?_
                refine qx_y (sees_t rfl rfl rfl rfl hp45) (y_lss rfl rfl) ?_
                refine qx_y rfl (y_pick_tb (congrArg Value.bool hp45) rfl) ?_
                obtain rfl := Option.some.inj h
                exact key _ _ (keep (keep (keep (keep (keep (keep (keep (keep (keep (keep (keep rfl rfl) rfl) rfl) rfl) rfl) rfl) rfl) rfl) rfl) rfl) rfl)
              · refine qx_skip (sees_f rfl rfl rfl rfl hp45) ?_
                refine qx_skip (sees_f rfl rfl rfl rfl hp45) ?_
                refine qx_skip (sees_f rfl rfl rfl rfl hp45) ?_
                refine qx_skip (sees_f rfl rfl rfl rfl hp45) ?_
                refine qx_skip (sees_f rfl rfl rfl rfl hp45) ?_
                refine qx_skip (sees_f rfl rfl rfl rfl hp45) ?_
                refine qx_skip (sees_f rfl rfl rfl rfl hp45) ?_
                refine qx_skip (sees_f rfl rfl rfl rfl hp45) ?_
                refine qx_skip (sees_f rfl rfl rfl rfl hp45) ?_
                refine qx_skip (sees_f rfl rfl rfl rfl hp45) ?_
                refine qx_skip (sees_f rfl rfl rfl rfl hp45) ?_
                refine qx_y rfl (y_pick_fb (congrArg Value.bool hp45) rfl) ?_
                obtain rfl := Option.some.inj h
                exact key _ _ (keep (keep (keep (keep (keep (keep (keep (keep (keep (keep (keep rfl rfl) rfl) rfl) rfl) rfl) rfl) rfl) rfl) rfl) rfl) rfl)
          · intro e L tm hJ
            obtain ⟨rfl, tm0_u44, rfl, rfl⟩ := hJ
            refine ⟨(by intro hc; cases hc), ?_⟩
            refine ex_block_here ?_
            refine ex_then ?_
            refine cx_seq ?_
            refine cx_block ?_
            obtain ⟨u56, hl65, h⟩ := bind_some h
            refine cx_loop (fun (s : Int) L tm => ∃ (tm0 : Nat → Value), L = [R, rowR A0_0 c0_0 34 5 p0.length (encL TLook_cells s40.2.2)] ∧ tm = (upd (upd (upd (upd (upd (upd (upd (upd (upd (upd tm0 0 (.slice A0_0 p0.length c0_0)) 1 (.int .i64 p1)) 2 (.int .i64 p2)) 3 (.int .i64 p3)) 4 (.func (.func fid4) #[] caps4.toArray)) 10 (.int .i64 0)) 11 (.bool false)) 12 (.int .i64 u44)) 13 (.int .i64 s)) 71 (.bool (decide (u19 < u7))))) (fun s e L tm => e = .exit 8 ∧ ∃ (tm0 : Nat → Value), L = [R, rowR A0_0 c0_0 34 5 p0.length (encL TLook_cells s40.2.2)] ∧ tm = (upd (upd (upd (upd (upd (upd (upd (upd (upd (upd tm0 0 (.slice A0_0 p0.length c0_0)) 1 (.int .i64 p1)) 2 (.int .i64 p2)) 3 (.int .i64 p3)) 4 (.func (.func fid4) #[] caps4.toArray)) 10 (.int .i64 0)) 11 (.bool false)) 12 (.int .i64 u44)) 13 (.int .i64 s)) 71 (.bool (decide (u19 < u7))))) hl65 ⟨_, rfl, (keep (keep (keep (keep (keep (keep (keep (keep (keep (keep rfl rfl) rfl) rfl) rfl) rfl) rfl) rfl) rfl) rfl) rfl)⟩ ?_ ?_
            · rintro s55 L tm st ⟨tm0_s55, rfl, rfl⟩ h
              unfold slices_partitionCmpFunc_calx_api_Look_l5 at h
              refine cx_seq ?_
              refine cx_seq ?_
              refine cx_draws 17 mixed (by kernel_rfl) (by kernel_rfl) ?_
              refine qx_y rfl (y_move_int rfl) ?_
              refine qx_y rfl (y_move_int rfl) ?_
              refine qx_y rfl (y_leq rfl rfl) ?_
              refine qx_y rfl (y_move_bool rfl) ?_
              obtain ⟨b58, hb59, h⟩ := bind_some h
              refine qx_join 13 (fun tm0 => (upd (upd (upd (upd (upd (upd (upd (upd (upd (upd (upd tm0 0 (.slice A0_0 p0.length c0_0)) 1 (.int .i64 p1)) 2 (.int .i64 p2)) 3 (.int .i64 p3)) 4 (.func (.func fid4) #[] caps4.toArray)) 10 (.int .i64 0)) 11 (.bool false)) 12 (.int .i64 u44)) 13 (.int .i64 s55)) 71 (.bool (decide (u19 < u7)))) 139 (.bool b58))) (fun tm0 => ?_) (fun key => ?_)
              · refine qx_nil ?_
                refine ox_nil ?_
                refine ex_then ?_
                rcases ite_some h with ⟨hp60, h⟩ | ⟨hp60, h⟩
                · refine cx_true (congrArg Value.bool hp60) ?_
                  refine cx_skip ?_
                  refine ex_then ?_
                  refine cx_block ?_
                  refine cx_region ?_
                  refine ox_y rfl (y_move_int rfl) ?_
                  refine ox_y rfl (y_sub rfl rfl) ?_
                  refine ox_y rfl (y_assign_int rfl) ?_
                  refine ox_nil ?_
                  refine ex_block ?_
                  obtain rfl := Option.some.inj h
                  exact ex_next ⟨_, rfl, (keep (keep (keep (keep (keep (keep (keep (keep (keep (keep rfl rfl) rfl) rfl) rfl) rfl) rfl) rfl) rfl) rfl) rfl)⟩
                · refine cx_false (congrArg Value.bool hp60) ?_
                  refine cx_exit ?_
                  refine ex_then_exit ?_
                  obtain rfl := Option.some.inj h
                  exact ex_stop ⟨rfl, _, rfl, (keep (keep (keep (keep (keep (keep (keep (keep (keep (keep rfl rfl) rfl) rfl) rfl) rfl) rfl) rfl) rfl) rfl) rfl)⟩
              · clear h; rcases ite_some hb59 with ⟨hp57, h⟩ | ⟨hp57, h⟩
                · refine qx_y (sees_t rfl rfl rfl rfl hp57) (y_move (v := .func (.func fid4) #[] caps4.toArray) rfl) ?_
                  refine qx_y (sees_t rfl rfl rfl rfl hp57) (y_move_slice rfl) ?_
                  refine qx_y (sees_t rfl rfl rfl rfl hp57) (y_move_int rfl) ?_
                  obtain ⟨hg61, h⟩ := guardO_some h
                  refine qx_y (sees_t rfl rfl rfl rfl hp57) (y_indexR sl_22 (by decide) hg61.1 hg61.2 (RdL.row 1 rfl) (encL_len TLook_cells_len hn1_s40) rfl rfl) ?_
                  refine qx_y (sees_t rfl rfl rfl rfl hp57) (y_loadRN (A := A0_0) (j := (Int.toNat s55 * 5)) [.int .i64 ((rdL s40.2.2 s55).fID), .int .i64 ((rdL s40.2.2 s55).fAt.fFoot), .int .i64 ((rdL s40.2.2 s55).fAt.fHour), .int .i64 ((rdL s40.2.2 s55).fHeat.fLo), .int .i64 ((rdL s40.2.2 s55).fHeat.fHi)] ag_34 (Nat.succ_pos _) (RdL.row 1 rfl) rfl (encL_gets TLook_cells_len hg61.1 (lt_nat hg61.2 hn1_s40))) ?_
                  refine qx_y (sees_t rfl rfl rfl rfl hp57) (y_move_slice rfl) ?_
                  refine qx_y (sees_t rfl rfl rfl rfl hp57) (y_move_int rfl) ?_
                  obtain ⟨hg62, h⟩ := guardO_some h
                  refine qx_y (sees_t rfl rfl rfl rfl hp57) (y_indexR sl_22 (by decide) hg62.1 hg62.2 (RdL.row 1 rfl) (encL_len TLook_cells_len hn1_s40) rfl rfl) ?_
                  refine qx_y (sees_t rfl rfl rfl rfl hp57) (y_loadRN (A := A0_0) (j := (Int.toNat p1 * 5)) [.int .i64 ((rdL s40.2.2 p1).fID), .int .i64 ((rdL s40.2.2 p1).fAt.fFoot), .int .i64 ((rdL s40.2.2 p1).fAt.fHour), .int .i64 ((rdL s40.2.2 p1).fHeat.fLo), .int .i64 ((rdL s40.2.2 p1).fHeat.fHi)] ag_34 (Nat.succ_pos _) (RdL.row 1 rfl) rfl (encL_gets TLook_cells_len hg62.1 (lt_nat hg62.2 hn1_s40))) ?_
                  obtain ⟨y63, hy64, h⟩ := bind_some h
                  refine qx_y (sees_t rfl rfl rfl rfl hp57) (y_callv [.agg #[.int .i64 ((rdL s40.2.2 s55).fID), .int .i64 ((rdL s40.2.2 s55).fAt.fFoot), .int .i64 ((rdL s40.2.2 s55).fAt.fHour), .int .i64 ((rdL s40.2.2 s55).fHeat.fLo), .int .i64 ((rdL s40.2.2 s55).fHeat.fHi)], .agg #[.int .i64 ((rdL s40.2.2 p1).fID), .int .i64 ((rdL s40.2.2 p1).fAt.fFoot), .int .i64 ((rdL s40.2.2 p1).fAt.fHour), .int .i64 ((rdL s40.2.2 p1).fHeat.fLo), .int .i64 ((rdL s40.2.2 p1).fHeat.fHi)]] hgo4 rfl rfl (fun W2 hW2 => hof4 W2 hW2.below (hW2.mem (i := 0) rfl) (rdL s40.2.2 s55) (rdL s40.2.2 p1) y63 hy64)) ?_
                  refine qx_y (sees_t rfl rfl rfl rfl hp57) (y_lss rfl rfl) ?_
                  refine qx_y (sees_t rfl rfl rfl rfl hp57) (y_not rfl) ?_
                  refine qx_y rfl (y_pick_tb (congrArg Value.bool hp57) rfl) ?_
                  obtain rfl := Option.some.inj h
                  exact key _ _ (keep (keep (keep (keep (keep (keep (keep (keep (keep (keep (keep rfl rfl) rfl) rfl) rfl) rfl) rfl) rfl) rfl) rfl) rfl) rfl)
                · refine qx_skip (sees_f rfl rfl rfl rfl hp57) ?_
                  refine qx_skip (sees_f rfl rfl rfl rfl hp57) ?_
                  refine qx_skip (sees_f rfl rfl rfl rfl hp57) ?_
                  refine qx_skip (sees_f rfl rfl rfl rfl hp57) ?_
                  refine qx_skip (sees_f rfl rfl rfl rfl hp57) ?_
                  refine qx_skip (sees_f rfl rfl rfl rfl hp57) ?_
                  refine qx_skip (sees_f rfl rfl rfl rfl hp57) ?_
                  refine qx_skip (sees_f rfl rfl rfl rfl hp57) ?_
                  refine qx_skip (sees_f rfl rfl rfl rfl hp57) ?_
                  refine qx_skip (sees_f rfl rfl rfl rfl hp57) ?_
                  refine qx_skip (sees_f rfl rfl rfl rfl hp57) ?_
                  refine qx_skip (sees_f rfl rfl rfl rfl hp57) ?_
                  refine qx_y rfl (y_pick_fb (congrArg Value.bool hp57) rfl) ?_
                  obtain rfl := Option.some.inj h
                  exact key _ _ (keep (keep (keep (keep (keep (keep (keep (keep (keep (keep (keep rfl rfl) rfl) rfl) rfl) rfl) rfl) rfl) rfl) rfl) rfl) rfl)
            · intro e L tm hJ
              obtain ⟨rfl, tm0_u56, rfl, rfl⟩ := hJ
              refine ⟨(by intro hc; cases hc), ?_⟩
              refine ex_block_here ?_
              refine ex_then ?_
              refine cx_seq ?_
              refine cx_seq ?_
              refine cx_region ?_
              refine ox_y rfl (y_move_int rfl) ?_
              refine ox_y rfl (y_move_int rfl) ?_
              refine ox_y rfl (y_gtr rfl rfl) ?_
              refine ox_nil ?_
              refine ex_then ?_
              rcases ite_some h with ⟨hp66, h⟩ | ⟨hp66, h⟩
              · refine cx_true (congrArg Value.bool hp66) ?_
                refine cx_exit ?_
                refine ex_then_exit ?_
                refine ex_block_past rfl ?_
                obtain rfl := Option.some.inj h
                exact ex_stop ⟨rfl, _, hn1_s40, rfl, (keep (keep (keep (keep (keep (keep (keep (keep (keep (keep rfl rfl) rfl) rfl) rfl) rfl) rfl) rfl) rfl) rfl) rfl)⟩
              · refine cx_false (congrArg Value.bool hp66) ?_
                refine cx_skip ?_
                refine ex_then ?_
                refine cx_seq ?_
                refine cx_drawsF [2, 3] 13 mixed (by kernel_rfl) (by kernel_rfl) ?_
                refine qx_y rfl (y_move_slice rfl) ?_
                refine qx_y rfl (y_move_int rfl) ?_
                refine qx_y rfl (y_move_slice rfl) ?_
                refine qx_y rfl (y_move_int rfl) ?_
                refine qx_y rfl (y_move_slice rfl) ?_
                refine qx_y rfl (y_move_int rfl) ?_
                obtain ⟨hg67, h⟩ := guardO_some h
                refine qx_y rfl (y_indexR sl_22 (by decide) hg67.1 hg67.2 (RdL.row 1 rfl) (encL_len TLook_cells_len hn1_s40) rfl rfl) ?_
                refine qx_y rfl (y_loadRN (A := A0_0) (j := (Int.toNat u56 * 5)) [.int .i64 ((rdL s40.2.2 u56).fID), .int .i64 ((rdL s40.2.2 u56).fAt.fFoot), .int .i64 ((rdL s40.2.2 u56).fAt.fHour), .int .i64 ((rdL s40.2.2 u56).fHeat.fLo), .int .i64 ((rdL s40.2.2 u56).fHeat.fHi)] ag_34 (Nat.succ_pos _) (RdL.row 1 rfl) rfl (encL_gets TLook_cells_len hg67.1 (lt_nat hg67.2 hn1_s40))) ?_
                refine qx_y rfl (y_move_slice rfl) ?_
                refine qx_y rfl (y_move_int rfl) ?_
                obtain ⟨hg68, h⟩ := guardO_some h
                refine qx_y rfl (y_indexR sl_22 (by decide) hg68.1 hg68.2 (RdL.row 1 rfl) (encL_len TLook_cells_len hn1_s40) rfl rfl) ?_
                refine qx_y rfl (y_loadRN (A := A0_0) (j := (Int.toNat u44 * 5)) [.int .i64 ((rdL s40.2.2 u44).fID), .int .i64 ((rdL s40.2.2 u44).fAt.fFoot), .int .i64 ((rdL s40.2.2 u44).fAt.fHour), .int .i64 ((rdL s40.2.2 u44).fHeat.fLo), .int .i64 ((rdL s40.2.2 u44).fHeat.fHi)] ag_34 (Nat.succ_pos _) (RdL.row 1 rfl) rfl (encL_gets TLook_cells_len hg68.1 (lt_nat hg68.2 hn1_s40))) ?_
                obtain ⟨hg69, h⟩ := guardO_some h
                refine qx_y rfl (y_indexR sl_22 (by decide) hg69.1 hg69.2 (RdL.row 1 rfl) (encL_len TLook_cells_len hn1_s40) rfl rfl) ?_
                refine qx_nil ?_
                refine ox_n rfl (y_storeRN 1 (xs := s40.2.2) [.int .i64 ((rdL s40.2.2 u56).fID), .int .i64 ((rdL s40.2.2 u56).fAt.fFoot), .int .i64 ((rdL s40.2.2 u56).fAt.fHour), .int .i64 ((rdL s40.2.2 u56).fHeat.fLo), .int .i64 ((rdL s40.2.2 u56).fHeat.fHi)] TLook_cells_len (Nat.succ_pos _) (rdL s40.2.2 u56) sz_34 rfl hg69.1 (lt_nat hg69.2 hn1_s40) rfl rfl rfl rfl) ?_
                obtain ⟨hg70, h⟩ := guardO_some h
                refine ox_y rfl (y_indexR sl_22 (by decide) hg70.1 hg70.2 (RdL.row 1 rfl) (encL_len TLook_cells_len (hn_set hn1_s40)) rfl rfl) ?_
                refine ox_n rfl (y_storeRN 1 (xs := (s40.2.2.set (Int.toNat u44) (rdL s40.2.2 u56))) [.int .i64 ((rdL s40.2.2 u44).fID), .int .i64 ((rdL s40.2.2 u44).fAt.fFoot), .int .i64 ((rdL s40.2.2 u44).fAt.fHour), .int .i64 ((rdL s40.2.2 u44).fHeat.fLo), .int .i64 ((rdL s40.2.2 u44).fHeat.fHi)] TLook_cells_len (Nat.succ_pos _) (rdL s40.2.2 u44) sz_34 rfl hg70.1 (lt_nat hg70.2 (hn_set hn1_s40)) rfl rfl rfl rfl) ?_
                refine ox_nil ?_
                refine ex_only ?_
                refine ex_then ?_
                refine cx_seq ?_
                refine cx_region ?_
                refine ox_y rfl (y_move_int rfl) ?_
                refine ox_y rfl (y_add rfl rfl) ?_
                refine ox_y rfl (y_assign_int rfl) ?_
                refine ox_nil ?_
                refine ex_then ?_
                refine cx_region ?_
                refine ox_y rfl (y_move_int rfl) ?_
                refine ox_y rfl (y_sub rfl rfl) ?_
                refine ox_y rfl (y_assign_int rfl) ?_
                refine ox_nil ?_
                refine ex_block ?_
                obtain rfl := Option.some.inj h
                exact ex_next ⟨_, (hn_set (hn_set hn1_s40)), rfl, (keep (keep (keep (keep (keep (keep (keep (keep (keep (keep rfl rfl) rfl) rfl) rfl) rfl) rfl) rfl) rfl) rfl) rfl)⟩
        · intro e L tm hJ
          obtain ⟨rfl, tm0_u41, hn1_u41, rfl, rfl⟩ := hJ
          refine ⟨(by intro hc; cases hc), ?_⟩
          refine ex_block_here ?_
          refine ex_then ?_
          refine cx_seq ?_
          refine cx_drawsF [2, 3] 13 mixed (by kernel_rfl) (by kernel_rfl) ?_
          refine qx_y rfl (y_move_slice rfl) ?_
          refine qx_y rfl (y_move_int rfl) ?_
          refine qx_y rfl (y_move_slice rfl) ?_
          refine qx_y rfl (y_move_int rfl) ?_
          refine qx_y rfl (y_move_slice rfl) ?_
          refine qx_y rfl (y_move_int rfl) ?_
          obtain ⟨hg72, h⟩ := guardO_some h
          refine qx_y rfl (y_indexR sl_22 (by decide) hg72.1 hg72.2 (RdL.row 1 rfl) (encL_len TLook_cells_len hn1_u41) rfl rfl) ?_
          refine qx_y rfl (y_loadRN (A := A0_0) (j := (Int.toNat p1 * 5)) [.int .i64 ((rdL u41.2.2 p1).fID), .int .i64 ((rdL u41.2.2 p1).fAt.fFoot), .int .i64 ((rdL u41.2.2 p1).fAt.fHour), .int .i64 ((rdL u41.2.2 p1).fHeat.fLo), .int .i64 ((rdL u41.2.2 p1).fHeat.fHi)] ag_34 (Nat.succ_pos _) (RdL.row 1 rfl) rfl (encL_gets TLook_cells_len hg72.1 (lt_nat hg72.2 hn1_u41))) ?_
          refine qx_y rfl (y_move_slice rfl) ?_
          refine qx_y rfl (y_move_int rfl) ?_
          obtain ⟨hg73, h⟩ := guardO_some h
          refine qx_y rfl (y_indexR sl_22 (by decide) hg73.1 hg73.2 (RdL.row 1 rfl) (encL_len TLook_cells_len hn1_u41) rfl rfl) ?_
          refine qx_y rfl (y_loadRN (A := A0_0) (j := (Int.toNat u41.2.1 * 5)) [.int .i64 ((rdL u41.2.2 u41.2.1).fID), .int .i64 ((rdL u41.2.2 u41.2.1).fAt.fFoot), .int .i64 ((rdL u41.2.2 u41.2.1).fAt.fHour), .int .i64 ((rdL u41.2.2 u41.2.1).fHeat.fLo), .int .i64 ((rdL u41.2.2 u41.2.1).fHeat.fHi)] ag_34 (Nat.succ_pos _) (RdL.row 1 rfl) rfl (encL_gets TLook_cells_len hg73.1 (lt_nat hg73.2 hn1_u41))) ?_
          obtain ⟨hg74, h⟩ := guardO_some h
          refine qx_y rfl (y_indexR sl_22 (by decide) hg74.1 hg74.2 (RdL.row 1 rfl) (encL_len TLook_cells_len hn1_u41) rfl rfl) ?_
          refine qx_nil ?_
          refine ox_n rfl (y_storeRN 1 (xs := u41.2.2) [.int .i64 ((rdL u41.2.2 p1).fID), .int .i64 ((rdL u41.2.2 p1).fAt.fFoot), .int .i64 ((rdL u41.2.2 p1).fAt.fHour), .int .i64 ((rdL u41.2.2 p1).fHeat.fLo), .int .i64 ((rdL u41.2.2 p1).fHeat.fHi)] TLook_cells_len (Nat.succ_pos _) (rdL u41.2.2 p1) sz_34 rfl hg74.1 (lt_nat hg74.2 hn1_u41) rfl rfl rfl rfl) ?_
          obtain ⟨hg75, h⟩ := guardO_some h
          refine ox_y rfl (y_indexR sl_22 (by decide) hg75.1 hg75.2 (RdL.row 1 rfl) (encL_len TLook_cells_len (hn_set hn1_u41)) rfl rfl) ?_
          refine ox_n rfl (y_storeRN 1 (xs := (u41.2.2.set (Int.toNat u41.2.1) (rdL u41.2.2 p1))) [.int .i64 ((rdL u41.2.2 u41.2.1).fID), .int .i64 ((rdL u41.2.2 u41.2.1).fAt.fFoot), .int .i64 ((rdL u41.2.2 u41.2.1).fAt.fHour), .int .i64 ((rdL u41.2.2 u41.2.1).fHeat.fLo), .int .i64 ((rdL u41.2.2 u41.2.1).fHeat.fHi)] TLook_cells_len (Nat.succ_pos _) (rdL u41.2.2 u41.2.1) sz_34 rfl hg75.1 (lt_nat hg75.2 (hn_set hn1_u41)) rfl rfl rfl rfl) ?_
          refine ox_nil ?_
          refine ex_only ?_
          refine ex_then ?_
          refine cx_seq ?_
          refine cx_region ?_
          refine ox_y rfl (y_move_int rfl) ?_
          refine ox_y rfl (y_assign_int rfl) ?_
          refine ox_y rfl (y_assign_bool rfl) ?_
          refine ox_nil ?_
          refine ex_then ?_
          refine cx_ret ?_
          obtain rfl := Option.some.inj h
          exact ex_res2 (.inl rfl) rfl (resV_tmp (v := .int .i64 u41.2.1) rfl) (resV_tmp (v := .bool false) rfl) (fun W2 hW2 => ⟨rfl, (hn_set (hn_set hn1_u41)), hW2.take 2⟩)

/-! slices.pdqsortCmpFunc[calx/api.Look] -/
set_option maxRecDepth 100000 in
theorem slices_pdqsortCmpFunc_calx_api_Look_0_ok (p0 : (List TLook)) (p1 : Int) (p2 : Int) (p3 : Int) (p4 : TLook → TLook → Option Int) (res : (List TLook)) (h : slices_pdqsortCmpFunc_calx_api_Look_0 p0 p1 p2 p3 p4 = some res) (W : World) (w0 : World) (R : Res) (A0_0 : Option Addr) (n0_0 c0_0 : Nat) (hn0_0 : n0_0 = p0.length) (fid4 : Nat) (caps4 : List Value) (hgo4 : goes Try.prog fid4 = true) (hof4 : ∀ W2, Below w0.heap.size w0 W2 → R.holds W2 → ∀ x0 x1 y, p4 x0 x1 = some y → Calls Try.prog fid4 (([.agg #[.int .i64 x0.fID, .int .i64 x0.fAt.fFoot, .int .i64 x0.fAt.fHour, .int .i64 x0.fHeat.fLo, .int .i64 x0.fHeat.fHi], .agg #[.int .i64 x1.fID, .int .i64 x1.fAt.fFoot, .int .i64 x1.fAt.fHour, .int .i64 x1.fHeat.fLo, .int .i64 x1.fHeat.fHi]] : List Value) ++ caps4).toArray W2 fun e W3 => e = .returned (.int .i64 y) ∧ Ext W2 W3 []) (hW : Ext w0 W [R, rowR A0_0 c0_0 34 5 n0_0 (encL TLook_cells p0)]) :
    Calls Try.prog 120 [.slice A0_0 n0_0 c0_0, .int .i64 p1, .int .i64 p2, .int .i64 p3, .func (.func fid4) #[] caps4.toArray].toArray W fun e W2 => e = .returned (.tuple #[]) ∧ n0_0 = res.length ∧ Ext w0 W2 [R, rowR A0_0 c0_0 34 5 n0_0 (encL TLook_cells res)] := by
  subst hn0_0
  unfold slices_pdqsortCmpFunc_calx_api_Look_0 at h
  refine calls_enterB (m := 148) Try.func120 rfl rfl (Nat.le_of_ble_eq_true rfl) hW ?_
  refine cx_seq ?_
  refine cx_region ?_
  refine ox_y rfl (y_assign_bool rfl) ?_
  refine ox_nil ?_
  refine ex_then ?_
  refine cx_seq ?_
  refine cx_region ?_
  refine ox_y rfl (y_assign_bool rfl) ?_
  refine ox_nil ?_
  refine ex_then ?_
  refine cx_block ?_
  obtain ⟨u4, hl9, h⟩ := bind_some h
  refine cx_loop (fun (s : (Int × Int × Int × Bool × Bool × (List TLook))) L tm => ∃ (tm0 : Nat → Value), p0.length = s.2.2.2.2.2.length ∧ L = [R, rowR A0_0 c0_0 34 5 p0.length (encL TLook_cells s.2.2.2.2.2)] ∧ tm = (upd (upd (upd (upd (upd (upd (upd tm0 0 (.slice A0_0 p0.length c0_0)) 1 (.int .i64 s.1)) 2 (.int .i64 s.2.1)) 3 (.int .i64 s.2.2.1)) 4 (.func (.func fid4) #[] caps4.toArray)) 10 (.bool s.2.2.2.1)) 11 (.bool s.2.2.2.2.1))) (fun s e L tm => e = .ret ∧ ∃ (tm0 : Nat → Value), p0.length = s.2.2.2.2.2.length ∧ L = [R, rowR A0_0 c0_0 34 5 p0.length (encL TLook_cells s.2.2.2.2.2)] ∧ tm = (upd (upd (upd (upd (upd (upd (upd tm0 0 (.slice A0_0 p0.length c0_0)) 1 (.int .i64 s.1)) 2 (.int .i64 s.2.1)) 3 (.int .i64 s.2.2.1)) 4 (.func (.func fid4) #[] caps4.toArray)) 10 (.bool s.2.2.2.1)) 11 (.bool s.2.2.2.2.1))) hl9 ⟨_, rfl, rfl, (keep (keep (keep (keep (keep (keep (keep rfl rfl) rfl) rfl) rfl) rfl) rfl) rfl)⟩ ?_ ?_
  · rintro s3 L tm st ⟨tm0_s3, hn1_s3, rfl, rfl⟩ h
    unfold slices_pdqsortCmpFunc_calx_api_Look_0_l1 at h
    refine cx_block ?_
    refine cx_seq ?_
    refine cx_region ?_
    refine ox_y rfl (y_move_int rfl) ?_
    refine ox_y rfl (y_move_int rfl) ?_
    refine ox_y rfl (y_sub rfl rfl) ?_
    refine ox_y rfl (y_assign_int rfl) ?_
    refine ox_nil ?_
    refine ex_then ?_
    refine cx_seq ?_
    refine cx_seq ?_
    refine cx_region ?_
    refine ox_y rfl (y_move_int rfl) ?_
    refine ox_y rfl (y_leq rfl rfl) ?_
    refine ox_nil ?_
    refine ex_then ?_
    obtain ⟨hp5, h⟩ := guardO_some h
    refine cx_true (congrArg Value.bool hp5) ?_
    refine cx_seq ?_
    refine cx_region ?_
    refine ox_y rfl (y_move_slice rfl) ?_
    refine ox_y rfl (y_move_int rfl) ?_
    refine ox_y rfl (y_move_int rfl) ?_
    refine ox_y rfl (y_move (v := .func (.func fid4) #[] caps4.toArray) rfl) ?_
    obtain ⟨y6, hy7, h⟩ := bind_some h
    refine ox_callT 1 [.slice A0_0 p0.length c0_0, .int .i64 s3.1, .int .i64 s3.2.1, .func (.func fid4) #[] caps4.toArray] (fun (_ : Unit) => p0.length = y6.length) (fun _ => .tuple #[]) (fun _ => rowR A0_0 c0_0 34 5 p0.length (encL TLook_cells y6)) (fun _ => []) rfl rfl go_122 rfl (fun W2 hW2 => (slices_insertionSortCmpFunc_calx_api_Look_ok s3.2.2.2.2.2 s3.1 s3.2.1 p4 y6 hy7 W2 _ (restR [R, rowR A0_0 c0_0 34 5 p0.length (encL TLook_cells s3.2.2.2.2.2)] [1]) A0_0 p0.length c0_0 (hn1_s3) fid4 caps4 hgo4 (fun W3 hb hR => hof4 W3 hb (hR.1 0 _ (by decide) rfl)) hW2).mono (fun e W3 h3 => ⟨(), h3.2.1, h3.1, h3.2.2⟩)) ?_
    rintro - hn8
    try dsimp only [List.set_cons_zero, List.set_cons_succ, List.append_nil]
    refine ox_nil ?_
    refine ex_then ?_
    refine cx_ret ?_
    refine ex_then_ret ?_
    refine ex_block_ret ?_
    obtain rfl := Option.some.inj h
    exact ex_stop ⟨rfl, _, hn8, rfl, (keep (keep (keep (keep (keep (keep (keep rfl rfl) rfl) rfl) rfl) rfl) rfl) rfl)⟩
  · intro e L tm hJ
    obtain ⟨rfl, tm0_u4, hn1_u4, rfl, rfl⟩ := hJ
    refine ⟨(by intro hc; cases hc), ?_⟩
    refine ex_block_ret ?_
    obtain rfl := Option.some.inj h
    exact ex_result0 (.inl rfl) rfl  (fun W2 hW2 => ⟨rfl, hn1_u4, hW2.take 2⟩)

/-! slices.pdqsortCmpFunc[calx/api.Look] -/
set_option maxRecDepth 100000 in
theorem slices_pdqsortCmpFunc_calx_api_Look_ok (p0 : (List TLook)) (p1 : Int) (p2 : Int) (p3 : Int) (p4 : TLook → TLook → Option Int) (res : (List TLook)) (h : slices_pdqsortCmpFunc_calx_api_Look p0 p1 p2 p3 p4 = some res) (W : World) (w0 : World) (R : Res) (A0_0 : Option Addr) (n0_0 c0_0 : Nat) (hn0_0 : n0_0 = p0.length) (fid4 : Nat) (caps4 : List Value) (hgo4 : goes Try.prog fid4 = true) (hof4 : ∀ W2, Below w0.heap.size w0 W2 → R.holds W2 → ∀ x0 x1 y, p4 x0 x1 = some y → Calls Try.prog fid4 (([.agg #[.int .i64 x0.fID, .int .i64 x0.fAt.fFoot, .int .i64 x0.fAt.fHour, .int .i64 x0.fHeat.fLo, .int .i64 x0.fHeat.fHi], .agg #[.int .i64 x1.fID, .int .i64 x1.fAt.fFoot, .int .i64 x1.fAt.fHour, .int .i64 x1.fHeat.fLo, .int .i64 x1.fHeat.fHi]] : List Value) ++ caps4).toArray W2 fun e W3 => e = .returned (.int .i64 y) ∧ Ext W2 W3 []) (hW : Ext w0 W [R, rowR A0_0 c0_0 34 5 n0_0 (encL TLook_cells p0)]) :
    Calls Try.prog 120 [.slice A0_0 n0_0 c0_0, .int .i64 p1, .int .i64 p2, .int .i64 p3, .func (.func fid4) #[] caps4.toArray].toArray W fun e W2 => e = .returned (.tuple #[]) ∧ n0_0 = res.length ∧ Ext w0 W2 [R, rowR A0_0 c0_0 34 5 n0_0 (encL TLook_cells res)] := by
  subst hn0_0
  unfold slices_pdqsortCmpFunc_calx_api_Look at h
  refine calls_enterB (m := 148) Try.func120 rfl rfl (Nat.le_of_ble_eq_true rfl) hW ?_
  refine cx_seq ?_
  refine cx_region ?_
  refine ox_y rfl (y_assign_bool rfl) ?_
  refine ox_nil ?_
  refine ex_then ?_
  refine cx_seq ?_
  refine cx_region ?_
  refine ox_y rfl (y_assign_bool rfl) ?_
  refine ox_nil ?_
  refine ex_then ?_
  refine cx_block ?_
  obtain ⟨u4, hl57, h⟩ := bind_some h
  refine cx_loop (fun (s : (Int × Int × Int × Bool × Bool × (List TLook))) L tm => ∃ (tm0 : Nat → Value), p0.length = s.2.2.2.2.2.length ∧ L = [R, rowR A0_0 c0_0 34 5 p0.length (encL TLook_cells s.2.2.2.2.2)] ∧ tm = (upd (upd (upd (upd (upd (upd (upd tm0 0 (.slice A0_0 p0.length c0_0)) 1 (.int .i64 s.1)) 2 (.int .i64 s.2.1)) 3 (.int .i64 s.2.2.1)) 4 (.func (.func fid4) #[] caps4.toArray)) 10 (.bool s.2.2.2.1)) 11 (.bool s.2.2.2.2.1))) (fun s e L tm => e = .ret ∧ ∃ (tm0 : Nat → Value), p0.length = s.2.2.2.2.2.length ∧ L = [R, rowR A0_0 c0_0 34 5 p0.length (encL TLook_cells s.2.2.2.2.2)] ∧ tm = (upd (upd (upd (upd (upd (upd (upd tm0 0 (.slice A0_0 p0.length c0_0)) 1 (.int .i64 s.1)) 2 (.int .i64 s.2.1)) 3 (.int .i64 s.2.2.1)) 4 (.func (.func fid4) #[] caps4.toArray)) 10 (.bool s.2.2.2.1)) 11 (.bool s.2.2.2.2.1))) hl57 ⟨_, rfl, rfl, (keep (keep (keep (keep (keep (keep (keep rfl rfl) rfl) rfl) rfl) rfl) rfl) rfl)⟩ ?_ ?_
  · rintro s3 L tm st ⟨tm0_s3, hn1_s3, rfl, rfl⟩ h
    unfold slices_pdqsortCmpFunc_calx_api_Look_l1 at h
    refine cx_block ?_
    refine cx_seq ?_
    refine cx_region ?_
    refine ox_y rfl (y_move_int rfl) ?_
    refine ox_y rfl (y_move_int rfl) ?_
    refine ox_y rfl (y_sub rfl rfl) ?_
    refine ox_y rfl (y_assign_int rfl) ?_
    refine ox_nil ?_
    refine ex_then ?_
    refine cx_seq ?_
    refine cx_seq ?_
    refine cx_region ?_
    refine ox_y rfl (y_move_int rfl) ?_
    refine ox_y rfl (y_leq rfl rfl) ?_
    refine ox_nil ?_
    refine ex_then ?_
    rcases ite_some h with ⟨hp5, h⟩ | ⟨hp5, h⟩
    · refine cx_true (congrArg Value.bool hp5) ?_
      refine cx_seq ?_
      refine cx_region ?_
      refine ox_y rfl (y_move_slice rfl) ?_
      refine ox_y rfl (y_move_int rfl) ?_
      refine ox_y rfl (y_move_int rfl) ?_
      refine ox_y rfl (y_move (v := .func (.func fid4) #[] caps4.toArray) rfl) ?_
      obtain ⟨y6, hy7, h⟩ := bind_some h
      refine ox_callT 1 [.slice A0_0 p0.length c0_0, .int .i64 s3.1, .int .i64 s3.2.1, .func (.func fid4) #[] caps4.toArray] (fun (_ : Unit) => p0.length = y6.length) (fun _ => .tuple #[]) (fun _ => rowR A0_0 c0_0 34 5 p0.length (encL TLook_cells y6)) (fun _ => []) rfl rfl go_122 rfl (fun W2 hW2 => (slices_insertionSortCmpFunc_calx_api_Look_ok s3.2.2.2.2.2 s3.1 s3.2.1 p4 y6 hy7 W2 _ (restR [R, rowR A0_0 c0_0 34 5 p0.length (encL TLook_cells s3.2.2.2.2.2)] [1]) A0_0 p0.length c0_0 (hn1_s3) fid4 caps4 hgo4 (fun W3 hb hR => hof4 W3 hb (hR.1 0 _ (by decide) rfl)) hW2).mono (fun e W3 h3 => ⟨(), h3.2.1, h3.1, h3.2.2⟩)) ?_
      rintro - hn8
      try dsimp only [List.set_cons_zero, List.set_cons_succ, List.append_nil]
      refine ox_nil ?_
      refine ex_then ?_
      refine cx_ret ?_
      refine ex_then_ret ?_
      refine ex_block_ret ?_
      obtain rfl := Option.some.inj h
      exact ex_stop ⟨rfl, _, hn8, rfl, (keep (keep (keep (keep (keep (keep (keep rfl rfl) rfl) rfl) rfl) rfl) rfl) rfl)⟩
    · refine cx_false (congrArg Value.bool hp5) ?_
      refine cx_skip ?_
      refine ex_then ?_
      refine cx_seq ?_
      refine cx_seq ?_
      refine cx_region ?_
      refine ox_y rfl (y_move_int rfl) ?_
      refine ox_y rfl (y_eql rfl rfl) ?_
      refine ox_nil ?_
      refine ex_then ?_
      obtain ⟨hp9, h⟩ := guardO_some h
      refine cx_false (congrArg Value.bool hp9) ?_
      refine cx_skip ?_
      refine ex_then ?_
      refine cx_seq ?_
      refine cx_seq ?_
      refine cx_region ?_
      refine ox_y rfl (y_move_bool rfl) ?_
      refine ox_y rfl (y_not rfl) ?_
      refine ox_nil ?_
      refine ex_then ?_
      obtain ⟨hp10, h⟩ := guardO_some h
      refine cx_false (congrArg Value.bool hp10) ?_
      refine cx_skip ?_
      refine ex_then ?_
      refine cx_seq ?_
      refine cx_region ?_
      refine ox_y rfl (y_move_slice rfl) ?_
      refine ox_y rfl (y_move_int rfl) ?_
      refine ox_y rfl (y_move_int rfl) ?_
      refine ox_y rfl (y_move (v := .func (.func fid4) #[] caps4.toArray) rfl) ?_
      obtain ⟨y11, hy12, h⟩ := bind_some h
      refine ox_y rfl (y_call [.slice A0_0 p0.length c0_0, .int .i64 s3.1, .int .i64 s3.2.1, .func (.func fid4) #[] caps4.toArray] go_125 rfl (fun W2 hW2 => slices_choosePivotCmpFunc_calx_api_Look_ok s3.2.2.2.2.2 s3.1 s3.2.1 p4 y11 hy12 W2 A0_0 p0.length c0_0 (hn1_s3) ((RdL.row 1 rfl) W2 hW2) fid4 caps4 hgo4 (fun W3 hb => hof4 W3 (belowT hW2.below hb) ((hW2.below' hb).mem (i := 0) rfl))) rfl) ?_
      refine ox_y rfl (y_move_tuple rfl) ?_
      refine ox_y rfl (y_extract (vs := [.int .i64 y11.1, .int .i64 y11.2]) (v := .int .i64 y11.1) rfl rfl) ?_
      refine ox_y rfl (y_extract (vs := [.int .i64 y11.1, .int .i64 y11.2]) (v := .int .i64 y11.2) rfl rfl) ?_
      refine ox_y rfl (y_assign_int rfl) ?_
      refine ox_y rfl (y_assign_int rfl) ?_
      refine ox_nil ?_
      refine ex_then ?_
      refine cx_seq ?_
      refine cx_seq ?_
      refine cx_region ?_
      refine ox_y rfl (y_move_int rfl) ?_
      refine ox_y rfl (y_eql rfl rfl) ?_
      refine ox_nil ?_
      refine ex_then ?_
      obtain ⟨hp13, h⟩ := guardO_some h
      refine cx_false (congrArg Value.bool hp13) ?_
      refine cx_skip ?_
      refine ex_then ?_
      refine cx_seq ?_
      refine cx_seq ?_
      refine cx_region ?_
      refine ox_y rfl (y_move_bool rfl) ?_
      refine ox_y rfl (y_move_bool rfl) ?_
      refine ox_join 2 (fun tm0 => (upd (upd (upd (upd (upd (upd (upd (upd (upd (upd (upd (upd (upd (upd (upd tm0 0 (.slice A0_0 p0.length c0_0)) 1 (.int .i64 s3.1)) 2 (.int .i64 s3.2.1)) 3 (.int .i64 s3.2.2.1)) 4 (.func (.func fid4) #[] caps4.toArray)) 10 (.bool s3.2.2.2.1)) 11 (.bool s3.2.2.2.2.1)) 12 (.int .i64 (w64 (s3.2.1 - s3.1)))) 25 (.bool (decide (w64 (s3.2.1 - s3.1) ≤ 12)))) 32 (.bool (s3.2.2.1 == 0))) 39 (.bool (!s3.2.2.2.1))) 13 (.int .i64 y11.1)) 14 (.int .i64 y11.2)) 56 (.bool (y11.2 == 2))) 71 (.bool (s3.2.2.2.1 && s3.2.2.2.2.1)))) (fun tm0 => ?_) (fun key => ?_)
      · refine ox_y rfl (y_move_bool rfl) ?_
        refine ox_join 3 (fun tm0 => (upd (upd (upd (upd (upd (upd (upd (upd (upd (upd (upd (upd (upd (upd (upd tm0 0 (.slice A0_0 p0.length c0_0)) 1 (.int .i64 s3.1)) 2 (.int .i64 s3.2.1)) 3 (.int .i64 s3.2.2.1)) 4 (.func (.func fid4) #[] caps4.toArray)) 10 (.bool s3.2.2.2.1)) 11 (.bool s3.2.2.2.2.1)) 12 (.int .i64 (w64 (s3.2.1 - s3.1)))) 25 (.bool (decide (w64 (s3.2.1 - s3.1) ≤ 12)))) 32 (.bool (s3.2.2.1 == 0))) 39 (.bool (!s3.2.2.2.1))) 13 (.int .i64 y11.1)) 14 (.int .i64 y11.2)) 56 (.bool (y11.2 == 2))) 75 (.bool ((s3.2.2.2.1 && s3.2.2.2.2.1) && (y11.2 == 1))))) (fun tm0 => ?_) (fun key => ?_)
        · refine ox_nil ?_
          refine ex_then ?_
          rcases ite_some h with ⟨hp16, h⟩ | ⟨hp16, h⟩
          · refine cx_true (congrArg Value.bool hp16) ?_
            refine cx_seq ?_
            refine cx_region ?_
            refine ox_y rfl (y_move_slice rfl) ?_
            refine ox_y rfl (y_move_int rfl) ?_
            refine ox_y rfl (y_move_int rfl) ?_
            refine ox_y rfl (y_move (v := .func (.func fid4) #[] caps4.toArray) rfl) ?_
            obtain ⟨y17, hy18, h⟩ := bind_some h
            refine ox_callT 1 [.slice A0_0 p0.length c0_0, .int .i64 s3.1, .int .i64 s3.2.1, .func (.func fid4) #[] caps4.toArray] (fun (_ : Unit) => p0.length = y17.2.length) (fun _ => .bool y17.1) (fun _ => rowR A0_0 c0_0 34 5 p0.length (encL TLook_cells y17.2)) (fun _ => []) rfl rfl go_127 rfl (fun W2 hW2 => (slices_partialInsertionSortCmpFunc_calx_api_Look_ok s3.2.2.2.2.2 s3.1 s3.2.1 p4 y17 hy18 W2 _ (restR [R, rowR A0_0 c0_0 34 5 p0.length (encL TLook_cells s3.2.2.2.2.2)] [1]) A0_0 p0.length c0_0 (hn1_s3) fid4 caps4 hgo4 (fun W3 hb hR => hof4 W3 hb (hR.1 0 _ (by decide) rfl)) hW2).mono (fun e W3 h3 => ⟨(), h3.2.1, h3.1, h3.2.2⟩)) ?_
            rintro - hn19
            try dsimp only [List.set_cons_zero, List.set_cons_succ, List.append_nil]
            refine ox_nil ?_
            refine ex_then ?_
            rcases ite_some h with ⟨hp20, h⟩ | ⟨hp20, h⟩
            · refine cx_true (congrArg Value.bool hp20) ?_
              refine cx_ret ?_
              refine ex_then_ret ?_
              refine ex_block_ret ?_
              obtain rfl := Option.some.inj h
              exact ex_stop ⟨rfl, _, hn19, rfl, (keep (keep (keep (keep (keep (keep (keep rfl rfl) rfl) rfl) rfl) rfl) rfl) rfl)⟩
            · refine cx_false (congrArg Value.bool hp20) ?_
              refine cx_skip ?_
              refine ex_then ?_
              refine cx_seq ?_
              refine cx_seq ?_
              refine cx_draws 17 mixed (by kernel_rfl) (by kernel_rfl) ?_
              refine qx_y rfl (y_move_int rfl) ?_
              refine qx_y rfl (y_gtr rfl rfl) ?_
              refine qx_y rfl (y_move_bool rfl) ?_
              obtain ⟨b22, hb23, h⟩ := bind_some h
              refine qx_join 14 (fun tm0 => (upd (upd (upd (upd (upd (upd (upd (upd (upd (upd (upd (upd (upd (upd (upd (upd (upd tm0 0 (.slice A0_0 p0.length c0_0)) 1 (.int .i64 s3.1)) 2 (.int .i64 s3.2.1)) 3 (.int .i64 s3.2.2.1)) 4 (.func (.func fid4) #[] caps4.toArray)) 10 (.bool s3.2.2.2.1)) 11 (.bool s3.2.2.2.2.1)) 12 (.int .i64 (w64 (s3.2.1 - s3.1)))) 25 (.bool (decide (w64 (s3.2.1 - s3.1) ≤ 12)))) 32 (.bool (s3.2.2.1 == 0))) 39 (.bool (!s3.2.2.2.1))) 13 (.int .i64 y11.1)) 14 (.int .i64 y11.2)) 56 (.bool (y11.2 == 2))) 75 (.bool ((s3.2.2.2.1 && s3.2.2.2.2.1) && (y11.2 == 1)))) 80 (.bool y17.1)) 97 (.bool b22))) (fun tm0 => ?_) (fun key => ?_)
              · refine qx_nil ?_
                refine ox_nil ?_
                refine ex_then ?_
                obtain ⟨hp24, h⟩ := guardO_some h
                refine cx_false (congrArg Value.bool hp24) ?_
                refine cx_skip ?_
                refine ex_then ?_
                refine cx_seq ?_
                refine cx_region ?_
                refine ox_y rfl (y_move_slice rfl) ?_
                refine ox_y rfl (y_move_int rfl) ?_
                refine ox_y rfl (y_move_int rfl) ?_
                refine ox_y rfl (y_move_int rfl) ?_
                refine ox_y rfl (y_move (v := .func (.func fid4) #[] caps4.toArray) rfl) ?_
                obtain ⟨y25, hy26, h⟩ := bind_some h
                refine ox_callT 1 [.slice A0_0 p0.length c0_0, .int .i64 s3.1, .int .i64 s3.2.1, .int .i64 y11.1, .func (.func fid4) #[] caps4.toArray] (fun (_ : Unit) => p0.length = y25.2.2.length) (fun _ => .tuple #[.int .i64 y25.1, .bool y25.2.1]) (fun _ => rowR A0_0 c0_0 34 5 p0.length (encL TLook_cells y25.2.2)) (fun _ => []) rfl rfl go_129 rfl (fun W2 hW2 => (slices_partitionCmpFunc_calx_api_Look_ok y17.2 s3.1 s3.2.1 y11.1 p4 y25 hy26 W2 _ (restR [R, rowR A0_0 c0_0 34 5 p0.length (encL TLook_cells y17.2)] [1]) A0_0 p0.length c0_0 (hn19) fid4 caps4 hgo4 (fun W3 hb hR => hof4 W3 hb (hR.1 0 _ (by decide) rfl)) hW2).mono (fun e W3 h3 => ⟨(), h3.2.1, h3.1, h3.2.2⟩)) ?_
                rintro - hn27
                try dsimp only [List.set_cons_zero, List.set_cons_succ, List.append_nil]
                refine ox_y rfl (y_move_tuple rfl) ?_
                refine ox_y rfl (y_extract (vs := [.int .i64 y25.1, .bool y25.2.1]) (v := .int .i64 y25.1) rfl rfl) ?_
                refine ox_y rfl (y_extract (vs := [.int .i64 y25.1, .bool y25.2.1]) (v := .bool y25.2.1) rfl rfl) ?_
                refine ox_y rfl (y_assign_int rfl) ?_
                refine ox_y rfl (y_assign_bool rfl) ?_
                refine ox_nil ?_
                refine ex_then ?_
                refine cx_seq ?_
                refine cx_region ?_
                refine ox_y rfl (y_move_bool rfl) ?_
                refine ox_y rfl (y_assign_bool rfl) ?_
                refine ox_nil ?_
                refine ex_then ?_
                refine cx_seq ?_
                refine cx_region ?_
                refine ox_y rfl (y_move_int rfl) ?_
                refine ox_y rfl (y_move_int rfl) ?_
                refine ox_y rfl (y_sub rfl rfl) ?_
                refine ox_y rfl (y_move_int rfl) ?_
                refine ox_y rfl (y_move_int rfl) ?_
                refine ox_y rfl (y_sub rfl rfl) ?_
                refine ox_y rfl (y_assign_int rfl) ?_
                refine ox_y rfl (y_assign_int rfl) ?_
                refine ox_nil ?_
                refine ex_then ?_
                refine cx_seq ?_
                refine cx_region ?_
                refine ox_y rfl (y_move_int rfl) ?_
                refine ox_y rfl (y_quo (by decide) rfl rfl) ?_
                refine ox_y rfl (y_assign_int rfl) ?_
                refine ox_nil ?_
                refine ex_then ?_
                refine cx_seq ?_
                refine cx_region ?_
                refine ox_y rfl (y_move_int rfl) ?_
                refine ox_y rfl (y_move_int rfl) ?_
                refine ox_y rfl (y_lss rfl rfl) ?_
                refine ox_nil ?_
                refine ex_then ?_
                rcases ite_some h with ⟨hp28, h⟩ | ⟨hp28, h⟩
                · refine cx_true (congrArg Value.bool hp28) ?_
                  refine cx_seq ?_
                  refine cx_region ?_
                  refine ox_y rfl (y_move_int rfl) ?_
                  refine ox_y rfl (y_move_int rfl) ?_
                  refine ox_y rfl (y_geq rfl rfl) ?_
                  refine ox_y rfl (y_assign_bool rfl) ?_
                  refine ox_nil ?_
                  refine ex_then ?_
                  refine cx_seq ?_
                  refine cx_region ?_
                  refine ox_y rfl (y_move_slice rfl) ?_
                  refine ox_y rfl (y_move_int rfl) ?_
                  refine ox_y rfl (y_move_int rfl) ?_
                  refine ox_y rfl (y_move_int rfl) ?_
                  refine ox_y rfl (y_move (v := .func (.func fid4) #[] caps4.toArray) rfl) ?_
                  obtain ⟨y29, hy30, h⟩ := bind_some h
                  refine ox_callT 1 [.slice A0_0 p0.length c0_0, .int .i64 s3.1, .int .i64 y25.1, .int .i64 s3.2.2.1, .func (.func fid4) #[] caps4.toArray] (fun (_ : Unit) => p0.length = y29.length) (fun _ => .tuple #[]) (fun _ => rowR A0_0 c0_0 34 5 p0.length (encL TLook_cells y29)) (fun _ => []) rfl rfl go_120 rfl (fun W2 hW2 => (slices_pdqsortCmpFunc_calx_api_Look_0_ok y25.2.2 s3.1 y25.1 s3.2.2.1 p4 y29 hy30 W2 _ (restR [R, rowR A0_0 c0_0 34 5 p0.length (encL TLook_cells y25.2.2)] [1]) A0_0 p0.length c0_0 (hn27) fid4 caps4 hgo4 (fun W3 hb hR => hof4 W3 hb (hR.1 0 _ (by decide) rfl)) hW2).mono (fun e W3 h3 => ⟨(), h3.2.1, h3.1, h3.2.2⟩)) ?_
                  rintro - hn31
                  try dsimp only [List.set_cons_zero, List.set_cons_succ, List.append_nil]
                  refine ox_nil ?_
                  refine ex_then ?_
                  refine cx_region ?_
                  refine ox_y rfl (y_move_int rfl) ?_
                  refine ox_y rfl (y_add rfl rfl) ?_
                  refine ox_y rfl (y_assign_int rfl) ?_
                  refine ox_nil ?_
                  refine ex_block ?_
                  obtain rfl := Option.some.inj h
                  exact ex_next ⟨_, hn31, rfl, (keep (keep (keep (keep (keep (keep (keep rfl rfl) rfl) rfl) rfl) rfl) rfl) rfl)⟩
                · refine cx_false (congrArg Value.bool hp28) ?_
                  refine cx_seq ?_
                  refine cx_region ?_
                  refine ox_y rfl (y_move_int rfl) ?_
                  refine ox_y rfl (y_move_int rfl) ?_
                  refine ox_y rfl (y_geq rfl rfl) ?_
                  refine ox_y rfl (y_assign_bool rfl) ?_
                  refine ox_nil ?_
                  refine ex_then ?_
                  refine cx_seq ?_
                  refine cx_region ?_
                  refine ox_y rfl (y_move_slice rfl) ?_
                  refine ox_y rfl (y_move_int rfl) ?_
                  refine ox_y rfl (y_add rfl rfl) ?_
                  refine ox_y rfl (y_move_int rfl) ?_
                  refine ox_y rfl (y_move_int rfl) ?_
                  refine ox_y rfl (y_move (v := .func (.func fid4) #[] caps4.toArray) rfl) ?_
                  obtain ⟨y32, hy33, h⟩ := bind_some h
                  refine ox_callT 1 [.slice A0_0 p0.length c0_0, .int .i64 (w64 (y25.1 + 1)), .int .i64 s3.2.1, .int .i64 s3.2.2.1, .func (.func fid4) #[] caps4.toArray] (fun (_ : Unit) => p0.length = y32.length) (fun _ => .tuple #[]) (fun _ => rowR A0_0 c0_0 34 5 p0.length (encL TLook_cells y32)) (fun _ => []) rfl rfl go_120 rfl (fun W2 hW2 => (slices_pdqsortCmpFunc_calx_api_Look_0_ok y25.2.2 (w64 (y25.1 + 1)) s3.2.1 s3.2.2.1 p4 y32 hy33 W2 _ (restR [R, rowR A0_0 c0_0 34 5 p0.length (encL TLook_cells y25.2.2)] [1]) A0_0 p0.length c0_0 (hn27) fid4 caps4 hgo4 (fun W3 hb hR => hof4 W3 hb (hR.1 0 _ (by decide) rfl)) hW2).mono (fun e W3 h3 => ⟨(), h3.2.1, h3.1, h3.2.2⟩)) ?_
                  rintro - hn34
                  try dsimp only [List.set_cons_zero, List.set_cons_succ, List.append_nil]
                  refine ox_nil ?_
                  refine ex_then ?_
                  refine cx_region ?_
                  refine ox_y rfl (y_move_int rfl) ?_
                  refine ox_y rfl (y_assign_int rfl) ?_
                  refine ox_nil ?_
                  refine ex_block ?_
                  obtain rfl := Option.some.inj h
                  exact ex_next ⟨_, hn34, rfl, (keep (keep (keep (keep (keep (keep (keep rfl rfl) rfl) rfl) rfl) rfl) rfl) rfl)⟩
              · clear h; rcases ite_some hb23 with ⟨hp21, h⟩ | ⟨hp21, h⟩
                · refine qx_y (sees_t rfl rfl rfl rfl hp21) (y_move (v := .func (.func fid4) #[] caps4.toArray) rfl) ?_
                  refine qx_y (sees_t rfl rfl rfl rfl hp21) (y_move_slice rfl) ?_
                  refine qx_y (sees_t rfl rfl rfl rfl hp21) (y_move_int rfl) ?_
                  refine qx_y (sees_t rfl rfl rfl rfl hp21) (y_sub rfl rfl) ?_
                  obtain ⟨hg35, h⟩ := guardO_some h
                  refine qx_y (sees_t rfl rfl rfl rfl hp21) (y_indexR sl_22 (by decide) hg35.1 hg35.2 (RdL.row 1 rfl) (encL_len TLook_cells_len hn19) rfl rfl) ?_
                  refine qx_y (sees_t rfl rfl rfl rfl hp21) (y_loadRN (A := A0_0) (j := (Int.toNat (w64 (s3.1 - 1)) * 5)) [.int .i64 ((rdL y17.2 (w64 (s3.1 - 1))).fID), .int .i64 ((rdL y17.2 (w64 (s3.1 - 1))).fAt.fFoot), .int .i64 ((rdL y17.2 (w64 (s3.1 - 1))).fAt.fHour), .int .i64 ((rdL y17.2 (w64 (s3.1 - 1))).fHeat.fLo), .int .i64 ((rdL y17.2 (w64 (s3.1 - 1))).fHeat.fHi)] ag_34 (Nat.succ_pos _) (RdL.row 1 rfl) rfl (encL_gets TLook_cells_len hg35.1 (lt_nat hg35.2 hn19))) ?_
                  refine qx_y (sees_t rfl rfl rfl rfl hp21) (y_move_slice rfl) ?_
                  refine qx_y (sees_t rfl rfl rfl rfl hp21) (y_move_int rfl) ?_
                  obtain ⟨hg36, h⟩ := guardO_some h
                  refine qx_y (sees_t rfl rfl rfl rfl hp21) (y_indexR sl_22 (by decide) hg36.1 hg36.2 (RdL.row 1 rfl) (encL_len TLook_cells_len hn19) rfl rfl) ?_
                  refine qx_y (sees_t rfl rfl rfl rfl hp21) (y_loadRN (A := A0_0) (j := (Int.toNat y11.1 * 5)) [.int .i64 ((rdL y17.2 y11.1).fID), .int .i64 ((rdL y17.2 y11.1).fAt.fFoot), .int .i64 ((rdL y17.2 y11.1).fAt.fHour), .int .i64 ((rdL y17.2 y11.1).fHeat.fLo), .int .i64 ((rdL y17.2 y11.1).fHeat.fHi)] ag_34 (Nat.succ_pos _) (RdL.row 1 rfl) rfl (encL_gets TLook_cells_len hg36.1 (lt_nat hg36.2 hn19))) ?_
                  obtain ⟨y37, hy38, h⟩ := bind_some h
                  refine qx_y (sees_t rfl rfl rfl rfl hp21) (y_callv [.agg #[.int .i64 ((rdL y17.2 (w64 (s3.1 - 1))).fID), .int .i64 ((rdL y17.2 (w64 (s3.1 - 1))).fAt.fFoot), .int .i64 ((rdL y17.2 (w64 (s3.1 - 1))).fAt.fHour), .int .i64 ((rdL y17.2 (w64 (s3.1 - 1))).fHeat.fLo), .int .i64 ((rdL y17.2 (w64 (s3.1 - 1))).fHeat.fHi)], .agg #[.int .i64 ((rdL y17.2 y11.1).fID), .int .i64 ((rdL y17.2 y11.1).fAt.fFoot), .int .i64 ((rdL y17.2 y11.1).fAt.fHour), .int .i64 ((rdL y17.2 y11.1).fHeat.fLo), .int .i64 ((rdL y17.2 y11.1).fHeat.fHi)]] hgo4 rfl rfl (fun W2 hW2 => hof4 W2 hW2.below (hW2.mem (i := 0) rfl) (rdL y17.2 (w64 (s3.1 - 1))) (rdL y17.2 y11.1) y37 hy38)) ?_
                  refine qx_y (sees_t rfl rfl rfl rfl hp21) (y_lss rfl rfl) ?_
                  refine qx_y (sees_t rfl rfl rfl rfl hp21) (y_not rfl) ?_
                  refine qx_y rfl (y_pick_tb (congrArg Value.bool hp21) rfl) ?_
                  obtain rfl := Option.some.inj h
                  exact key _ _ (keep (keep (keep (keep (keep (keep (keep (keep (keep (keep (keep (keep (keep (keep (keep (keep (keep rfl rfl) rfl) rfl) rfl) rfl) rfl) rfl) rfl) rfl) rfl) rfl) rfl) rfl) rfl) rfl) rfl) rfl)
                · refine qx_skip (sees_f rfl rfl rfl rfl hp21) ?_
                  refine qx_skip (sees_f rfl rfl rfl rfl hp21) ?_
                  refine qx_skip (sees_f rfl rfl rfl rfl hp21) ?_
                  refine qx_skip (sees_f rfl rfl rfl rfl hp21) ?_
                  refine qx_skip (sees_f rfl rfl rfl rfl hp21) ?_
                  refine qx_skip (sees_f rfl rfl rfl rfl hp21) ?_
                  refine qx_skip (sees_f rfl rfl rfl rfl hp21) ?_
                  refine qx_skip (sees_f rfl rfl rfl rfl hp21) ?_
                  refine qx_skip (sees_f rfl rfl rfl rfl hp21) ?_
                  refine qx_skip (sees_f rfl rfl rfl rfl hp21) ?_
                  refine qx_skip (sees_f rfl rfl rfl rfl hp21) ?_
                  refine qx_skip (sees_f rfl rfl rfl rfl hp21) ?_
                  refine qx_skip (sees_f rfl rfl rfl rfl hp21) ?_
                  refine qx_y rfl (y_pick_fb (congrArg Value.bool hp21) rfl) ?_
                  obtain rfl := Option.some.inj h
                  exact key _ _ (keep (keep (keep (keep (keep (keep (keep (keep (keep (keep (keep (keep (keep (keep (keep (keep (keep rfl rfl) rfl) rfl) rfl) rfl) rfl) rfl) rfl) rfl) rfl) rfl) rfl) rfl) rfl) rfl) rfl) rfl)
          · refine cx_false (congrArg Value.bool hp16) ?_
            refine cx_skip ?_
            refine ex_then ?_
            refine cx_seq ?_
            refine cx_seq ?_
            refine cx_draws 17 mixed (by kernel_rfl) (by kernel_rfl) ?_
            refine qx_y rfl (y_move_int rfl) ?_
            refine qx_y rfl (y_gtr rfl rfl) ?_
            refine qx_y rfl (y_move_bool rfl) ?_
            obtain ⟨b40, hb41, h⟩ := bind_some h
            refine qx_join 14 (fun tm0 => (upd (upd (upd (upd (upd (upd (upd (upd (upd (upd (upd (upd (upd (upd (upd (upd tm0 0 (.slice A0_0 p0.length c0_0)) 1 (.int .i64 s3.1)) 2 (.int .i64 s3.2.1)) 3 (.int .i64 s3.2.2.1)) 4 (.func (.func fid4) #[] caps4.toArray)) 10 (.bool s3.2.2.2.1)) 11 (.bool s3.2.2.2.2.1)) 12 (.int .i64 (w64 (s3.2.1 - s3.1)))) 25 (.bool (decide (w64 (s3.2.1 - s3.1) ≤ 12)))) 32 (.bool (s3.2.2.1 == 0))) 39 (.bool (!s3.2.2.2.1))) 13 (.int .i64 y11.1)) 14 (.int .i64 y11.2)) 56 (.bool (y11.2 == 2))) 75 (.bool ((s3.2.2.2.1 && s3.2.2.2.2.1) && (y11.2 == 1)))) 97 (.bool b40))) (fun tm0 => ?_) (fun key => ?_)
            · refine qx_nil ?_
              refine ox_nil ?_
              refine ex_then ?_
              obtain ⟨hp42, h⟩ := guardO_some h
              refine cx_false (congrArg Value.bool hp42) ?_
              refine cx_skip ?_
              refine ex_then ?_
              refine cx_seq ?_
              refine cx_region ?_
              refine ox_y rfl (y_move_slice rfl) ?_
              refine ox_y rfl (y_move_int rfl) ?_
              refine ox_y rfl (y_move_int rfl) ?_
              refine ox_y rfl (y_move_int rfl) ?_
              refine ox_y rfl (y_move (v := .func (.func fid4) #[] caps4.toArray) rfl) ?_
              obtain ⟨y43, hy44, h⟩ := bind_some h
              refine ox_callT 1 [.slice A0_0 p0.length c0_0, .int .i64 s3.1, .int .i64 s3.2.1, .int .i64 y11.1, .func (.func fid4) #[] caps4.toArray] (fun (_ : Unit) => p0.length = y43.2.2.length) (fun _ => .tuple #[.int .i64 y43.1, .bool y43.2.1]) (fun _ => rowR A0_0 c0_0 34 5 p0.length (encL TLook_cells y43.2.2)) (fun _ => []) rfl rfl go_129 rfl (fun W2 hW2 => (slices_partitionCmpFunc_calx_api_Look_ok s3.2.2.2.2.2 s3.1 s3.2.1 y11.1 p4 y43 hy44 W2 _ (restR [R, rowR A0_0 c0_0 34 5 p0.length (encL TLook_cells s3.2.2.2.2.2)] [1]) A0_0 p0.length c0_0 (hn1_s3) fid4 caps4 hgo4 (fun W3 hb hR => hof4 W3 hb (hR.1 0 _ (by decide) rfl)) hW2).mono (fun e W3 h3 => ⟨(), h3.2.1, h3.1, h3.2.2⟩)) ?_
              rintro - hn45
              try dsimp only [List.set_cons_zero, List.set_cons_succ, List.append_nil]
              refine ox_y rfl (y_move_tuple rfl) ?_
              refine ox_y rfl (y_extract (vs := [.int .i64 y43.1, .bool y43.2.1]) (v := .int .i64 y43.1) rfl rfl) ?_
              refine ox_y rfl (y_extract (vs := [.int .i64 y43.1, .bool y43.2.1]) (v := .bool y43.2.1) rfl rfl) ?_
              refine ox_y rfl (y_assign_int rfl) ?_
              refine ox_y rfl (y_assign_bool rfl) ?_
              refine ox_nil ?_
              refine ex_then ?_
              refine cx_seq ?_
              refine cx_region ?_
              refine ox_y rfl (y_move_bool rfl) ?_
              refine ox_y rfl (y_assign_bool rfl) ?_
              refine ox_nil ?_
              refine ex_then ?_
              refine cx_seq ?_
              refine cx_region ?_
              refine ox_y rfl (y_move_int rfl) ?_
              refine ox_y rfl (y_move_int rfl) ?_
              refine ox_y rfl (y_sub rfl rfl) ?_
              refine ox_y rfl (y_move_int rfl) ?_
              refine ox_y rfl (y_move_int rfl) ?_
              refine ox_y rfl (y_sub rfl rfl) ?_
              refine ox_y rfl (y_assign_int rfl) ?_
              refine ox_y rfl (y_assign_int rfl) ?_
              refine ox_nil ?_
              refine ex_then ?_
              refine cx_seq ?_
              refine cx_region ?_
              refine ox_y rfl (y_move_int rfl) ?_
              refine ox_y rfl (y_quo (by decide) rfl rfl) ?_
              refine ox_y rfl (y_assign_int rfl) ?_
              refine ox_nil ?_
              refine ex_then ?_
              refine cx_seq ?_
              refine cx_region ?_
              refine ox_y rfl (y_move_int rfl) ?_
              refine ox_y rfl (y_move_int rfl) ?_
              refine ox_y rfl (y_lss rfl rfl) ?_
              refine ox_nil ?_
              refine ex_then ?_
              rcases ite_some h with ⟨hp46, h⟩ | ⟨hp46, h⟩
              · refine cx_true (congrArg Value.bool hp46) ?_
                refine cx_seq ?_
                refine cx_region ?_
                refine ox_y rfl (y_move_int rfl) ?_
                refine ox_y rfl (y_move_int rfl) ?_
                refine ox_y rfl (y_geq rfl rfl) ?_
                refine ox_y rfl (y_assign_bool rfl) ?_
                refine ox_nil ?_
                refine ex_then ?_
                refine cx_seq ?_
                refine cx_region ?_
                refine ox_y rfl (y_move_slice rfl) ?_
                refine ox_y rfl (y_move_int rfl) ?_
                refine ox_y rfl (y_move_int rfl) ?_
                refine ox_y rfl (y_move_int rfl) ?_
                refine ox_y rfl (y_move (v := .func (.func fid4) #[] caps4.toArray) rfl) ?_
                obtain ⟨y47, hy48, h⟩ := bind_some h
                refine ox_callT 1 [.slice A0_0 p0.length c0_0, .int .i64 s3.1, .int .i64 y43.1, .int .i64 s3.2.2.1, .func (.func fid4) #[] caps4.toArray] (fun (_ : Unit) => p0.length = y47.length) (fun _ => .tuple #[]) (fun _ => rowR A0_0 c0_0 34 5 p0.length (encL TLook_cells y47)) (fun _ => []) rfl rfl go_120 rfl (fun W2 hW2 => (slices_pdqsortCmpFunc_calx_api_Look_0_ok y43.2.2 s3.1 y43.1 s3.2.2.1 p4 y47 hy48 W2 _ (restR [R, rowR A0_0 c0_0 34 5 p0.length (encL TLook_cells y43.2.2)] [1]) A0_0 p0.length c0_0 (hn45) fid4 caps4 hgo4 (fun W3 hb hR => hof4 W3 hb (hR.1 0 _ (by decide) rfl)) hW2).mono (fun e W3 h3 => ⟨(), h3.2.1, h3.1, h3.2.2⟩)) ?_
                rintro - hn49
                try dsimp only [List.set_cons_zero, List.set_cons_succ, List.append_nil]
                refine ox_nil ?_
                refine ex_then ?_
                refine cx_region ?_
                refine ox_y rfl (y_move_int rfl) ?_
                refine ox_y rfl (y_add rfl rfl) ?_
                refine ox_y rfl (y_assign_int rfl) ?_
                refine ox_nil ?_
                refine ex_block ?_
                obtain rfl := Option.some.inj h
                exact ex_next ⟨_, hn49, rfl, (keep (keep (keep (keep (keep (keep (keep rfl rfl) rfl) rfl) rfl) rfl) rfl) rfl)⟩
              · refine cx_false (congrArg Value.bool hp46) ?_
                refine cx_seq ?_
                refine cx_region ?_
                refine ox_y rfl (y_move_int rfl) ?_
                refine ox_y rfl (y_move_int rfl) ?_
                refine ox_y rfl (y_geq rfl rfl) ?_
                refine ox_y rfl (y_assign_bool rfl) ?_
                refine ox_nil ?_
                refine ex_then ?_
                refine cx_seq ?_
                refine cx_region ?_
                refine ox_y rfl (y_move_slice rfl) ?_
                refine ox_y rfl (y_move_int rfl) ?_
                refine ox_y rfl (y_add rfl rfl) ?_
                refine ox_y rfl (y_move_int rfl) ?_
                refine ox_y rfl (y_move_int rfl) ?_
                refine ox_y rfl (y_move (v := .func (.func fid4) #[] caps4.toArray) rfl) ?_
                obtain ⟨y50, hy51, h⟩ := bind_some h
                refine ox_callT 1 [.slice A0_0 p0.length c0_0, .int .i64 (w64 (y43.1 + 1)), .int .i64 s3.2.1, .int .i64 s3.2.2.1, .func (.func fid4) #[] caps4.toArray] (fun (_ : Unit) => p0.length = y50.length) (fun _ => .tuple #[]) (fun _ => rowR A0_0 c0_0 34 5 p0.length (encL TLook_cells y50)) (fun _ => []) rfl rfl go_120 rfl (fun W2 hW2 => (slices_pdqsortCmpFunc_calx_api_Look_0_ok y43.2.2 (w64 (y43.1 + 1)) s3.2.1 s3.2.2.1 p4 y50 hy51 W2 _ (restR [R, rowR A0_0 c0_0 34 5 p0.length (encL TLook_cells y43.2.2)] [1]) A0_0 p0.length c0_0 (hn45) fid4 caps4 hgo4 (fun W3 hb hR => hof4 W3 hb (hR.1 0 _ (by decide) rfl)) hW2).mono (fun e W3 h3 => ⟨(), h3.2.1, h3.1, h3.2.2⟩)) ?_
                rintro - hn52
                try dsimp only [List.set_cons_zero, List.set_cons_succ, List.append_nil]
                refine ox_nil ?_
                refine ex_then ?_
                refine cx_region ?_
                refine ox_y rfl (y_move_int rfl) ?_
                refine ox_y rfl (y_assign_int rfl) ?_
                refine ox_nil ?_
                refine ex_block ?_
                obtain rfl := Option.some.inj h
                exact ex_next ⟨_, hn52, rfl, (keep (keep (keep (keep (keep (keep (keep rfl rfl) rfl) rfl) rfl) rfl) rfl) rfl)⟩
            · clear h; rcases ite_some hb41 with ⟨hp39, h⟩ | ⟨hp39, h⟩
              · refine qx_y (sees_t rfl rfl rfl rfl hp39) (y_move (v := .func (.func fid4) #[] caps4.toArray) rfl) ?_
                refine qx_y (sees_t rfl rfl rfl rfl hp39) (y_move_slice rfl) ?_
                refine qx_y (sees_t rfl rfl rfl rfl hp39) (y_move_int rfl) ?_
                refine qx_y (sees_t rfl rfl rfl rfl hp39) (y_sub rfl rfl) ?_
                obtain ⟨hg53, h⟩ := guardO_some h
                refine qx_y (sees_t rfl rfl rfl rfl hp39) (y_indexR sl_22 (by decide) hg53.1 hg53.2 (RdL.row 1 rfl) (encL_len TLook_cells_len hn1_s3) rfl rfl) ?_
                refine qx_y (sees_t rfl rfl rfl rfl hp39) (y_loadRN (A := A0_0) (j := (Int.toNat (w64 (s3.1 - 1)) * 5)) [.int .i64 ((rdL s3.2.2.2.2.2 (w64 (s3.1 - 1))).fID), .int .i64 ((rdL s3.2.2.2.2.2 (w64 (s3.1 - 1))).fAt.fFoot), .int .i64 ((rdL s3.2.2.2.2.2 (w64 (s3.1 - 1))).fAt.fHour), .int .i64 ((rdL s3.2.2.2.2.2 (w64 (s3.1 - 1))).fHeat.fLo), .int .i64 ((rdL s3.2.2.2.2.2 (w64 (s3.1 - 1))).fHeat.fHi)] ag_34 (Nat.succ_pos _) (RdL.row 1 rfl) rfl (encL_gets TLook_cells_len hg53.1 (lt_nat hg53.2 hn1_s3))) ?_
                refine qx_y (sees_t rfl rfl rfl rfl hp39) (y_move_slice rfl) ?_
                refine qx_y (sees_t rfl rfl rfl rfl hp39) (y_move_int rfl) ?_
                obtain ⟨hg54, h⟩ := guardO_some h
                refine qx_y (sees_t rfl rfl rfl rfl hp39) (y_indexR sl_22 (by decide) hg54.1 hg54.2 (RdL.row 1 rfl) (encL_len TLook_cells_len hn1_s3) rfl rfl) ?_
                refine qx_y (sees_t rfl rfl rfl rfl hp39) (y_loadRN (A := A0_0) (j := (Int.toNat y11.1 * 5)) [.int .i64 ((rdL s3.2.2.2.2.2 y11.1).fID), .int .i64 ((rdL s3.2.2.2.2.2 y11.1).fAt.fFoot), .int .i64 ((rdL s3.2.2.2.2.2 y11.1).fAt.fHour), .int .i64 ((rdL s3.2.2.2.2.2 y11.1).fHeat.fLo), .int .i64 ((rdL s3.2.2.2.2.2 y11.1).fHeat.fHi)] ag_34 (Nat.succ_pos _) (RdL.row 1 rfl) rfl (encL_gets TLook_cells_len hg54.1 (lt_nat hg54.2 hn1_s3))) ?_
                obtain ⟨y55, hy56, h⟩ := bind_some h
                refine qx_y (sees_t rfl rfl rfl rfl hp39) (y_callv [.agg #[.int .i64 ((rdL s3.2.2.2.2.2 (w64 (s3.1 - 1))).fID), .int .i64 ((rdL s3.2.2.2.2.2 (w64 (s3.1 - 1))).fAt.fFoot), .int .i64 ((rdL s3.2.2.2.2.2 (w64 (s3.1 - 1))).fAt.fHour), .int .i64 ((rdL s3.2.2.2.2.2 (w64 (s3.1 - 1))).fHeat.fLo), .int .i64 ((rdL s3.2.2.2.2.2 (w64 (s3.1 - 1))).fHeat.fHi)], .agg #[.int .i64 ((rdL s3.2.2.2.2.2 y11.1).fID), .int .i64 ((rdL s3.2.2.2.2.2 y11.1).fAt.fFoot), .int .i64 ((rdL s3.2.2.2.2.2 y11.1).fAt.fHour), .int .i64 ((rdL s3.2.2.2.2.2 y11.1).fHeat.fLo), .int .i64 ((rdL s3.2.2.2.2.2 y11.1).fHeat.fHi)]] hgo4 rfl rfl (fun W2 hW2 => hof4 W2 hW2.below (hW2.mem (i := 0) rfl) (rdL s3.2.2.2.2.2 (w64 (s3.1 - 1))) (rdL s3.2.2.2.2.2 y11.1) y55 hy56)) ?_
                refine qx_y (sees_t rfl rfl rfl rfl hp39) (y_lss rfl rfl) ?_
                refine qx_y (sees_t rfl rfl rfl rfl hp39) (y_not rfl) ?_
                refine qx_y rfl (y_pick_tb (congrArg Value.bool hp39) rfl) ?_
                obtain rfl := Option.some.inj h
                exact key _ _ (keep (keep (keep (keep (keep (keep (keep (keep (keep (keep (keep (keep (keep (keep (keep (keep rfl rfl) rfl) rfl) rfl) rfl) rfl) rfl) rfl) rfl) rfl) rfl) rfl) rfl) rfl) rfl) rfl)
              · refine qx_skip (sees_f rfl rfl rfl rfl hp39) ?_
                refine qx_skip (sees_f rfl rfl rfl rfl hp39) ?_
                refine qx_skip (sees_f rfl rfl rfl rfl hp39) ?_
                refine qx_skip (sees_f rfl rfl rfl rfl hp39) ?_
                refine qx_skip (sees_f rfl rfl rfl rfl hp39) ?_
                refine qx_skip (sees_f rfl rfl rfl rfl hp39) ?_
                refine qx_skip (sees_f rfl rfl rfl rfl hp39) ?_
                refine qx_skip (sees_f rfl rfl rfl rfl hp39) ?_
                refine qx_skip (sees_f rfl rfl rfl rfl hp39) ?_
                refine qx_skip (sees_f rfl rfl rfl rfl hp39) ?_
                refine qx_skip (sees_f rfl rfl rfl rfl hp39) ?_
                refine qx_skip (sees_f rfl rfl rfl rfl hp39) ?_
                refine qx_skip (sees_f rfl rfl rfl rfl hp39) ?_
                refine qx_y rfl (y_pick_fb (congrArg Value.bool hp39) rfl) ?_
                obtain rfl := Option.some.inj h
                exact key _ _ (keep (keep (keep (keep (keep (keep (keep (keep (keep (keep (keep (keep (keep (keep (keep (keep rfl rfl) rfl) rfl) rfl) rfl) rfl) rfl) rfl) rfl) rfl) rfl) rfl) rfl) rfl) rfl) rfl)
        · rcases bool_cases (s3.2.2.2.1 && s3.2.2.2.2.1) with hp15 | hp15
          · refine ox_y (sees_t rfl rfl rfl rfl hp15) (y_move_int rfl) ?_
            refine ox_y (sees_t rfl rfl rfl rfl hp15) (y_eql rfl rfl) ?_
            refine ox_y rfl (y_pick_tb (congrArg Value.bool hp15) rfl) ?_
            exact key _ _ (keep (keep (keep (keep (keep (keep (keep (keep (keep (keep (keep (keep (keep (keep (keep rfl rfl) rfl) rfl) rfl) rfl) rfl) rfl) rfl) rfl) rfl) rfl) rfl) rfl) rfl) (congrArg Value.bool (and_t hp15)))
          · refine ox_skip (sees_f rfl rfl rfl rfl hp15) ?_
            refine ox_skip (sees_f rfl rfl rfl rfl hp15) ?_
            refine ox_y rfl (y_pick_fb (congrArg Value.bool hp15) rfl) ?_
            exact key _ _ (keep (keep (keep (keep (keep (keep (keep (keep (keep (keep (keep (keep (keep (keep (keep rfl rfl) rfl) rfl) rfl) rfl) rfl) rfl) rfl) rfl) rfl) rfl) rfl) rfl) rfl) (congrArg Value.bool (and_f hp15)))
      · rcases bool_cases s3.2.2.2.1 with hp14 | hp14
        · refine ox_y (sees_t rfl rfl rfl rfl hp14) (y_move_bool rfl) ?_
          refine ox_y rfl (y_pick_tb (congrArg Value.bool hp14) rfl) ?_
          exact key _ _ (keep (keep (keep (keep (keep (keep (keep (keep (keep (keep (keep (keep (keep (keep (keep rfl rfl) rfl) rfl) rfl) rfl) rfl) rfl) rfl) rfl) rfl) rfl) rfl) rfl) rfl) (congrArg Value.bool (and_t hp14)))
        · refine ox_skip (sees_f rfl rfl rfl rfl hp14) ?_
          refine ox_y rfl (y_pick_fb (congrArg Value.bool hp14) rfl) ?_
          exact key _ _ (keep (keep (keep (keep (keep (keep (keep (keep (keep (keep (keep (keep (keep (keep (keep rfl rfl) rfl) rfl) rfl) rfl) rfl) rfl) rfl) rfl) rfl) rfl) rfl) rfl) rfl) (congrArg Value.bool (and_f hp14)))
  · intro e L tm hJ
    obtain ⟨rfl, tm0_u4, hn1_u4, rfl, rfl⟩ := hJ
    refine ⟨(by intro hc; cases hc), ?_⟩
    refine ex_block_ret ?_
    obtain rfl := Option.some.inj h
    exact ex_result0 (.inl rfl) rfl  (fun W2 hW2 => ⟨rfl, hn1_u4, hW2.take 2⟩)

/-! slices.SortFunc[[]calx/api.Look,calx/api.Look] -/
set_option maxRecDepth 100000 in
theorem slices_SortFunc_calx_api_Look_calx_api_Look_ok (p0_x : (List TLook)) (p1_cmp : TLook → TLook → Option Int) (res : (List TLook)) (h : slices_SortFunc_calx_api_Look_calx_api_Look p0_x p1_cmp = some res) (W : World) (w0 : World) (R : Res) (A0_0 : Option Addr) (n0_0 c0_0 : Nat) (hn0_0 : n0_0 = p0_x.length) (fid1 : Nat) (caps1 : List Value) (hgo1 : goes Try.prog fid1 = true) (hof1 : ∀ W2, Below w0.heap.size w0 W2 → R.holds W2 → ∀ x0 x1 y, p1_cmp x0 x1 = some y → Calls Try.prog fid1 (([.agg #[.int .i64 x0.fID, .int .i64 x0.fAt.fFoot, .int .i64 x0.fAt.fHour, .int .i64 x0.fHeat.fLo, .int .i64 x0.fHeat.fHi], .agg #[.int .i64 x1.fID, .int .i64 x1.fAt.fFoot, .int .i64 x1.fAt.fHour, .int .i64 x1.fHeat.fLo, .int .i64 x1.fHeat.fHi]] : List Value) ++ caps1).toArray W2 fun e W3 => e = .returned (.int .i64 y) ∧ Ext W2 W3 []) (hW : Ext w0 W [R, rowR A0_0 c0_0 34 5 n0_0 (encL TLook_cells p0_x)]) :
    Calls Try.prog 118 [.slice A0_0 n0_0 c0_0, .func (.func fid1) #[] caps1.toArray].toArray W fun e W2 => e = .returned (.tuple #[]) ∧ n0_0 = res.length ∧ Ext w0 W2 [R, rowR A0_0 c0_0 34 5 n0_0 (encL TLook_cells res)] := by
  subst hn0_0
  unfold slices_SortFunc_calx_api_Look_calx_api_Look at h
  refine calls_enterB (m := 14) Try.func118 rfl rfl (Nat.le_of_ble_eq_true rfl) hW ?_
  refine cx_seq ?_
  refine cx_region ?_
  refine ox_y rfl (y_move_slice rfl) ?_
  refine ox_y rfl (y_len (us := []) us_22 rfl) ?_
  refine ox_y rfl (y_assign_int rfl) ?_
  refine ox_nil ?_
  refine ex_then ?_
  refine cx_region ?_
  refine ox_y rfl (y_move_slice rfl) ?_
  refine ox_y rfl (y_move_int rfl) ?_
  refine ox_y rfl (y_move_int rfl) ?_
  obtain ⟨hg1, h⟩ := guardO_some h
  refine ox_y rfl (y_convertU ui_3 ui_156 hg1 rfl) ?_
  obtain ⟨y2, hy3, h⟩ := bind_some h
  refine ox_y rfl (y_call [.int .u64 ((p0_x.length : Nat) : Int)] go_121 rfl (fun W2 hW2 => math_bits_Len_ok ((p0_x.length : Nat) : Int) y2 hy3 W2 ) rfl) ?_
  refine ox_y rfl (y_move (v := .func (.func fid1) #[] caps1.toArray) rfl) ?_
  obtain ⟨y4, hy5, h⟩ := bind_some h
  refine ox_callT 1 [.slice A0_0 p0_x.length c0_0, .int .i64 0, .int .i64 ((p0_x.length : Nat) : Int), .int .i64 y2, .func (.func fid1) #[] caps1.toArray] (fun (_ : Unit) => p0_x.length = y4.length) (fun _ => .tuple #[]) (fun _ => rowR A0_0 c0_0 34 5 p0_x.length (encL TLook_cells y4)) (fun _ => []) rfl rfl go_120 rfl (fun W2 hW2 => (slices_pdqsortCmpFunc_calx_api_Look_ok p0_x 0 ((p0_x.length : Nat) : Int) y2 p1_cmp y4 hy5 W2 _ (restR [R, rowR A0_0 c0_0 34 5 p0_x.length (encL TLook_cells p0_x)] [1]) A0_0 p0_x.length c0_0 rfl fid1 caps1 hgo1 (fun W3 hb hR => hof1 W3 hb (hR.1 0 _ (by decide) rfl)) hW2).mono (fun e W3 h3 => ⟨(), h3.2.1, h3.1, h3.2.2⟩)) ?_
  rintro - hn6
  try dsimp only [List.set_cons_zero, List.set_cons_succ, List.append_nil]
  refine ox_nil ?_
  obtain rfl := Option.some.inj h
  exact ex_result0 (.inr rfl) rfl  (fun W2 hW2 => ⟨rfl, hn6, hW2.take 2⟩)

/-! slices.SortedFunc[calx/api.Look] -/
set_option maxRecDepth 100000 in
theorem slices_SortedFunc_calx_api_Look_ok (p0_seq : (List TLook)) (p1_cmp : TLook → TLook → Option Int) (res : (List TLook)) (h : slices_SortedFunc_calx_api_Look p0_seq p1_cmp = some res) (W : World) (bs0 : Nat) (A0_0 : Option Addr) (n0_0 c0_0 : Nat) (hn0_0 : n0_0 = p0_seq.length) (hs0 : W.heap[bs0]? = some (.cells #[.slice A0_0 n0_0 c0_0] 22 (0, 0))) (hr0_0 : Rd W A0_0 n0_0 c0_0 (encL TLook_cells p0_seq)) (fid1 : Nat) (caps1 : List Value) (hgo1 : goes Try.prog fid1 = true) (hof1 : ∀ W2, Below W.heap.size W W2 → ∀ x0 x1 y, p1_cmp x0 x1 = some y → Calls Try.prog fid1 (([.agg #[.int .i64 x0.fID, .int .i64 x0.fAt.fFoot, .int .i64 x0.fAt.fHour, .int .i64 x0.fHeat.fLo, .int .i64 x0.fHeat.fHi], .agg #[.int .i64 x1.fID, .int .i64 x1.fAt.fFoot, .int .i64 x1.fAt.fHour, .int .i64 x1.fHeat.fLo, .int .i64 x1.fHeat.fHi]] : List Value) ++ caps1).toArray W2 fun e W3 => e = .returned (.int .i64 y) ∧ Ext W2 W3 []) :
    Calls Try.prog 114 [.func (.func 116) #[] #[.pointer (some ⟨bs0, 0, none⟩)], .func (.func fid1) #[] caps1.toArray].toArray W fun e W2 => ∃ x : Option Addr × Nat × Nat, x.2.1 = res.length ∧ e = .returned (.slice x.1 x.2.1 x.2.2) ∧ Ext W W2 [rowR x.1 x.2.2 34 5 x.2.1 (encL TLook_cells res)] := by
  subst hn0_0
  unfold slices_SortedFunc_calx_api_Look at h
  refine calls_enter (m := 12) Try.func114 rfl rfl (Nat.le_of_ble_eq_true rfl) ?_
  refine cx_seq ?_
  refine cx_region ?_
  refine ox_y rfl (y_assign_slice rfl) ?_
  refine ox_nil ?_
  refine ex_then ?_
  refine cx_seq ?_
  refine cx_region ?_
  refine ox_y rfl (y_move_func rfl) ?_
  obtain ⟨y1, hy2, h⟩ := bind_some h
  refine ox_call [.func (.func 116) #[] #[.pointer (some ⟨bs0, 0, none⟩)]] _ _ _ rfl go_117 rfl (fun W2 hW2 => slices_Collect_calx_api_Look_ok p0_seq y1 hy2 W2 bs0 A0_0 p0_seq.length c0_0 rfl ((hW2.below.block _ (lt_of_block hs0)).trans hs0) ((RdL.arg hr0_0) W2 hW2)) ?_
  rintro ⟨A3, n5, c4⟩ hn6
  replace hn6 : n5 = y1.length := hn6; subst hn6
  refine ox_y rfl (y_assign_slice rfl) ?_
  refine ox_nil ?_
  refine ex_then ?_
  refine cx_seq ?_
  refine cx_region ?_
  refine ox_y rfl (y_move_slice rfl) ?_
  refine ox_y rfl (y_move (v := .func (.func fid1) #[] caps1.toArray) rfl) ?_
  obtain ⟨y7, hy8, h⟩ := bind_some h
  refine ox_callT 0 [.slice A3 y1.length c4, .func (.func fid1) #[] caps1.toArray] (fun (_ : Unit) => y1.length = y7.length) (fun _ => .tuple #[]) (fun _ => rowR A3 c4 34 5 y1.length (encL TLook_cells y7)) (fun _ => []) rfl rfl go_118 rfl (fun W2 hW2 => (slices_SortFunc_calx_api_Look_calx_api_Look_ok y1 p1_cmp y7 hy8 W2 _ (restR [rowR A3 c4 34 5 y1.length (encL TLook_cells y1)] [0]) A3 y1.length c4 rfl fid1 caps1 hgo1 (fun W3 hb _ => hof1 W3 hb) hW2).mono (fun e W3 h3 => ⟨(), h3.2.1, h3.1, h3.2.2⟩)) ?_
  rintro - hn9
  try dsimp only [List.set_cons_zero, List.set_cons_succ, List.append_nil]
  refine ox_nil ?_
  refine ex_then ?_
  refine cx_seq ?_
  refine cx_region ?_
  refine ox_y rfl (y_move_slice rfl) ?_
  refine ox_y rfl (y_assign_slice rfl) ?_
  refine ox_nil ?_
  refine ex_then ?_
  refine cx_ret ?_
  obtain rfl := Option.some.inj h
  exact ex_res1 (.inl rfl) rfl (resV_tmp (v := .slice A3 y1.length c4) rfl) (fun W2 hW2 => ⟨(A3, y1.length, c4), hn9, rfl, (hW2.pick 0 rfl)⟩)

/-! calx/fire.sorted$1 -/
set_option maxRecDepth 100000 in
theorem fire_sorted_1_ok (p0_a : TLook) (p1_b : TLook) (res : Int) (h : fire_sorted_1 p0_a p1_b = some res) (W : World)  :
    Calls Try.prog 115 [.agg #[.int .i64 p0_a.fID, .int .i64 p0_a.fAt.fFoot, .int .i64 p0_a.fAt.fHour, .int .i64 p0_a.fHeat.fLo, .int .i64 p0_a.fHeat.fHi], .agg #[.int .i64 p1_b.fID, .int .i64 p1_b.fAt.fFoot, .int .i64 p1_b.fAt.fHour, .int .i64 p1_b.fHeat.fLo, .int .i64 p1_b.fHeat.fHi]].toArray W fun e W2 => e = .returned (.int .i64 res) ∧ Ext W W2 [] := by
  unfold fire_sorted_1 at h
  refine calls_enter (m := 10) Try.func115 rfl rfl (Nat.le_of_ble_eq_true rfl) ?_
  refine cx_seq ?_
  refine cx_region ?_
  refine ox_box [.int .i64 p0_a.fID, .int .i64 p0_a.fAt.fFoot, .int .i64 p0_a.fAt.fHour, .int .i64 p0_a.fHeat.fLo, .int .i64 p0_a.fHeat.fHi] rfl rfl rfl (fun b1 => ?_)
  refine ox_box [.int .i64 p1_b.fID, .int .i64 p1_b.fAt.fFoot, .int .i64 p1_b.fAt.fHour, .int .i64 p1_b.fHeat.fLo, .int .i64 p1_b.fHeat.fHi] rfl rfl rfl (fun b2 => ?_)
  refine ox_y rfl (y_assign_int rfl) ?_
  refine ox_nil ?_
  refine ex_then ?_
  refine cx_seq ?_
  refine cx_region ?_
  refine ox_y rfl (y_fieldAddr fo_34_0 rfl) ?_
  refine ox_y rfl (y_load1 0 (v := .int .i64 p0_a.fID) sc_3 rfl rfl rfl) ?_
  refine ox_y rfl (y_fieldAddr fo_34_0 rfl) ?_
  refine ox_y rfl (y_load1 1 (v := .int .i64 p1_b.fID) sc_3 rfl rfl rfl) ?_
  refine ox_y rfl (y_sub rfl rfl) ?_
  refine ox_y rfl (y_assign_int rfl) ?_
  refine ox_nil ?_
  refine ex_then ?_
  refine cx_ret ?_
  obtain rfl := Option.some.inj h
  exact ex_res1 (.inl rfl) rfl (resV_tmp (v := .int .i64 (w64 (p0_a.fID - p1_b.fID))) rfl) (fun W2 hW2 => ⟨rfl, hW2.none⟩)

/-! calx/fire.sorted -/
set_option maxRecDepth 100000 in
theorem fire_sorted_ok (p0_f : TFire) (res : (List TLook)) (h : fire_sorted p0_f = some res) (W : World) (A0_4 : Option Addr) (n0_4 c0_4 : Nat) (hn0_4 : n0_4 = p0_f.fLooks.length) (hr0_4 : Rd W A0_4 n0_4 c0_4 (encL TLook_cells p0_f.fLooks)) :
    Calls Try.prog 100 [.agg #[.int .i64 p0_f.fRise, .int .i64 p0_f.fFall, .int .i64 p0_f.fUp, .int .i64 p0_f.fDown, .slice A0_4 n0_4 c0_4]].toArray W fun e W2 => ∃ x : Nat × Option Addr × Nat × Nat, x.2.2.1 = res.length ∧ e = .returned (.func (.func 116) #[] #[.pointer (some ⟨x.1, 0, none⟩)]) ∧ Ext W W2 [cellsR x.1 22 [.slice x.2.1 x.2.2.1 x.2.2.2], rowR x.2.1 x.2.2.2 34 5 x.2.2.1 (encL TLook_cells res)] := by
  subst hn0_4
  unfold fire_sorted at h
  refine calls_enter (m := 8) Try.func100 rfl rfl (Nat.le_of_ble_eq_true rfl) ?_
  refine cx_seq ?_
  refine cx_region ?_
  refine ox_box [.int .i64 p0_f.fRise, .int .i64 p0_f.fFall, .int .i64 p0_f.fUp, .int .i64 p0_f.fDown, .slice A0_4 p0_f.fLooks.length c0_4] rfl rfl rfl (fun b1 => ?_)
  refine ox_y rfl (y_assign_nilFunc rfl) ?_
  refine ox_nil ?_
  refine ex_then ?_
  refine cx_seq ?_
  refine cx_region ?_
  refine ox_y rfl (y_fieldAddr fo_24_4 rfl) ?_
  refine ox_y rfl (y_load1 0 (v := .slice A0_4 p0_f.fLooks.length c0_4) sc_22 rfl rfl rfl) ?_
  obtain ⟨y2, hy3, h⟩ := bind_some h
  refine ox_call1 [.slice A0_4 p0_f.fLooks.length c0_4] _ _ rfl go_113 rfl (fun W2 hW2 => slices_Values_calx_api_Look_calx_api_Look_ok p0_f.fLooks y2 hy3 W2 A0_4 p0_f.fLooks.length c0_4 rfl ((RdL.arg hr0_4) W2 hW2)) ?_
  rintro b4
  obtain ⟨y7, hy8, h⟩ := bind_some h
  refine ox_call [.func (.func 116) #[] #[.pointer (some ⟨b4, 0, none⟩)], .func (.func 115) #[] #[]] _ _ _ rfl go_114 rfl (fun W2 hW2 => slices_SortedFunc_calx_api_Look_ok p0_f.fLooks (fun x5 x6 => fire_sorted_1 x5 x6) y7 hy8 W2 b4 A0_4 p0_f.fLooks.length c0_4 rfl (hW2.mem (i := 1) rfl) ((RdL.arg hr0_4) W2 hW2) 115 [] go_115 (fun W3 hb x0 x1 y hxy => fire_sorted_1_ok x0 x1  y hxy W3 )) ?_
  rintro ⟨A9, n11, c10⟩ hn12
  replace hn12 : n11 = y7.length := hn12; subst hn12
  obtain ⟨y13, hy14, h⟩ := bind_some h
  refine ox_call1 [.slice A9 y7.length c10] _ _ rfl go_113 rfl (fun W2 hW2 => slices_Values_calx_api_Look_calx_api_Look_ok y7 y13 hy14 W2 A9 y7.length c10 rfl ((RdL.row 2 rfl) W2 hW2)) ?_
  rintro b15
  refine ox_y rfl (y_assign_func rfl) ?_
  refine ox_nil ?_
  refine ex_then ?_
  refine cx_ret ?_
  obtain rfl := Option.some.inj h
  exact ex_res1 (.inl rfl) rfl (resV_tmp (v := .func (.func 116) #[] #[.pointer (some ⟨b15, 0, none⟩)]) rfl) (fun W2 hW2 => ⟨(b15, A9, y7.length, c10), rfl, rfl, hW2.pick2 3 2 (by decide) rfl rfl⟩)

end Go.Proofs.Ytndajeiecdmhnaa
