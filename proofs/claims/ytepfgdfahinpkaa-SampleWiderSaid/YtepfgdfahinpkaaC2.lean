/- The calls hand back what the plain functions say. -/
import Derived.Test.YtepfgdfahinpkaaF
import Derived.Test.YtepfgdfahinpkaaC0
import Derived.Test.YtepfgdfahinpkaaC1
set_option linter.unusedVariables false
set_option maxHeartbeats 4000000
namespace Go.Proofs.Ytepfgdfahinpkaa
open Go.RowKit (Below)
attribute [local irreducible] OX QX CX EX OpY Calls CallsIn

/-! calx/sample.inSpan -/
set_option maxRecDepth 100000 in
theorem sample_inSpan_ok (p0_w : (List Int)) (p1_s : TSpan) (res : Int) (h : sample_inSpan p0_w p1_s = some res) (W : World) (A0_0 : Option Addr) (n0_0 c0_0 : Nat) (hn0_0 : n0_0 = p0_w.length) (hr0_0 : Rd W A0_0 n0_0 c0_0 (encL cI p0_w)) :
    Calls Try.prog 113 [.slice A0_0 n0_0 c0_0, .agg #[.int .i64 p1_s.fLo, .int .i64 p1_s.fHi]].toArray W fun e W2 => e = .returned (.int .i64 res) ∧ Ext W W2 [] := by
  subst hn0_0
  unfold sample_inSpan at h
  refine calls_enter (m := 25) Try.func113 rfl rfl (Nat.le_of_ble_eq_true rfl) ?_
  refine cx_seq ?_
  refine cx_region ?_
  refine ox_box [.int .i64 p1_s.fLo, .int .i64 p1_s.fHi] rfl rfl rfl (fun b1 => ?_)
  refine ox_y rfl (y_assign_int rfl) ?_
  refine ox_nil ?_
  refine ex_then ?_
  refine cx_seq ?_
  refine cx_draws 11 mixed (by kernel_rfl) (by kernel_rfl) ?_
  refine qx_y rfl (y_fieldAddr fo_33_0 rfl) ?_
  refine qx_y rfl (y_load1 0 (v := .int .i64 p1_s.fLo) sc_3 rfl rfl rfl) ?_
  refine qx_y rfl (y_max rfl rfl) ?_
  refine qx_y rfl (y_move_slice rfl) ?_
  refine qx_y rfl (y_len (us := []) us_66 rfl) ?_
  refine qx_y rfl (y_sub rfl rfl) ?_
  refine qx_y rfl (y_fieldAddr fo_33_1 rfl) ?_
  refine qx_y rfl (y_load1 0 (v := .int .i64 p1_s.fHi) sc_3 rfl rfl rfl) ?_
  refine qx_y rfl (y_min rfl rfl) ?_
  refine qx_y rfl (y_assign_int rfl) ?_
  refine qx_y rfl (y_assign_int rfl) ?_
  refine qx_nil ?_
  refine ox_nil ?_
  refine ex_then ?_
  refine cx_seq ?_
  refine cx_seq ?_
  refine cx_region ?_
  refine ox_y rfl (y_move_int rfl) ?_
  refine ox_y rfl (y_move_int rfl) ?_
  refine ox_y rfl (y_gtr rfl rfl) ?_
  refine ox_nil ?_
  refine ex_then ?_
  rcases ite_some h with ⟨hp2, h⟩ | ⟨hp2, h⟩
  · refine cx_true (congrArg Value.bool hp2) ?_
    refine cx_seq ?_
    refine cx_region ?_
    refine ox_y rfl (y_assign_int rfl) ?_
    refine ox_nil ?_
    refine ex_then ?_
    refine cx_ret ?_
    refine ex_then_ret ?_
    obtain rfl := Option.some.inj h
    exact ex_res1 (.inl rfl) rfl (resV_tmp (v := .int .i64 0) rfl) (fun W2 hW2 => ⟨rfl, hW2.none⟩)
  · refine cx_false (congrArg Value.bool hp2) ?_
    refine cx_skip ?_
    refine ex_then ?_
    refine cx_seq ?_
    refine cx_region ?_
    refine ox_y rfl (y_move_slice rfl) ?_
    refine ox_y rfl (y_move_int rfl) ?_
    refine ox_y rfl (y_move_int rfl) ?_
    refine ox_y rfl (y_add rfl rfl) ?_
    obtain ⟨hg3, h⟩ := guardO_some h
    refine ox_y rfl (y_cut sl_66 hg3.1 hg3.2.1 hg3.2.2 (RdL.arg hr0_0) rfl rfl rfl) ?_
    obtain ⟨y5, hy6, h⟩ := bind_some h
    refine ox_y rfl (y_call [.slice (if c0_0 = Int.toNat (max 0 p1_s.fLo) then A0_0 else Option.map (fun x => x.add (Int.toNat (max 0 p1_s.fLo) * 1)) A0_0) (Int.toNat (w64 ((min (w64 (((p0_w.length : Nat) : Int) - 1)) p1_s.fHi) + 1)) - Int.toNat (max 0 p1_s.fLo)) (c0_0 - Int.toNat (max 0 p1_s.fLo)), .func (.func 107) #[] #[]] go_106 rfl (fun W2 hW2 => sample_sum_int_ok ((p0_w.drop (Int.toNat (max 0 p1_s.fLo))).take (Int.toNat (w64 ((min (w64 (((p0_w.length : Nat) : Int) - 1)) p1_s.fHi) + 1)) - Int.toNat (max 0 p1_s.fLo))) (fun x4 => sample_own x4) y5 hy6 W2 (if c0_0 = Int.toNat (max 0 p1_s.fLo) then A0_0 else Option.map (fun x => x.add (Int.toNat (max 0 p1_s.fLo) * 1)) A0_0) (Int.toNat (w64 ((min (w64 (((p0_w.length : Nat) : Int) - 1)) p1_s.fHi) + 1)) - Int.toNat (max 0 p1_s.fLo)) (c0_0 - Int.toNat (max 0 p1_s.fLo)) (cut_len hg3.1 hg3.2.1 hg3.2.2 rfl) ((RdL.cut cI_len (RdL.arg hr0_0) hg3.1 hg3.2.1 hg3.2.2 rfl) W2 hW2) 107 [] go_107 (fun W3 hb x y hxy => sample_own_ok x  y hxy W3 )) rfl) ?_
    refine ox_y rfl (y_assign_int rfl) ?_
    refine ox_nil ?_
    refine ex_then ?_
    refine cx_ret ?_
    obtain rfl := Option.some.inj h
    exact ex_res1 (.inl rfl) rfl (resV_tmp (v := .int .i64 y5) rfl) (fun W2 hW2 => ⟨rfl, hW2.none⟩)

/-! calx/sample.shortest -/
set_option maxRecDepth 100000 in
theorem sample_shortest_ok (p0_w : (List Int)) (p1_level : TRatio) (res : TSpan) (h : sample_shortest p0_w p1_level = some res) (W : World) (A0_0 : Option Addr) (n0_0 c0_0 : Nat) (hn0_0 : n0_0 = p0_w.length) (hr0_0 : Rd W A0_0 n0_0 c0_0 (encL cI p0_w)) :
    Calls Try.prog 109 [.slice A0_0 n0_0 c0_0, .agg #[.int .i64 p1_level.fNum, .int .i64 p1_level.fDen]].toArray W fun e W2 => e = .returned (.agg #[.int .i64 res.fLo, .int .i64 res.fHi]) ∧ Ext W W2 [] := by
  subst hn0_0
  unfold sample_shortest at h
  refine calls_enter (m := 44) Try.func109 rfl rfl (Nat.le_of_ble_eq_true rfl) ?_
  refine cx_seq ?_
  refine cx_region ?_
  refine ox_box [.int .i64 p1_level.fNum, .int .i64 p1_level.fDen] rfl rfl rfl (fun b1 => ?_)
  refine ox_alloc ze_33 rfl (fun b2 => ?_)
  refine ox_nil ?_
  refine ex_then ?_
  refine cx_scope ?_
  refine cx_seq ?_
  refine cx_draws 3 mixed (by kernel_rfl) (by kernel_rfl) ?_
  refine qx_y rfl (y_loadN 0 [.int .i64 p1_level.fNum, .int .i64 p1_level.fDen] ag_23 rfl rfl rfl) ?_
  refine qx_y rfl (y_move_slice rfl) ?_
  obtain ⟨y4, hy5, h⟩ := bind_some h
  refine qx_y rfl (y_call [.slice A0_0 p0_w.length c0_0, .func (.func 107) #[] #[]] go_106 rfl (fun W2 hW2 => sample_sum_int_ok p0_w (fun x3 => sample_own x3) y4 hy5 W2 A0_0 p0_w.length c0_0 rfl ((RdL.arg hr0_0) W2 hW2) 107 [] go_107 (fun W3 hb x y hxy => sample_own_ok x  y hxy W3 )) rfl) ?_
  refine qx_nil ?_
  obtain ⟨y6, hy7, h⟩ := bind_some h
  refine ox_call1 [.agg #[.int .i64 p1_level.fNum, .int .i64 p1_level.fDen], .int .i64 y4] _ _ rfl go_78 rfl (fun W2 hW2 => sample_reaches_ok p1_level y4 y6 hy7 W2 ) ?_
  rintro ⟨b8, b9⟩
  refine ox_y rfl (y_assign_func rfl) ?_
  refine ox_nil ?_
  refine ex_then ?_
  refine cx_seq ?_
  refine cx_region ?_
  refine ox_y rfl (y_move_slice rfl) ?_
  refine ox_y rfl (y_len (us := []) us_66 rfl) ?_
  refine ox_y rfl (y_sub rfl rfl) ?_
  refine ox_y rfl (y_buildS [.int .i64 0, .int .i64 (w64 (((p0_w.length : Nat) : Int) - 1))] [(0, 1), (1, 1)] ust_33 ze_33 (by kernel_rfl)) ?_
  refine ox_alloc ze_33 rfl (fun b10 => ?_)
  refine ox_n rfl (y_storeN 4 [.int .i64 0, .int .i64 (w64 (((p0_w.length : Nat) : Int) - 1))] sz_33 rfl (Nat.le_of_ble_eq_true rfl) rfl rfl rfl) ?_
  refine ox_nil ?_
  refine ex_then ?_
  refine cx_seq ?_
  refine cx_label ?_
  refine ex_then ?_
  refine cx_seq ?_
  refine cx_seq ?_
  refine cx_region ?_
  refine ox_y rfl (y_move_slice rfl) ?_
  refine ox_y rfl (y_len (us := []) us_66 rfl) ?_
  refine ox_y rfl (y_move_int rfl) ?_
  refine ox_nil ?_
  refine ex_then ?_
  refine cx_block ?_
  obtain ⟨u14, hl30, h⟩ := bind_some h
  refine cx_loop (fun (s : (Int × Int × Int)) L tm => ∃ (tm0 : Nat → Value), L = [cellsR b1 23 [.int .i64 p1_level.fNum, .int .i64 p1_level.fDen], cellsR b2 33 [.int .i64 0, .int .i64 0], cellsR b8 23 [.int .i64 y6.1.fNum, .int .i64 y6.1.fDen], cellsR b9 3 [.int .i64 y6.2], cellsR b10 33 [.int .i64 s.2.1, .int .i64 s.2.2]] ∧ tm = (upd (upd (upd (upd (upd (upd (upd (upd tm0 0 (.slice A0_0 p0_w.length c0_0)) 1 (.agg #[.int .i64 p1_level.fNum, .int .i64 p1_level.fDen])) 3 (.pointer (some ⟨b1, 0, none⟩))) 4 (.pointer (some ⟨b2, 0, none⟩))) 5 (.func (.func 120) #[] #[.pointer (some ⟨b8, 0, none⟩), .pointer (some ⟨b9, 0, none⟩)])) 6 (.pointer (some ⟨b10, 0, none⟩))) 19 (.int .i64 ((p0_w.length : Nat) : Int))) 20 (.int .i64 s.1))) (fun s e L tm => e = .exit 0 ∧ ∃ (tm0 : Nat → Value), L = [cellsR b1 23 [.int .i64 p1_level.fNum, .int .i64 p1_level.fDen], cellsR b2 33 [.int .i64 0, .int .i64 0], cellsR b8 23 [.int .i64 y6.1.fNum, .int .i64 y6.1.fDen], cellsR b9 3 [.int .i64 y6.2], cellsR b10 33 [.int .i64 s.2.1, .int .i64 s.2.2]] ∧ tm = (upd (upd (upd (upd (upd (upd (upd (upd tm0 0 (.slice A0_0 p0_w.length c0_0)) 1 (.agg #[.int .i64 p1_level.fNum, .int .i64 p1_level.fDen])) 3 (.pointer (some ⟨b1, 0, none⟩))) 4 (.pointer (some ⟨b2, 0, none⟩))) 5 (.func (.func 120) #[] #[.pointer (some ⟨b8, 0, none⟩), .pointer (some ⟨b9, 0, none⟩)])) 6 (.pointer (some ⟨b10, 0, none⟩))) 19 (.int .i64 ((p0_w.length : Nat) : Int))) 20 (.int .i64 s.1))) hl30 ⟨_, rfl, (keep (keep (keep (keep (keep (keep (keep (keep rfl rfl) rfl) rfl) rfl) rfl) rfl) rfl) rfl)⟩ ?_ ?_
  · rintro s13 L tm st ⟨tm0_s13, rfl, rfl⟩ h
    unfold sample_shortest_l1 at h
    refine cx_seq ?_
    refine cx_region ?_
    refine ox_y rfl (y_lss rfl rfl) ?_
    refine ox_nil ?_
    refine ex_then ?_
    refine cx_seq ?_
    rcases ite_some h with ⟨hp15, h⟩ | ⟨hp15, h⟩
    · refine cx_true (congrArg Value.bool hp15) ?_
      refine cx_skip ?_
      refine ex_then ?_
      refine cx_seq ?_
      refine cx_block ?_
      refine cx_seq ?_
      refine cx_region ?_
      refine ox_y rfl (y_move_int rfl) ?_
      refine ox_y rfl (y_assign_int rfl) ?_
      refine ox_nil ?_
      refine ex_then ?_
      refine cx_seq ?_
      refine cx_region ?_
      refine ox_y rfl (y_move_slice rfl) ?_
      refine ox_y rfl (y_len (us := []) us_66 rfl) ?_
      refine ox_y rfl (y_move_int rfl) ?_
      refine ox_y rfl (y_sub rfl rfl) ?_
      refine ox_y rfl (y_move_int rfl) ?_
      refine ox_nil ?_
      refine ex_then ?_
      refine cx_block ?_
      obtain ⟨u19, hl27, h⟩ := bind_some h
      refine cx_loop (fun (s : (Int × Int × Int)) L tm => ∃ (tm0 : Nat → Value), L = [cellsR b1 23 [.int .i64 p1_level.fNum, .int .i64 p1_level.fDen], cellsR b2 33 [.int .i64 0, .int .i64 0], cellsR b8 23 [.int .i64 y6.1.fNum, .int .i64 y6.1.fDen], cellsR b9 3 [.int .i64 y6.2], cellsR b10 33 [.int .i64 s.2.1, .int .i64 s.2.2]] ∧ tm = (upd (upd (upd (upd (upd (upd (upd (upd (upd (upd (upd (upd tm0 0 (.slice A0_0 p0_w.length c0_0)) 1 (.agg #[.int .i64 p1_level.fNum, .int .i64 p1_level.fDen])) 3 (.pointer (some ⟨b1, 0, none⟩))) 4 (.pointer (some ⟨b2, 0, none⟩))) 5 (.func (.func 120) #[] #[.pointer (some ⟨b8, 0, none⟩), .pointer (some ⟨b9, 0, none⟩)])) 6 (.pointer (some ⟨b10, 0, none⟩))) 19 (.int .i64 ((p0_w.length : Nat) : Int))) 20 (.int .i64 s13.1)) 21 (.bool (decide (s13.1 < ((p0_w.length : Nat) : Int))))) 7 (.int .i64 s13.1)) 26 (.int .i64 (w64 (((p0_w.length : Nat) : Int) - s13.1)))) 27 (.int .i64 s.1))) (fun | (.inl s), e, L, tm => e = .exit 0 ∧ ∃ (tm0 : Nat → Value), L = [cellsR b1 23 [.int .i64 p1_level.fNum, .int .i64 p1_level.fDen], cellsR b2 33 [.int .i64 0, .int .i64 0], cellsR b8 23 [.int .i64 y6.1.fNum, .int .i64 y6.1.fDen], cellsR b9 3 [.int .i64 y6.2], cellsR b10 33 [.int .i64 s.2.1, .int .i64 s.2.2]] ∧ tm = (upd (upd (upd (upd (upd (upd (upd (upd (upd (upd (upd (upd tm0 0 (.slice A0_0 p0_w.length c0_0)) 1 (.agg #[.int .i64 p1_level.fNum, .int .i64 p1_level.fDen])) 3 (.pointer (some ⟨b1, 0, none⟩))) 4 (.pointer (some ⟨b2, 0, none⟩))) 5 (.func (.func 120) #[] #[.pointer (some ⟨b8, 0, none⟩), .pointer (some ⟨b9, 0, none⟩)])) 6 (.pointer (some ⟨b10, 0, none⟩))) 19 (.int .i64 ((p0_w.length : Nat) : Int))) 20 (.int .i64 s13.1)) 21 (.bool (decide (s13.1 < ((p0_w.length : Nat) : Int))))) 7 (.int .i64 s13.1)) 26 (.int .i64 (w64 (((p0_w.length : Nat) : Int) - s13.1)))) 27 (.int .i64 s.1)) | (.inr s), e, L, tm => e = .exit 2 ∧ ∃ (tm0 : Nat → Value), L = [cellsR b1 23 [.int .i64 p1_level.fNum, .int .i64 p1_level.fDen], cellsR b2 33 [.int .i64 0, .int .i64 0], cellsR b8 23 [.int .i64 y6.1.fNum, .int .i64 y6.1.fDen], cellsR b9 3 [.int .i64 y6.2], cellsR b10 33 [.int .i64 s.2.1, .int .i64 s.2.2]] ∧ tm = (upd (upd (upd (upd (upd (upd (upd (upd (upd (upd (upd (upd tm0 0 (.slice A0_0 p0_w.length c0_0)) 1 (.agg #[.int .i64 p1_level.fNum, .int .i64 p1_level.fDen])) 3 (.pointer (some ⟨b1, 0, none⟩))) 4 (.pointer (some ⟨b2, 0, none⟩))) 5 (.func (.func 120) #[] #[.pointer (some ⟨b8, 0, none⟩), .pointer (some ⟨b9, 0, none⟩)])) 6 (.pointer (some ⟨b10, 0, none⟩))) 19 (.int .i64 ((p0_w.length : Nat) : Int))) 20 (.int .i64 s13.1)) 21 (.bool (decide (s13.1 < ((p0_w.length : Nat) : Int))))) 7 (.int .i64 s13.1)) 26 (.int .i64 (w64 (((p0_w.length : Nat) : Int) - s13.1)))) 27 (.int .i64 s.1))) hl27 ⟨_, rfl, (keep (keep (keep (keep (keep (keep (keep (keep (keep (keep (keep (keep rfl rfl) rfl) rfl) rfl) rfl) rfl) rfl) rfl) rfl) rfl) rfl) rfl)⟩ ?_ ?_
      · rintro s18 L tm st ⟨tm0_s18, rfl, rfl⟩ h
        unfold sample_shortest_l2 at h
        refine cx_seq ?_
        refine cx_region ?_
        refine ox_y rfl (y_lss rfl rfl) ?_
        refine ox_nil ?_
        refine ex_then ?_
        refine cx_seq ?_
        rcases ite_some h with ⟨hp20, h⟩ | ⟨hp20, h⟩
        · refine cx_true (congrArg Value.bool hp20) ?_
          refine cx_skip ?_
          refine ex_then ?_
          refine cx_seq ?_
          refine cx_block ?_
          refine cx_seq ?_
          refine cx_region ?_
          refine ox_y rfl (y_move_int rfl) ?_
          refine ox_y rfl (y_assign_int rfl) ?_
          refine ox_nil ?_
          refine ex_then ?_
          refine cx_seq ?_
          refine cx_region ?_
          refine ox_y rfl (y_move_int rfl) ?_
          refine ox_y rfl (y_move_int rfl) ?_
          refine ox_y rfl (y_move_int rfl) ?_
          refine ox_y rfl (y_add rfl rfl) ?_
          refine ox_y rfl (y_buildS [.int .i64 s18.1, .int .i64 (w64 (s18.1 + s13.1))] [(0, 1), (1, 1)] ust_33 ze_33 (by kernel_rfl)) ?_
          refine ox_alloc ze_33 rfl (fun b21 => ?_)
          try dsimp only [List.nil_append, List.cons_append, List.set_cons_zero, List.set_cons_succ]
          refine ox_n rfl (y_storeN 5 [.int .i64 s18.1, .int .i64 (w64 (s18.1 + s13.1))] sz_33 rfl (Nat.le_of_ble_eq_true rfl) rfl rfl rfl) ?_
          refine ox_nil ?_
          refine ex_then ?_
          refine cx_seq ?_
          refine cx_region ?_
          refine ox_y rfl (y_move_func rfl) ?_
          refine ox_y rfl (y_move_slice rfl) ?_
          refine ox_y rfl (y_loadN 5 [.int .i64 s18.1, .int .i64 (w64 (s18.1 + s13.1))] ag_33 rfl rfl rfl) ?_
          obtain ⟨y22, hy23, h⟩ := bind_some h
          refine ox_y rfl (y_call [.slice A0_0 p0_w.length c0_0, .agg #[.int .i64 s18.1, .int .i64 (w64 (s18.1 + s13.1))]] go_113 rfl (fun W2 hW2 => sample_inSpan_ok p0_w (TSpan.mk s18.1 (w64 (s18.1 + s13.1))) y22 hy23 W2 A0_0 p0_w.length c0_0 rfl ((RdL.arg hr0_0) W2 hW2)) rfl) ?_
          obtain ⟨y24, hy25, h⟩ := bind_some h
          refine ox_y rfl (y_callv (caps := [.pointer (some ⟨b8, 0, none⟩), .pointer (some ⟨b9, 0, none⟩)]) [.int .i64 y22] go_120 rfl rfl (fun W2 hW2 => sample_reaches_1_ok y22 y6.1 y6.2 y24 hy25 W2 b8 ((RdL.cells 2 rfl) W2 hW2) b9 ((RdL.cells 3 rfl) W2 hW2))) ?_
          refine ox_nil ?_
          refine ex_then ?_
          rcases ite_some h with ⟨hp26, h⟩ | ⟨hp26, h⟩
          · refine cx_true (congrArg Value.bool hp26) ?_
            refine cx_seq ?_
            refine cx_region ?_
            refine ox_y rfl (y_loadN 5 [.int .i64 s18.1, .int .i64 (w64 (s18.1 + s13.1))] ag_33 rfl rfl rfl) ?_
            refine ox_n rfl (y_storeN 4 [.int .i64 s18.1, .int .i64 (w64 (s18.1 + s13.1))] sz_33 rfl (Nat.le_of_ble_eq_true rfl) rfl rfl rfl) ?_
            refine ox_nil ?_
            refine ex_then ?_
            refine cx_exit ?_
            refine ex_block_past rfl ?_
            refine ex_then_exit ?_
            refine ex_take 5 ?_
            obtain rfl := Option.some.inj h
            exact ex_stop ⟨rfl, _, rfl, (keep (keep (keep (keep (keep (keep (keep (keep (keep (keep (keep (keep rfl rfl) rfl) rfl) rfl) rfl) rfl) rfl) rfl) rfl) rfl) rfl) rfl)⟩
          · refine cx_false (congrArg Value.bool hp26) ?_
            refine cx_skip ?_
            refine ex_block ?_
            refine ex_then ?_
            refine cx_region ?_
            refine ox_y rfl (y_add rfl rfl) ?_
            refine ox_y rfl (y_move_int rfl) ?_
            refine ox_nil ?_
            refine ex_take 5 ?_
            obtain rfl := Option.some.inj h
            exact ex_next ⟨_, rfl, (keep (keep (keep (keep (keep (keep (keep (keep (keep (keep (keep (keep rfl rfl) rfl) rfl) rfl) rfl) rfl) rfl) rfl) rfl) rfl) rfl) rfl)⟩
        · refine cx_false (congrArg Value.bool hp20) ?_
          refine cx_exit ?_
          refine ex_then_exit ?_
          obtain rfl := Option.some.inj h
          exact ex_stop ⟨rfl, _, rfl, (keep (keep (keep (keep (keep (keep (keep (keep (keep (keep (keep (keep rfl rfl) rfl) rfl) rfl) rfl) rfl) rfl) rfl) rfl) rfl) rfl) rfl)⟩
      · intro e L tm hJ
        rcases u19 with u28 | u29
        · dsimp only at h hJ
          obtain ⟨rfl, tm0_u28, rfl, rfl⟩ := hJ
          refine ⟨(by intro hc; cases hc), ?_⟩
          refine ex_block_past rfl ?_
          refine ex_block_past rfl ?_
          refine ex_then_exit ?_
          obtain rfl := Option.some.inj h
          exact ex_stop ⟨rfl, _, rfl, (keep (keep (keep (keep (keep (keep (keep (keep rfl rfl) rfl) rfl) rfl) rfl) rfl) rfl) rfl)⟩
        · dsimp only at h hJ
          obtain ⟨rfl, tm0_u29, rfl, rfl⟩ := hJ
          refine ⟨(by intro hc; cases hc), ?_⟩
          refine ex_block_here ?_
          refine ex_block ?_
          refine ex_then ?_
          refine cx_region ?_
          refine ox_y rfl (y_add rfl rfl) ?_
          refine ox_y rfl (y_move_int rfl) ?_
          refine ox_nil ?_
          obtain rfl := Option.some.inj h
          exact ex_next ⟨_, rfl, (keep (keep (keep (keep (keep (keep (keep (keep rfl rfl) rfl) rfl) rfl) rfl) rfl) rfl) rfl)⟩
    · refine cx_false (congrArg Value.bool hp15) ?_
      refine cx_exit ?_
      refine ex_then_exit ?_
      obtain rfl := Option.some.inj h
      exact ex_stop ⟨rfl, _, rfl, (keep (keep (keep (keep (keep (keep (keep (keep rfl rfl) rfl) rfl) rfl) rfl) rfl) rfl) rfl)⟩
  · intro e L tm hJ
    obtain ⟨rfl, tm0_u14, rfl, rfl⟩ := hJ
    refine ⟨(by intro hc; cases hc), ?_⟩
    refine ex_block_here ?_
    refine ex_then ?_
    refine cx_seq ?_
    refine cx_region ?_
    refine ox_y rfl (y_loadN 4 [.int .i64 u14.2.1, .int .i64 u14.2.2] ag_33 rfl rfl rfl) ?_
    refine ox_n rfl (y_storeN 1 [.int .i64 u14.2.1, .int .i64 u14.2.2] sz_33 rfl (Nat.le_of_ble_eq_true rfl) rfl rfl rfl) ?_
    refine ox_nil ?_
    refine ex_then ?_
    refine cx_ret ?_
    refine ex_scope_ret ?_
    obtain rfl := Option.some.inj h
    exact ex_res1 (.inl rfl) rfl (resV_cellN 1 [.int .i64 u14.2.1, .int .i64 u14.2.2] ag_33 rfl rfl rfl) (fun W2 hW2 => ⟨rfl, hW2.none⟩)

/-! calx/sample.Shortest -/
set_option maxRecDepth 100000 in
theorem sample_Shortest_ok (p0_b : TBatch) (p1_sort : Int) (p2_level : TRatio) (res : (TSpan × Int)) (h : sample_Shortest p0_b p1_sort p2_level = some res) (W : World)  :
    Calls Try.prog 44 [.agg #[.int .i64 p0_b.fBarrows, .int .i64 p0_b.fSeen.x0, .int .i64 p0_b.fSeen.x1, .int .i64 p0_b.fSeen.x2, .int .i64 p0_b.fKnown.x0.fLo, .int .i64 p0_b.fKnown.x0.fHi, .int .i64 p0_b.fKnown.x1.fLo, .int .i64 p0_b.fKnown.x1.fHi, .int .i64 p0_b.fKnown.x2.fLo, .int .i64 p0_b.fKnown.x2.fHi], .int .i64 p1_sort, .agg #[.int .i64 p2_level.fNum, .int .i64 p2_level.fDen]].toArray W fun e W2 => e = .returned (.tuple #[.agg #[.int .i64 res.1.fLo, .int .i64 res.1.fHi], .int .i64 res.2]) ∧ Ext W W2 [] := by
  unfold sample_Shortest at h
  refine calls_enter (m := 22) Try.func44 rfl rfl (Nat.le_of_ble_eq_true rfl) ?_
  refine cx_seq ?_
  refine cx_region ?_
  refine ox_box [.int .i64 p0_b.fBarrows, .int .i64 p0_b.fSeen.x0, .int .i64 p0_b.fSeen.x1, .int .i64 p0_b.fSeen.x2, .int .i64 p0_b.fKnown.x0.fLo, .int .i64 p0_b.fKnown.x0.fHi, .int .i64 p0_b.fKnown.x1.fLo, .int .i64 p0_b.fKnown.x1.fHi, .int .i64 p0_b.fKnown.x2.fLo, .int .i64 p0_b.fKnown.x2.fHi] rfl rfl rfl (fun b1 => ?_)
  refine ox_box [.int .i64 p2_level.fNum, .int .i64 p2_level.fDen] rfl rfl rfl (fun b2 => ?_)
  refine ox_alloc ze_33 rfl (fun b3 => ?_)
  refine ox_y rfl (y_assign_int rfl) ?_
  refine ox_nil ?_
  refine ex_then ?_
  refine cx_seq ?_
  refine cx_seq ?_
  refine cx_region ?_
  refine ox_y rfl (y_loadN 0 [.int .i64 p0_b.fBarrows, .int .i64 p0_b.fSeen.x0, .int .i64 p0_b.fSeen.x1, .int .i64 p0_b.fSeen.x2, .int .i64 p0_b.fKnown.x0.fLo, .int .i64 p0_b.fKnown.x0.fHi, .int .i64 p0_b.fKnown.x1.fLo, .int .i64 p0_b.fKnown.x1.fHi, .int .i64 p0_b.fKnown.x2.fLo, .int .i64 p0_b.fKnown.x2.fHi] ag_52 rfl rfl rfl) ?_
  refine ox_y rfl (y_move_int rfl) ?_
  refine ox_y rfl (y_loadN 1 [.int .i64 p2_level.fNum, .int .i64 p2_level.fDen] ag_23 rfl rfl rfl) ?_
  obtain ⟨y4, hy5, h⟩ := bind_some h
  refine ox_y rfl (y_call [.agg #[.int .i64 p0_b.fBarrows, .int .i64 p0_b.fSeen.x0, .int .i64 p0_b.fSeen.x1, .int .i64 p0_b.fSeen.x2, .int .i64 p0_b.fKnown.x0.fLo, .int .i64 p0_b.fKnown.x0.fHi, .int .i64 p0_b.fKnown.x1.fLo, .int .i64 p0_b.fKnown.x1.fHi, .int .i64 p0_b.fKnown.x2.fLo, .int .i64 p0_b.fKnown.x2.fHi], .int .i64 p1_sort, .agg #[.int .i64 p2_level.fNum, .int .i64 p2_level.fDen]] go_108 rfl (fun W2 hW2 => sample_leveled_ok p0_b p1_sort p2_level y4 hy5 W2 ) rfl) ?_
  refine ox_y rfl (y_assign_int rfl) ?_
  refine ox_nil ?_
  refine ex_then ?_
  refine cx_seq ?_
  refine cx_region ?_
  refine ox_y rfl (y_move_int rfl) ?_
  refine ox_y rfl (y_neq rfl rfl) ?_
  refine ox_nil ?_
  refine ex_then ?_
  rcases ite_some h with ⟨hp6, h⟩ | ⟨hp6, h⟩
  · refine cx_true (congrArg Value.bool hp6) ?_
    refine cx_seq ?_
    refine cx_region ?_
    refine ox_y rfl (y_buildS [.int .i64 0, .int .i64 0] [(0, 1), (1, 1)] ust_33 ze_33 (by kernel_rfl)) ?_
    refine ox_y rfl (y_move_int rfl) ?_
    refine ox_n rfl (y_storeN 2 [.int .i64 0, .int .i64 0] sz_33 rfl (Nat.le_of_ble_eq_true rfl) rfl rfl rfl) ?_
    refine ox_y rfl (y_assign_int rfl) ?_
    refine ox_nil ?_
    refine ex_then ?_
    refine cx_ret ?_
    refine ex_then_ret ?_
    obtain rfl := Option.some.inj h
    exact ex_res2 (.inl rfl) rfl (resV_cellN 2 [.int .i64 0, .int .i64 0] ag_33 rfl rfl rfl) (resV_tmp (v := .int .i64 y4) rfl) (fun W2 hW2 => ⟨rfl, hW2.none⟩)
  · refine cx_false (congrArg Value.bool hp6) ?_
    refine cx_skip ?_
    refine ex_then ?_
    refine cx_seq ?_
    obtain ⟨y7, hy8, h⟩ := bind_some h
    refine cx_drawsQ 2 4 (fun v L1 => ∃ x : Option Addr × Nat × Nat, x.2.1 = y7.length ∧ v = .slice x.1 x.2.1 x.2.2 ∧ L1 = [rowR x.1 x.2.2 3 1 x.2.1 (encL cI y7)]) mixed (by kernel_rfl) (by kernel_rfl) (by kernel_rfl) ?_
    refine bx_y rfl (fun _ => y_loadN 0 [.int .i64 p0_b.fBarrows, .int .i64 p0_b.fSeen.x0, .int .i64 p0_b.fSeen.x1, .int .i64 p0_b.fSeen.x2, .int .i64 p0_b.fKnown.x0.fLo, .int .i64 p0_b.fKnown.x0.fHi, .int .i64 p0_b.fKnown.x1.fLo, .int .i64 p0_b.fKnown.x1.fHi, .int .i64 p0_b.fKnown.x2.fLo, .int .i64 p0_b.fKnown.x2.fHi] ag_52 rfl rfl rfl) ?_
    refine bx_y rfl (fun _ => y_move_int rfl) ?_
    refine bx_q rfl (ox_call [.agg #[.int .i64 p0_b.fBarrows, .int .i64 p0_b.fSeen.x0, .int .i64 p0_b.fSeen.x1, .int .i64 p0_b.fSeen.x2, .int .i64 p0_b.fKnown.x0.fLo, .int .i64 p0_b.fKnown.x0.fHi, .int .i64 p0_b.fKnown.x1.fLo, .int .i64 p0_b.fKnown.x1.fHi, .int .i64 p0_b.fKnown.x2.fLo, .int .i64 p0_b.fKnown.x2.fHi], .int .i64 p1_sort] _ _ _ rfl go_104 rfl (fun W2 hW2 => sample_weights_ok p0_b p1_sort y7 hy8 W2 ) (fun x hx => ox_nil (ex_cap ⟨x, hx, rfl, rfl⟩))) ?_
    refine kx_y rfl (fun _ => y_loadN 1 [.int .i64 p2_level.fNum, .int .i64 p2_level.fDen] ag_23 rfl rfl rfl) ?_
    refine kx_nil rfl ?_
    rintro v L1 ⟨⟨A9, n11, c10⟩, hn12, rfl, rfl⟩
    replace hn12 : n11 = y7.length := hn12; subst hn12
    obtain ⟨y13, hy14, h⟩ := bind_some h
    refine ox_y rfl (y_call [.slice A9 y7.length c10, .agg #[.int .i64 p2_level.fNum, .int .i64 p2_level.fDen]] go_109 rfl (fun W2 hW2 => sample_shortest_ok y7 p2_level y13 hy14 W2 A9 y7.length c10 rfl ((RdL.row 3 rfl) W2 hW2)) rfl) ?_
    refine ox_n rfl (y_storeN 2 [.int .i64 y13.fLo, .int .i64 y13.fHi] sz_33 rfl (Nat.le_of_ble_eq_true rfl) rfl rfl rfl) ?_
    refine ox_y rfl (y_assign_int rfl) ?_
    refine ox_nil ?_
    refine ex_only ?_
    refine ex_then ?_
    refine cx_ret ?_
    obtain rfl := Option.some.inj h
    exact ex_res2 (.inl rfl) rfl (resV_cellN 2 [.int .i64 y13.fLo, .int .i64 y13.fHi] ag_33 rfl rfl rfl) (resV_tmp (v := .int .i64 0) rfl) (fun W2 hW2 => ⟨rfl, hW2.none⟩)

/-! calx/calxref03.SameInts -/
set_option maxRecDepth 100000 in
theorem calxref03_SameInts_ok (p0_a : (List Int)) (p1_b : (List Int)) (res : Bool) (h : calxref03_SameInts p0_a p1_b = some res) (W : World) (A0_0 : Option Addr) (n0_0 c0_0 : Nat) (hn0_0 : n0_0 = p0_a.length) (hr0_0 : Rd W A0_0 n0_0 c0_0 (encL cI p0_a)) (A1_0 : Option Addr) (n1_0 c1_0 : Nat) (hn1_0 : n1_0 = p1_b.length) (hr1_0 : Rd W A1_0 n1_0 c1_0 (encL cI p1_b)) :
    Calls Try.prog 53 [.slice A0_0 n0_0 c0_0, .slice A1_0 n1_0 c1_0].toArray W fun e W2 => e = .returned (.bool res) ∧ Ext W W2 [] := by
  subst hn0_0
  subst hn1_0
  unfold calxref03_SameInts at h
  refine calls_enter (m := 26) Try.func53 rfl rfl (Nat.le_of_ble_eq_true rfl) ?_
  refine cx_seq ?_
  refine cx_region ?_
  refine ox_y rfl (y_assign_bool rfl) ?_
  refine ox_nil ?_
  refine ex_then ?_
  refine cx_seq ?_
  refine cx_seq ?_
  refine cx_region ?_
  refine ox_y rfl (y_move_slice rfl) ?_
  refine ox_y rfl (y_len (us := []) us_66 rfl) ?_
  refine ox_y rfl (y_move_slice rfl) ?_
  refine ox_y rfl (y_len (us := []) us_66 rfl) ?_
  refine ox_y rfl (y_neq rfl rfl) ?_
  refine ox_nil ?_
  refine ex_then ?_
  rcases ite_some h with ⟨hp1, h⟩ | ⟨hp1, h⟩
  · refine cx_true (congrArg Value.bool hp1) ?_
    refine cx_seq ?_
    refine cx_region ?_
    refine ox_y rfl (y_assign_bool rfl) ?_
    refine ox_nil ?_
    refine ex_then ?_
    refine cx_ret ?_
    refine ex_then_ret ?_
    obtain rfl := Option.some.inj h
    exact ex_res1 (.inl rfl) rfl (resV_tmp (v := .bool false) rfl) (fun W2 hW2 => ⟨rfl, hW2.none⟩)
  · refine cx_false (congrArg Value.bool hp1) ?_
    refine cx_skip ?_
    refine ex_then ?_
    refine cx_seq ?_
    refine cx_seq ?_
    refine cx_region ?_
    refine ox_y rfl (y_assign_int rfl) ?_
    refine ox_nil ?_
    refine ex_then ?_
    refine cx_block ?_
    obtain ⟨u4, hl9, h⟩ := bind_some h
    refine cx_loop (fun (s : (Bool × Int)) L tm => ∃ (tm0 : Nat → Value), L = [] ∧ tm = (upd (upd (upd (upd (upd tm0 0 (.slice A0_0 p0_a.length c0_0)) 1 (.slice A1_0 p1_b.length c1_0)) 4 (.bool s.1)) 10 (.bool (((p0_a.length : Nat) : Int) != ((p1_b.length : Nat) : Int)))) 5 (.int .i64 s.2))) (fun | (.inl s), e, L, tm => e = .ret ∧ ∃ (tm0 : Nat → Value), L = [] ∧ tm = (upd (upd (upd (upd (upd tm0 0 (.slice A0_0 p0_a.length c0_0)) 1 (.slice A1_0 p1_b.length c1_0)) 4 (.bool s.1)) 10 (.bool (((p0_a.length : Nat) : Int) != ((p1_b.length : Nat) : Int)))) 5 (.int .i64 s.2)) | (.inr s), e, L, tm => e = .exit 0 ∧ ∃ (tm0 : Nat → Value), L = [] ∧ tm = (upd (upd (upd (upd (upd tm0 0 (.slice A0_0 p0_a.length c0_0)) 1 (.slice A1_0 p1_b.length c1_0)) 4 (.bool s.1)) 10 (.bool (((p0_a.length : Nat) : Int) != ((p1_b.length : Nat) : Int)))) 5 (.int .i64 s.2))) hl9 ⟨_, rfl, (keep (keep (keep (keep (keep rfl rfl) rfl) rfl) rfl) rfl)⟩ ?_ ?_
    · rintro s3 L tm st ⟨tm0_s3, rfl, rfl⟩ h
      unfold calxref03_SameInts_l1 at h
      refine cx_seq ?_
      refine cx_seq ?_
      refine cx_region ?_
      refine ox_y rfl (y_move_int rfl) ?_
      refine ox_y rfl (y_move_slice rfl) ?_
      refine ox_y rfl (y_len (us := []) us_66 rfl) ?_
      refine ox_y rfl (y_lss rfl rfl) ?_
      refine ox_nil ?_
      refine ex_then ?_
      rcases ite_some h with ⟨hp5, h⟩ | ⟨hp5, h⟩
      · refine cx_true (congrArg Value.bool hp5) ?_
        refine cx_skip ?_
        refine ex_then ?_
        refine cx_seq ?_
        refine cx_block ?_
        refine cx_seq ?_
        refine cx_draws 9 mixed (by kernel_rfl) (by kernel_rfl) ?_
        refine qx_y rfl (y_move_slice rfl) ?_
        refine qx_y rfl (y_move_int rfl) ?_
        obtain ⟨hg6, h⟩ := guardO_some h
        refine qx_y rfl (y_indexR sl_66 (by decide) hg6.1 hg6.2 (RdL.arg hr0_0) (encL_len cI_len rfl) rfl rfl) ?_
        refine qx_y rfl (y_loadR1 (A := A0_0) (j := (Int.toNat s3.2 * 1)) (v := .int .i64 (rdL p0_a s3.2)) sc_3 (RdL.arg hr0_0) rfl (encL_get0 cI_len hg6.1 (lt_nat hg6.2 rfl) rfl)) ?_
        refine qx_y rfl (y_move_slice rfl) ?_
        refine qx_y rfl (y_move_int rfl) ?_
        obtain ⟨hg7, h⟩ := guardO_some h
        refine qx_y rfl (y_indexR sl_66 (by decide) hg7.1 hg7.2 (RdL.arg hr1_0) (encL_len cI_len rfl) rfl rfl) ?_
        refine qx_y rfl (y_loadR1 (A := A1_0) (j := (Int.toNat s3.2 * 1)) (v := .int .i64 (rdL p1_b s3.2)) sc_3 (RdL.arg hr1_0) rfl (encL_get0 cI_len hg7.1 (lt_nat hg7.2 rfl) rfl)) ?_
        refine qx_y rfl (y_neq rfl rfl) ?_
        refine qx_nil ?_
        refine ox_nil ?_
        refine ex_then ?_
        rcases ite_some h with ⟨hp8, h⟩ | ⟨hp8, h⟩
        · refine cx_true (congrArg Value.bool hp8) ?_
          refine cx_seq ?_
          refine cx_region ?_
          refine ox_y rfl (y_assign_bool rfl) ?_
          refine ox_nil ?_
          refine ex_then ?_
          refine cx_ret ?_
          refine ex_block_ret ?_
          refine ex_then_ret ?_
          obtain rfl := Option.some.inj h
          exact ex_stop ⟨rfl, _, rfl, (keep (keep (keep (keep (keep rfl rfl) rfl) rfl) rfl) rfl)⟩
        · refine cx_false (congrArg Value.bool hp8) ?_
          refine cx_skip ?_
          refine ex_block ?_
          refine ex_then ?_
          refine cx_region ?_
          refine ox_y rfl (y_move_int rfl) ?_
          refine ox_y rfl (y_add rfl rfl) ?_
          refine ox_y rfl (y_assign_int rfl) ?_
          refine ox_nil ?_
          obtain rfl := Option.some.inj h
          exact ex_next ⟨_, rfl, (keep (keep (keep (keep (keep rfl rfl) rfl) rfl) rfl) rfl)⟩
      · refine cx_false (congrArg Value.bool hp5) ?_
        refine cx_exit ?_
        refine ex_then_exit ?_
        obtain rfl := Option.some.inj h
        exact ex_stop ⟨rfl, _, rfl, (keep (keep (keep (keep (keep rfl rfl) rfl) rfl) rfl) rfl)⟩
    · intro e L tm hJ
      rcases u4 with u10 | u11
      · dsimp only at h hJ
        obtain ⟨rfl, tm0_u10, rfl, rfl⟩ := hJ
        refine ⟨(by intro hc; cases hc), ?_⟩
        refine ex_block_ret ?_
        refine ex_then_ret ?_
        obtain rfl := Option.some.inj h
        exact ex_res1 (.inl rfl) rfl (resV_tmp (v := .bool u10.1) rfl) (fun W2 hW2 => ⟨rfl, hW2.none⟩)
      · dsimp only at h hJ
        obtain ⟨rfl, tm0_u11, rfl, rfl⟩ := hJ
        refine ⟨(by intro hc; cases hc), ?_⟩
        refine ex_block_here ?_
        refine ex_then ?_
        refine cx_seq ?_
        refine cx_region ?_
        refine ox_y rfl (y_assign_bool rfl) ?_
        refine ox_nil ?_
        refine ex_then ?_
        refine cx_ret ?_
        obtain rfl := Option.some.inj h
        exact ex_res1 (.inl rfl) rfl (resV_tmp (v := .bool true) rfl) (fun W2 hW2 => ⟨rfl, hW2.none⟩)

/-! calx/sample.taken -/
set_option maxRecDepth 100000 in
theorem sample_taken_ok (p0_barrows : Int) (p1_many : Int) (p2_seen : Int) (p3_level : TRatio) (res : Int) (h : sample_taken p0_barrows p1_many p2_seen p3_level = some res) (W : World)  :
    Calls Try.prog 116 [.int .i64 p0_barrows, .int .i64 p1_many, .int .i64 p2_seen, .agg #[.int .i64 p3_level.fNum, .int .i64 p3_level.fDen]].toArray W fun e W2 => e = .returned (.int .i64 res) ∧ Ext W W2 [] := by
  unfold sample_taken at h
  refine calls_enter (m := 29) Try.func116 rfl rfl (Nat.le_of_ble_eq_true rfl) ?_
  refine cx_seq ?_
  refine cx_region ?_
  refine ox_box [.int .i64 p3_level.fNum, .int .i64 p3_level.fDen] rfl rfl rfl (fun b1 => ?_)
  refine ox_y rfl (y_assign_int rfl) ?_
  refine ox_nil ?_
  refine ex_then ?_
  refine cx_seq ?_
  refine cx_seq ?_
  refine cx_region ?_
  refine ox_y rfl (y_move_int rfl) ?_
  obtain ⟨y2, hy3, h⟩ := bind_some h
  refine ox_y rfl (y_call [.int .i64 p0_barrows, .int .i64 1, .int .i64 50] go_74 rfl (fun W2 hW2 => sample_within_ok p0_barrows 1 50 y2 hy3 W2 ) rfl) ?_
  refine ox_y rfl (y_not rfl) ?_
  refine ox_y rfl (y_move_bool rfl) ?_
  obtain ⟨b5, hb6, h⟩ := bind_some h
  refine ox_join 5 (fun tm0 => (upd (upd (upd (upd (upd (upd (upd tm0 0 (.int .i64 p0_barrows)) 1 (.int .i64 p1_many)) 2 (.int .i64 p2_seen)) 3 (.agg #[.int .i64 p3_level.fNum, .int .i64 p3_level.fDen])) 7 (.pointer (some ⟨b1, 0, none⟩))) 8 (.int .i64 0)) 17 (.bool b5))) (fun tm0 => ?_) (fun key => ?_)
  · refine ox_y rfl (y_move_bool rfl) ?_
    obtain ⟨b8, hb9, h⟩ := bind_some h
    refine ox_join 5 (fun tm0 => (upd (upd (upd (upd (upd (upd (upd tm0 0 (.int .i64 p0_barrows)) 1 (.int .i64 p1_many)) 2 (.int .i64 p2_seen)) 3 (.agg #[.int .i64 p3_level.fNum, .int .i64 p3_level.fDen])) 7 (.pointer (some ⟨b1, 0, none⟩))) 8 (.int .i64 0)) 23 (.bool b8))) (fun tm0 => ?_) (fun key => ?_)
    · refine ox_y rfl (y_move_bool rfl) ?_
      obtain ⟨b11, hb12, h⟩ := bind_some h
      refine ox_join 4 (fun tm0 => (upd (upd (upd (upd (upd (upd (upd tm0 0 (.int .i64 p0_barrows)) 1 (.int .i64 p1_many)) 2 (.int .i64 p2_seen)) 3 (.agg #[.int .i64 p3_level.fNum, .int .i64 p3_level.fDen])) 7 (.pointer (some ⟨b1, 0, none⟩))) 8 (.int .i64 0)) 28 (.bool b11))) (fun tm0 => ?_) (fun key => ?_)
      · refine ox_nil ?_
        refine ex_then ?_
        rcases ite_some h with ⟨hp13, h⟩ | ⟨hp13, h⟩
        · refine cx_true (congrArg Value.bool hp13) ?_
          refine cx_seq ?_
          refine cx_region ?_
          refine ox_y rfl (y_assign_int rfl) ?_
          refine ox_nil ?_
          refine ex_then ?_
          refine cx_ret ?_
          refine ex_then_ret ?_
          obtain rfl := Option.some.inj h
          exact ex_res1 (.inl rfl) rfl (resV_tmp (v := .int .i64 1) rfl) (fun W2 hW2 => ⟨rfl, hW2.none⟩)
        · refine cx_false (congrArg Value.bool hp13) ?_
          refine cx_skip ?_
          refine ex_then ?_
          refine cx_seq ?_
          refine cx_region ?_
          refine ox_y rfl (y_assign_int rfl) ?_
          refine ox_nil ?_
          refine ex_then ?_
          refine cx_ret ?_
          obtain rfl := Option.some.inj h
          exact ex_res1 (.inl rfl) rfl (resV_tmp (v := .int .i64 0) rfl) (fun W2 hW2 => ⟨rfl, hW2.none⟩)
      · clear h; rcases ite_some hb12 with ⟨hp10, h⟩ | ⟨hp10, h⟩
        · refine ox_skip (sees_f rfl rfl rfl rfl hp10) ?_
          refine ox_skip (sees_f rfl rfl rfl rfl hp10) ?_
          refine ox_skip (sees_f rfl rfl rfl rfl hp10) ?_
          refine ox_y rfl (y_pick_tb (congrArg Value.bool hp10) rfl) ?_
          obtain rfl := Option.some.inj h
          exact key _ _ (keep (keep (keep (keep (keep (keep (keep rfl rfl) rfl) rfl) rfl) rfl) rfl) rfl)
        · refine ox_y (sees_t rfl rfl rfl rfl hp10) (y_loadN 0 [.int .i64 p3_level.fNum, .int .i64 p3_level.fDen] ag_23 rfl rfl rfl) ?_
          obtain ⟨y14, hy15, h⟩ := bind_some h
          refine ox_y (sees_t rfl rfl rfl rfl hp10) (y_call [.agg #[.int .i64 p3_level.fNum, .int .i64 p3_level.fDen]] go_75 rfl (fun W2 hW2 => sample_isLevel_ok p3_level y14 hy15 W2 ) rfl) ?_
          refine ox_y (sees_t rfl rfl rfl rfl hp10) (y_not rfl) ?_
          refine ox_y rfl (y_pick_fb (congrArg Value.bool hp10) rfl) ?_
          obtain rfl := Option.some.inj h
          exact key _ _ (keep (keep (keep (keep (keep (keep (keep rfl rfl) rfl) rfl) rfl) rfl) rfl) rfl)
    · clear h; rcases ite_some hb9 with ⟨hp7, h⟩ | ⟨hp7, h⟩
      · refine ox_skip (sees_f rfl rfl rfl rfl hp7) ?_
        refine ox_skip (sees_f rfl rfl rfl rfl hp7) ?_
        refine ox_skip (sees_f rfl rfl rfl rfl hp7) ?_
        refine ox_skip (sees_f rfl rfl rfl rfl hp7) ?_
        refine ox_y rfl (y_pick_tb (congrArg Value.bool hp7) rfl) ?_
        obtain rfl := Option.some.inj h
        exact key _ _ (keep (keep (keep (keep (keep (keep (keep rfl rfl) rfl) rfl) rfl) rfl) rfl) rfl)
      · refine ox_y (sees_t rfl rfl rfl rfl hp7) (y_move_int rfl) ?_
        refine ox_y (sees_t rfl rfl rfl rfl hp7) (y_move_int rfl) ?_
        obtain ⟨y16, hy17, h⟩ := bind_some h
        refine ox_y (sees_t rfl rfl rfl rfl hp7) (y_call [.int .i64 p2_seen, .int .i64 0, .int .i64 p1_many] go_74 rfl (fun W2 hW2 => sample_within_ok p2_seen 0 p1_many y16 hy17 W2 ) rfl) ?_
        refine ox_y (sees_t rfl rfl rfl rfl hp7) (y_not rfl) ?_
        refine ox_y rfl (y_pick_fb (congrArg Value.bool hp7) rfl) ?_
        obtain rfl := Option.some.inj h
        exact key _ _ (keep (keep (keep (keep (keep (keep (keep rfl rfl) rfl) rfl) rfl) rfl) rfl) rfl)
  · clear h; rcases ite_some hb6 with ⟨hp4, h⟩ | ⟨hp4, h⟩
    · refine ox_skip (sees_f rfl rfl rfl rfl hp4) ?_
      refine ox_skip (sees_f rfl rfl rfl rfl hp4) ?_
      refine ox_skip (sees_f rfl rfl rfl rfl hp4) ?_
      refine ox_skip (sees_f rfl rfl rfl rfl hp4) ?_
      refine ox_y rfl (y_pick_tb (congrArg Value.bool hp4) rfl) ?_
      obtain rfl := Option.some.inj h
      exact key _ _ (keep (keep (keep (keep (keep (keep (keep rfl rfl) rfl) rfl) rfl) rfl) rfl) rfl)
    · refine ox_y (sees_t rfl rfl rfl rfl hp4) (y_move_int rfl) ?_
      refine ox_y (sees_t rfl rfl rfl rfl hp4) (y_move_int rfl) ?_
      obtain ⟨y18, hy19, h⟩ := bind_some h
      refine ox_y (sees_t rfl rfl rfl rfl hp4) (y_call [.int .i64 p1_many, .int .i64 0, .int .i64 p0_barrows] go_74 rfl (fun W2 hW2 => sample_within_ok p1_many 0 p0_barrows y18 hy19 W2 ) rfl) ?_
      refine ox_y (sees_t rfl rfl rfl rfl hp4) (y_not rfl) ?_
      refine ox_y rfl (y_pick_fb (congrArg Value.bool hp4) rfl) ?_
      obtain rfl := Option.some.inj h
      exact key _ _ (keep (keep (keep (keep (keep (keep (keep rfl rfl) rfl) rfl) rfl) rfl) rfl) rfl)

/-! calx/sample.Upper -/
set_option maxRecDepth 100000 in
theorem sample_Upper_ok (p0_barrows : Int) (p1_many : Int) (p2_seen : Int) (p3_level : TRatio) (res : (Int × Int)) (h : sample_Upper p0_barrows p1_many p2_seen p3_level = some res) (W : World)  :
    Calls Try.prog 56 [.int .i64 p0_barrows, .int .i64 p1_many, .int .i64 p2_seen, .agg #[.int .i64 p3_level.fNum, .int .i64 p3_level.fDen]].toArray W fun e W2 => e = .returned (.tuple #[.int .i64 res.1, .int .i64 res.2]) ∧ Ext W W2 [] := by
  unfold sample_Upper at h
  refine calls_enter (m := 38) Try.func56 rfl rfl (Nat.le_of_ble_eq_true rfl) ?_
  refine cx_seq ?_
  refine cx_region ?_
  refine ox_box [.int .i64 p3_level.fNum, .int .i64 p3_level.fDen] rfl rfl rfl (fun b1 => ?_)
  refine ox_y rfl (y_assign_int rfl) ?_
  refine ox_y rfl (y_assign_int rfl) ?_
  refine ox_nil ?_
  refine ex_then ?_
  refine cx_seq ?_
  refine cx_seq ?_
  refine cx_region ?_
  refine ox_y rfl (y_move_int rfl) ?_
  refine ox_y rfl (y_move_int rfl) ?_
  refine ox_y rfl (y_move_int rfl) ?_
  refine ox_y rfl (y_loadN 0 [.int .i64 p3_level.fNum, .int .i64 p3_level.fDen] ag_23 rfl rfl rfl) ?_
  obtain ⟨y2, hy3, h⟩ := bind_some h
  refine ox_y rfl (y_call [.int .i64 p0_barrows, .int .i64 p1_many, .int .i64 p2_seen, .agg #[.int .i64 p3_level.fNum, .int .i64 p3_level.fDen]] go_116 rfl (fun W2 hW2 => sample_taken_ok p0_barrows p1_many p2_seen p3_level y2 hy3 W2 ) rfl) ?_
  refine ox_y rfl (y_assign_int rfl) ?_
  refine ox_nil ?_
  refine ex_then ?_
  refine cx_seq ?_
  refine cx_region ?_
  refine ox_y rfl (y_move_int rfl) ?_
  refine ox_y rfl (y_neq rfl rfl) ?_
  refine ox_nil ?_
  refine ex_then ?_
  rcases ite_some h with ⟨hp4, h⟩ | ⟨hp4, h⟩
  · refine cx_true (congrArg Value.bool hp4) ?_
    refine cx_seq ?_
    refine cx_region ?_
    refine ox_y rfl (y_move_int rfl) ?_
    refine ox_y rfl (y_assign_int rfl) ?_
    refine ox_y rfl (y_assign_int rfl) ?_
    refine ox_nil ?_
    refine ex_then ?_
    refine cx_ret ?_
    refine ex_then_ret ?_
    obtain rfl := Option.some.inj h
    exact ex_res2 (.inl rfl) rfl (resV_tmp (v := .int .i64 0) rfl) (resV_tmp (v := .int .i64 y2) rfl) (fun W2 hW2 => ⟨rfl, hW2.none⟩)
  · refine cx_false (congrArg Value.bool hp4) ?_
    refine cx_skip ?_
    refine ex_then ?_
    refine cx_seq ?_
    refine cx_draws 4 mixed (by kernel_rfl) (by kernel_rfl) ?_
    refine qx_y rfl (y_loadN 0 [.int .i64 p3_level.fNum, .int .i64 p3_level.fDen] ag_23 rfl rfl rfl) ?_
    refine qx_y rfl (y_move_int rfl) ?_
    refine qx_y rfl (y_move_int rfl) ?_
    obtain ⟨y5, hy6, h⟩ := bind_some h
    refine qx_y rfl (y_call [.int .i64 p0_barrows, .int .i64 p1_many] go_76 rfl (fun W2 hW2 => sample_choose_ok p0_barrows p1_many y5 hy6 W2 ) rfl) ?_
    refine qx_nil ?_
    obtain ⟨y7, hy8, h⟩ := bind_some h
    refine ox_call1 [.agg #[.int .i64 p3_level.fNum, .int .i64 p3_level.fDen], .int .i64 y5] _ _ rfl go_78 rfl (fun W2 hW2 => sample_reaches_ok p3_level y5 y7 hy8 W2 ) ?_
    rintro ⟨b9, b10⟩
    refine ox_y rfl (y_assign_func rfl) ?_
    refine ox_nil ?_
    refine ex_then ?_
    refine cx_seq ?_
    refine cx_region ?_
    refine ox_y rfl (y_move_int rfl) ?_
    refine ox_y rfl (y_assign_int rfl) ?_
    refine ox_nil ?_
    refine ex_then ?_
    refine cx_seq ?_
    refine cx_block ?_
    obtain ⟨u13, hl19, h⟩ := bind_some h
    refine cx_loop (fun (s : Int) L tm => ∃ (tm0 : Nat → Value), L = [cellsR b1 23 [.int .i64 p3_level.fNum, .int .i64 p3_level.fDen], cellsR b9 23 [.int .i64 y7.1.fNum, .int .i64 y7.1.fDen], cellsR b10 3 [.int .i64 y7.2]] ∧ tm = (upd (upd (upd (upd (upd (upd (upd (upd (upd (upd (upd tm0 0 (.int .i64 p0_barrows)) 1 (.int .i64 p1_many)) 2 (.int .i64 p2_seen)) 3 (.agg #[.int .i64 p3_level.fNum, .int .i64 p3_level.fDen])) 7 (.pointer (some ⟨b1, 0, none⟩))) 8 (.int .i64 0)) 9 (.int .i64 0)) 10 (.int .i64 y2)) 19 (.bool (y2 != 0))) 11 (.func (.func 120) #[] #[.pointer (some ⟨b9, 0, none⟩), .pointer (some ⟨b10, 0, none⟩)])) 12 (.int .i64 s))) (fun s e L tm => e = .exit 0 ∧ ∃ (tm0 : Nat → Value), L = [cellsR b1 23 [.int .i64 p3_level.fNum, .int .i64 p3_level.fDen], cellsR b9 23 [.int .i64 y7.1.fNum, .int .i64 y7.1.fDen], cellsR b10 3 [.int .i64 y7.2]] ∧ tm = (upd (upd (upd (upd (upd (upd (upd (upd (upd (upd (upd tm0 0 (.int .i64 p0_barrows)) 1 (.int .i64 p1_many)) 2 (.int .i64 p2_seen)) 3 (.agg #[.int .i64 p3_level.fNum, .int .i64 p3_level.fDen])) 7 (.pointer (some ⟨b1, 0, none⟩))) 8 (.int .i64 0)) 9 (.int .i64 0)) 10 (.int .i64 y2)) 19 (.bool (y2 != 0))) 11 (.func (.func 120) #[] #[.pointer (some ⟨b9, 0, none⟩), .pointer (some ⟨b10, 0, none⟩)])) 12 (.int .i64 s))) hl19 ⟨_, rfl, (keep (keep (keep (keep (keep (keep (keep (keep (keep (keep (keep rfl rfl) rfl) rfl) rfl) rfl) rfl) rfl) rfl) rfl) rfl) rfl)⟩ ?_ ?_
    · rintro s12 L tm st ⟨tm0_s12, rfl, rfl⟩ h
      unfold sample_Upper_l1 at h
      refine cx_seq ?_
      refine cx_seq ?_
      refine cx_region ?_
      refine ox_y rfl (y_move_func rfl) ?_
      refine ox_y rfl (y_move_int rfl) ?_
      refine ox_y rfl (y_move_int rfl) ?_
      refine ox_y rfl (y_move_int rfl) ?_
      refine ox_y rfl (y_move_int rfl) ?_
      obtain ⟨y14, hy15, h⟩ := bind_some h
      refine ox_y rfl (y_call [.int .i64 p0_barrows, .int .i64 s12, .int .i64 p1_many, .int .i64 p2_seen] go_77 rfl (fun W2 hW2 => sample_atMost_ok p0_barrows s12 p1_many p2_seen y14 hy15 W2 ) rfl) ?_
      obtain ⟨y16, hy17, h⟩ := bind_some h
      refine ox_y rfl (y_callv (caps := [.pointer (some ⟨b9, 0, none⟩), .pointer (some ⟨b10, 0, none⟩)]) [.int .i64 y14] go_120 rfl rfl (fun W2 hW2 => sample_reaches_1_ok y14 y7.1 y7.2 y16 hy17 W2 b9 ((RdL.cells 1 rfl) W2 hW2) b10 ((RdL.cells 2 rfl) W2 hW2))) ?_
      refine ox_y rfl (y_not rfl) ?_
      refine ox_nil ?_
      refine ex_then ?_
      rcases ite_some h with ⟨hp18, h⟩ | ⟨hp18, h⟩
      · refine cx_true (congrArg Value.bool hp18) ?_
        refine cx_skip ?_
        refine ex_then ?_
        refine cx_block ?_
        refine cx_region ?_
        refine ox_y rfl (y_move_int rfl) ?_
        refine ox_y rfl (y_sub rfl rfl) ?_
        refine ox_y rfl (y_assign_int rfl) ?_
        refine ox_nil ?_
        refine ex_block ?_
        obtain rfl := Option.some.inj h
        exact ex_next ⟨_, rfl, (keep (keep (keep (keep (keep (keep (keep (keep (keep (keep (keep rfl rfl) rfl) rfl) rfl) rfl) rfl) rfl) rfl) rfl) rfl) rfl)⟩
      · refine cx_false (congrArg Value.bool hp18) ?_
        refine cx_exit ?_
        refine ex_then_exit ?_
        obtain rfl := Option.some.inj h
        exact ex_stop ⟨rfl, _, rfl, (keep (keep (keep (keep (keep (keep (keep (keep (keep (keep (keep rfl rfl) rfl) rfl) rfl) rfl) rfl) rfl) rfl) rfl) rfl) rfl)⟩
    · intro e L tm hJ
      obtain ⟨rfl, tm0_u13, rfl, rfl⟩ := hJ
      refine ⟨(by intro hc; cases hc), ?_⟩
      refine ex_block_here ?_
      refine ex_then ?_
      refine cx_seq ?_
      refine cx_region ?_
      refine ox_y rfl (y_move_int rfl) ?_
      refine ox_y rfl (y_assign_int rfl) ?_
      refine ox_y rfl (y_assign_int rfl) ?_
      refine ox_nil ?_
      refine ex_then ?_
      refine cx_ret ?_
      obtain rfl := Option.some.inj h
      exact ex_res2 (.inl rfl) rfl (resV_tmp (v := .int .i64 u13) rfl) (resV_tmp (v := .int .i64 0) rfl) (fun W2 hW2 => ⟨rfl, hW2.none⟩)

/-! calx/sample.Lower -/
set_option maxRecDepth 100000 in
theorem sample_Lower_ok (p0_barrows : Int) (p1_many : Int) (p2_seen : Int) (p3_level : TRatio) (res : (Int × Int)) (h : sample_Lower p0_barrows p1_many p2_seen p3_level = some res) (W : World)  :
    Calls Try.prog 58 [.int .i64 p0_barrows, .int .i64 p1_many, .int .i64 p2_seen, .agg #[.int .i64 p3_level.fNum, .int .i64 p3_level.fDen]].toArray W fun e W2 => e = .returned (.tuple #[.int .i64 res.1, .int .i64 res.2]) ∧ Ext W W2 [] := by
  unfold sample_Lower at h
  refine calls_enter (m := 42) Try.func58 rfl rfl (Nat.le_of_ble_eq_true rfl) ?_
  refine cx_seq ?_
  refine cx_region ?_
  refine ox_box [.int .i64 p3_level.fNum, .int .i64 p3_level.fDen] rfl rfl rfl (fun b1 => ?_)
  refine ox_y rfl (y_assign_int rfl) ?_
  refine ox_y rfl (y_assign_int rfl) ?_
  refine ox_nil ?_
  refine ex_then ?_
  refine cx_seq ?_
  refine cx_seq ?_
  refine cx_region ?_
  refine ox_y rfl (y_move_int rfl) ?_
  refine ox_y rfl (y_move_int rfl) ?_
  refine ox_y rfl (y_move_int rfl) ?_
  refine ox_y rfl (y_loadN 0 [.int .i64 p3_level.fNum, .int .i64 p3_level.fDen] ag_23 rfl rfl rfl) ?_
  obtain ⟨y2, hy3, h⟩ := bind_some h
  refine ox_y rfl (y_call [.int .i64 p0_barrows, .int .i64 p1_many, .int .i64 p2_seen, .agg #[.int .i64 p3_level.fNum, .int .i64 p3_level.fDen]] go_116 rfl (fun W2 hW2 => sample_taken_ok p0_barrows p1_many p2_seen p3_level y2 hy3 W2 ) rfl) ?_
  refine ox_y rfl (y_assign_int rfl) ?_
  refine ox_nil ?_
  refine ex_then ?_
  refine cx_seq ?_
  refine cx_region ?_
  refine ox_y rfl (y_move_int rfl) ?_
  refine ox_y rfl (y_neq rfl rfl) ?_
  refine ox_nil ?_
  refine ex_then ?_
  rcases ite_some h with ⟨hp4, h⟩ | ⟨hp4, h⟩
  · refine cx_true (congrArg Value.bool hp4) ?_
    refine cx_seq ?_
    refine cx_region ?_
    refine ox_y rfl (y_move_int rfl) ?_
    refine ox_y rfl (y_assign_int rfl) ?_
    refine ox_y rfl (y_assign_int rfl) ?_
    refine ox_nil ?_
    refine ex_then ?_
    refine cx_ret ?_
    refine ex_then_ret ?_
    obtain rfl := Option.some.inj h
    exact ex_res2 (.inl rfl) rfl (resV_tmp (v := .int .i64 0) rfl) (resV_tmp (v := .int .i64 y2) rfl) (fun W2 hW2 => ⟨rfl, hW2.none⟩)
  · refine cx_false (congrArg Value.bool hp4) ?_
    refine cx_skip ?_
    refine ex_then ?_
    refine cx_seq ?_
    refine cx_region ?_
    refine ox_y rfl (y_move_int rfl) ?_
    refine ox_y rfl (y_move_int rfl) ?_
    obtain ⟨y5, hy6, h⟩ := bind_some h
    refine ox_y rfl (y_call [.int .i64 p0_barrows, .int .i64 p1_many] go_76 rfl (fun W2 hW2 => sample_choose_ok p0_barrows p1_many y5 hy6 W2 ) rfl) ?_
    refine ox_y rfl (y_assign_int rfl) ?_
    refine ox_nil ?_
    refine ex_then ?_
    refine cx_seq ?_
    refine cx_region ?_
    refine ox_y rfl (y_loadN 0 [.int .i64 p3_level.fNum, .int .i64 p3_level.fDen] ag_23 rfl rfl rfl) ?_
    refine ox_y rfl (y_move_int rfl) ?_
    obtain ⟨y7, hy8, h⟩ := bind_some h
    refine ox_call1 [.agg #[.int .i64 p3_level.fNum, .int .i64 p3_level.fDen], .int .i64 y5] _ _ rfl go_78 rfl (fun W2 hW2 => sample_reaches_ok p3_level y5 y7 hy8 W2 ) ?_
    rintro ⟨b9, b10⟩
    refine ox_y rfl (y_assign_func rfl) ?_
    refine ox_nil ?_
    refine ex_then ?_
    refine cx_seq ?_
    refine cx_region ?_
    refine ox_y rfl (y_assign_int rfl) ?_
    refine ox_nil ?_
    refine ex_then ?_
    refine cx_seq ?_
    refine cx_block ?_
    obtain ⟨u13, hl19, h⟩ := bind_some h
    refine cx_loop (fun (s : Int) L tm => ∃ (tm0 : Nat → Value), L = [cellsR b1 23 [.int .i64 p3_level.fNum, .int .i64 p3_level.fDen], cellsR b9 23 [.int .i64 y7.1.fNum, .int .i64 y7.1.fDen], cellsR b10 3 [.int .i64 y7.2]] ∧ tm = (upd (upd (upd (upd (upd (upd (upd (upd (upd (upd (upd (upd tm0 0 (.int .i64 p0_barrows)) 1 (.int .i64 p1_many)) 2 (.int .i64 p2_seen)) 3 (.agg #[.int .i64 p3_level.fNum, .int .i64 p3_level.fDen])) 7 (.pointer (some ⟨b1, 0, none⟩))) 8 (.int .i64 0)) 9 (.int .i64 0)) 10 (.int .i64 y2)) 20 (.bool (y2 != 0))) 11 (.int .i64 y5)) 12 (.func (.func 120) #[] #[.pointer (some ⟨b9, 0, none⟩), .pointer (some ⟨b10, 0, none⟩)])) 13 (.int .i64 s))) (fun s e L tm => e = .exit 0 ∧ ∃ (tm0 : Nat → Value), L = [cellsR b1 23 [.int .i64 p3_level.fNum, .int .i64 p3_level.fDen], cellsR b9 23 [.int .i64 y7.1.fNum, .int .i64 y7.1.fDen], cellsR b10 3 [.int .i64 y7.2]] ∧ tm = (upd (upd (upd (upd (upd (upd (upd (upd (upd (upd (upd (upd tm0 0 (.int .i64 p0_barrows)) 1 (.int .i64 p1_many)) 2 (.int .i64 p2_seen)) 3 (.agg #[.int .i64 p3_level.fNum, .int .i64 p3_level.fDen])) 7 (.pointer (some ⟨b1, 0, none⟩))) 8 (.int .i64 0)) 9 (.int .i64 0)) 10 (.int .i64 y2)) 20 (.bool (y2 != 0))) 11 (.int .i64 y5)) 12 (.func (.func 120) #[] #[.pointer (some ⟨b9, 0, none⟩), .pointer (some ⟨b10, 0, none⟩)])) 13 (.int .i64 s))) hl19 ⟨_, rfl, (keep (keep (keep (keep (keep (keep (keep (keep (keep (keep (keep (keep rfl rfl) rfl) rfl) rfl) rfl) rfl) rfl) rfl) rfl) rfl) rfl) rfl)⟩ ?_ ?_
    · rintro s12 L tm st ⟨tm0_s12, rfl, rfl⟩ h
      unfold sample_Lower_l1 at h
      refine cx_seq ?_
      refine cx_seq ?_
      refine cx_region ?_
      refine ox_y rfl (y_move_func rfl) ?_
      refine ox_y rfl (y_move_int rfl) ?_
      refine ox_y rfl (y_move_int rfl) ?_
      refine ox_y rfl (y_move_int rfl) ?_
      refine ox_y rfl (y_move_int rfl) ?_
      refine ox_y rfl (y_move_int rfl) ?_
      refine ox_y rfl (y_sub rfl rfl) ?_
      obtain ⟨y14, hy15, h⟩ := bind_some h
      refine ox_y rfl (y_call [.int .i64 p0_barrows, .int .i64 s12, .int .i64 p1_many, .int .i64 (w64 (p2_seen - 1))] go_77 rfl (fun W2 hW2 => sample_atMost_ok p0_barrows s12 p1_many (w64 (p2_seen - 1)) y14 hy15 W2 ) rfl) ?_
      refine ox_y rfl (y_sub rfl rfl) ?_
      obtain ⟨y16, hy17, h⟩ := bind_some h
      refine ox_y rfl (y_callv (caps := [.pointer (some ⟨b9, 0, none⟩), .pointer (some ⟨b10, 0, none⟩)]) [.int .i64 (w64 (y5 - y14))] go_120 rfl rfl (fun W2 hW2 => sample_reaches_1_ok (w64 (y5 - y14)) y7.1 y7.2 y16 hy17 W2 b9 ((RdL.cells 1 rfl) W2 hW2) b10 ((RdL.cells 2 rfl) W2 hW2))) ?_
      refine ox_y rfl (y_not rfl) ?_
      refine ox_nil ?_
      refine ex_then ?_
      rcases ite_some h with ⟨hp18, h⟩ | ⟨hp18, h⟩
      · refine cx_true (congrArg Value.bool hp18) ?_
        refine cx_skip ?_
        refine ex_then ?_
        refine cx_block ?_
        refine cx_region ?_
        refine ox_y rfl (y_move_int rfl) ?_
        refine ox_y rfl (y_add rfl rfl) ?_
        refine ox_y rfl (y_assign_int rfl) ?_
        refine ox_nil ?_
        refine ex_block ?_
        obtain rfl := Option.some.inj h
        exact ex_next ⟨_, rfl, (keep (keep (keep (keep (keep (keep (keep (keep (keep (keep (keep (keep rfl rfl) rfl) rfl) rfl) rfl) rfl) rfl) rfl) rfl) rfl) rfl) rfl)⟩
      · refine cx_false (congrArg Value.bool hp18) ?_
        refine cx_exit ?_
        refine ex_then_exit ?_
        obtain rfl := Option.some.inj h
        exact ex_stop ⟨rfl, _, rfl, (keep (keep (keep (keep (keep (keep (keep (keep (keep (keep (keep (keep rfl rfl) rfl) rfl) rfl) rfl) rfl) rfl) rfl) rfl) rfl) rfl) rfl)⟩
    · intro e L tm hJ
      obtain ⟨rfl, tm0_u13, rfl, rfl⟩ := hJ
      refine ⟨(by intro hc; cases hc), ?_⟩
      refine ex_block_here ?_
      refine ex_then ?_
      refine cx_seq ?_
      refine cx_region ?_
      refine ox_y rfl (y_move_int rfl) ?_
      refine ox_y rfl (y_assign_int rfl) ?_
      refine ox_y rfl (y_assign_int rfl) ?_
      refine ox_nil ?_
      refine ex_then ?_
      refine cx_ret ?_
      obtain rfl := Option.some.inj h
      exact ex_res2 (.inl rfl) rfl (resV_tmp (v := .int .i64 u13) rfl) (resV_tmp (v := .int .i64 0) rfl) (fun W2 hW2 => ⟨rfl, hW2.none⟩)

/-! calx/calxlaw03.Three -/
set_option maxRecDepth 100000 in
theorem calxlaw03_Three_ok  (res : TBatch) (h : calxlaw03_Three = some res) (W : World)  :
    Calls Try.prog 72 [].toArray W fun e W2 => e = .returned (.agg #[.int .i64 res.fBarrows, .int .i64 res.fSeen.x0, .int .i64 res.fSeen.x1, .int .i64 res.fSeen.x2, .int .i64 res.fKnown.x0.fLo, .int .i64 res.fKnown.x0.fHi, .int .i64 res.fKnown.x1.fLo, .int .i64 res.fKnown.x1.fHi, .int .i64 res.fKnown.x2.fLo, .int .i64 res.fKnown.x2.fHi]) ∧ Ext W W2 [] := by
  unfold calxlaw03_Three at h
  refine calls_enter (m := 7) Try.func72 rfl rfl (Nat.le_of_ble_eq_true rfl) ?_
  refine cx_seq ?_
  refine cx_region ?_
  refine ox_alloc ze_52 rfl (fun b1 => ?_)
  refine ox_nil ?_
  refine ex_then ?_
  refine cx_seq ?_
  refine cx_region ?_
  refine ox_y rfl (y_buildA [.int .i64 1, .int .i64 1, .int .i64 0] ua_43 ze_43 sz_3 (by kernel_rfl)) ?_
  refine ox_y rfl (y_buildS [.int .i64 0, .int .i64 3] [(0, 1), (1, 1)] ust_33 ze_33 (by kernel_rfl)) ?_
  refine ox_y rfl (y_buildS [.int .i64 0, .int .i64 3] [(0, 1), (1, 1)] ust_33 ze_33 (by kernel_rfl)) ?_
  refine ox_y rfl (y_buildS [.int .i64 0, .int .i64 3] [(0, 1), (1, 1)] ust_33 ze_33 (by kernel_rfl)) ?_
  refine ox_y rfl (y_buildA [.int .i64 0, .int .i64 3, .int .i64 0, .int .i64 3, .int .i64 0, .int .i64 3] ua_50 ze_50 sz_33 (by kernel_rfl)) ?_
  refine ox_y rfl (y_buildS [.int .i64 3, .int .i64 1, .int .i64 1, .int .i64 0, .int .i64 0, .int .i64 3, .int .i64 0, .int .i64 3, .int .i64 0, .int .i64 3] [(0, 1), (1, 3), (4, 6)] ust_52 ze_52 (by kernel_rfl)) ?_
  refine ox_n rfl (y_storeN 0 [.int .i64 3, .int .i64 1, .int .i64 1, .int .i64 0, .int .i64 0, .int .i64 3, .int .i64 0, .int .i64 3, .int .i64 0, .int .i64 3] sz_52 rfl (Nat.le_of_ble_eq_true rfl) rfl rfl rfl) ?_
  refine ox_nil ?_
  refine ex_then ?_
  refine cx_ret ?_
  obtain rfl := Option.some.inj h
  exact ex_res1 (.inl rfl) rfl (resV_cellN 0 [.int .i64 3, .int .i64 1, .int .i64 1, .int .i64 0, .int .i64 0, .int .i64 3, .int .i64 0, .int .i64 3, .int .i64 0, .int .i64 3] ag_52 rfl rfl rfl) (fun W2 hW2 => ⟨rfl, hW2.none⟩)

/-! calx/calxlaw03.half -/
set_option maxRecDepth 100000 in
theorem calxlaw03_half_ok  (res : TRatio) (h : calxlaw03_half = some res) (W : World)  :
    Calls Try.prog 73 [].toArray W fun e W2 => e = .returned (.agg #[.int .i64 res.fNum, .int .i64 res.fDen]) ∧ Ext W W2 [] := by
  unfold calxlaw03_half at h
  refine calls_enter (m := 2) Try.func73 rfl rfl (Nat.le_of_ble_eq_true rfl) ?_
  refine cx_seq ?_
  refine cx_region ?_
  refine ox_alloc ze_23 rfl (fun b1 => ?_)
  refine ox_nil ?_
  refine ex_then ?_
  refine cx_seq ?_
  refine cx_region ?_
  refine ox_y rfl (y_buildS [.int .i64 1, .int .i64 2] [(0, 1), (1, 1)] ust_23 ze_23 (by kernel_rfl)) ?_
  refine ox_n rfl (y_storeN 0 [.int .i64 1, .int .i64 2] sz_23 rfl (Nat.le_of_ble_eq_true rfl) rfl rfl rfl) ?_
  refine ox_nil ?_
  refine ex_then ?_
  refine cx_ret ?_
  obtain rfl := Option.some.inj h
  exact ex_res1 (.inl rfl) rfl (resV_cellN 0 [.int .i64 1, .int .i64 2] ag_23 rfl rfl rfl) (fun W2 hW2 => ⟨rfl, hW2.none⟩)

end Go.Proofs.Ytepfgdfahinpkaa
