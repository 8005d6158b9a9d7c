/- The calls hand back what the plain functions say. -/
import Derived.Test.YtndajeiecdmhnaaGreatF
import Derived.Test.YtndajeiecdmhnaaGreatGy
import Derived.Test.YtndajeiecdmhnaaGreatC0
import Derived.Test.YtndajeiecdmhnaaGreatC5
set_option linter.unusedVariables false
set_option maxHeartbeats 4000000
namespace Go.Proofs.YtndajeiecdmhnaaGreat
open Go.RowKit (Below)
attribute [local irreducible] OX QX CX EX OpY Calls CallsIn

/-! calx/calxref02.in -/
set_option maxRecDepth 100000 in
theorem calxref02_in_ok (p0_l : (List Int)) (p1_n : Int) (res : Bool) (h : calxref02_in p0_l p1_n = some res) (W : World) (A0_0 : Option Addr) (n0_0 c0_0 : Nat) (hn0_0 : n0_0 = p0_l.length) (hr0_0 : Rd W A0_0 n0_0 c0_0 (encL cI p0_l)) :
    Calls Tryz.prog 90 [.slice A0_0 n0_0 c0_0, .int .i64 p1_n].toArray W fun e W2 => e = .returned (.bool res) ∧ Ext W W2 [] := by
  subst hn0_0
  unfold calxref02_in at h
  refine calls_enter (m := 18) Tryz.func90 rfl rfl (Nat.le_of_ble_eq_true rfl) ?_
  refine cx_seq ?_
  refine cx_region ?_
  refine ox_y rfl (y_assign_bool rfl) ?_
  refine ox_nil ?_
  refine ex_then ?_
  refine cx_seq ?_
  refine cx_seq ?_
  refine cx_region ?_
  refine ox_y rfl (y_assign_int rfl) ?_
  refine ox_nil ?_
  refine ex_then ?_
  refine cx_block ?_
  obtain ⟨u3, hl7, h⟩ := bind_some h
  refine cx_loop (fun (s : (Bool × Int)) L tm => ∃ (tm0 : Nat → Value), L = [] ∧ tm = (upd (upd (upd (upd tm0 0 (.slice A0_0 p0_l.length c0_0)) 1 (.int .i64 p1_n)) 4 (.bool s.1)) 5 (.int .i64 s.2))) (fun | (.inl s), e, L, tm => e = .ret ∧ ∃ (tm0 : Nat → Value), L = [] ∧ tm = (upd (upd (upd (upd tm0 0 (.slice A0_0 p0_l.length c0_0)) 1 (.int .i64 p1_n)) 4 (.bool s.1)) 5 (.int .i64 s.2)) | (.inr s), e, L, tm => e = .exit 0 ∧ ∃ (tm0 : Nat → Value), L = [] ∧ tm = (upd (upd (upd (upd tm0 0 (.slice A0_0 p0_l.length c0_0)) 1 (.int .i64 p1_n)) 4 (.bool s.1)) 5 (.int .i64 s.2))) hl7 ⟨_, rfl, (keep (keep (keep (keep rfl rfl) rfl) rfl) rfl)⟩ ?_ ?_
  · rintro s2 L tm st ⟨tm0_s2, rfl, rfl⟩ h
    unfold calxref02_in_l1 at h
    refine cx_seq ?_
    refine cx_seq ?_
    refine cx_region ?_
    refine ox_y rfl (y_move_int rfl) ?_
    refine ox_y rfl (y_move_slice rfl) ?_
    refine ox_y rfl (y_len (us := []) us_39 rfl) ?_
    refine ox_y rfl (y_lss rfl rfl) ?_
    refine ox_nil ?_
    refine ex_then ?_
    rcases ite_some h with ⟨hp4, h⟩ | ⟨hp4, h⟩
    · refine cx_true (congrArg Value.bool hp4) ?_
      refine cx_skip ?_
      refine ex_then ?_
      refine cx_seq ?_
      refine cx_block ?_
      refine cx_seq ?_
      refine cx_region ?_
      refine ox_y rfl (y_move_slice rfl) ?_
      refine ox_y rfl (y_move_int rfl) ?_
      obtain ⟨hg5, h⟩ := guardO_some h
      refine ox_y rfl (y_indexR sl_39 (by decide) hg5.1 hg5.2 (RdL.arg hr0_0) (encL_len cI_len rfl) rfl rfl) ?_
      refine ox_y rfl (y_loadR1 (A := A0_0) (j := (Int.toNat s2.2 * 1)) (v := .int .i64 (rdL p0_l s2.2)) sc_3 (RdL.arg hr0_0) rfl (encL_get0 cI_len hg5.1 (lt_nat hg5.2 rfl) rfl)) ?_
      refine ox_y rfl (y_move_int rfl) ?_
      refine ox_y rfl (y_eql rfl rfl) ?_
      refine ox_nil ?_
      refine ex_then ?_
      rcases ite_some h with ⟨hp6, h⟩ | ⟨hp6, h⟩
      · refine cx_true (congrArg Value.bool hp6) ?_
        refine cx_seq ?_
        refine cx_region ?_
        refine ox_y rfl (y_assign_bool rfl) ?_
        refine ox_nil ?_
        refine ex_then ?_
        refine cx_ret ?_
        refine ex_block_ret ?_
        refine ex_then_ret ?_
        obtain rfl := Option.some.inj h
        exact ex_stop ⟨rfl, _, rfl, (keep (keep (keep (keep rfl rfl) rfl) rfl) rfl)⟩
      · refine cx_false (congrArg Value.bool hp6) ?_
        refine cx_skip ?_
        refine ex_block ?_
        refine ex_then ?_
        refine cx_region ?_
        refine ox_y rfl (y_move_int rfl) ?_
        refine ox_y rfl (y_add rfl rfl) ?_
        refine ox_y rfl (y_assign_int rfl) ?_
        refine ox_nil ?_
        obtain rfl := Option.some.inj h
        exact ex_next ⟨_, rfl, (keep (keep (keep (keep rfl rfl) rfl) rfl) rfl)⟩
    · refine cx_false (congrArg Value.bool hp4) ?_
      refine cx_exit ?_
      refine ex_then_exit ?_
      obtain rfl := Option.some.inj h
      exact ex_stop ⟨rfl, _, rfl, (keep (keep (keep (keep rfl rfl) rfl) rfl) rfl)⟩
  · intro e L tm hJ
    rcases u3 with u8 | u9
    · dsimp only at h hJ
      obtain ⟨rfl, tm0_u8, rfl, rfl⟩ := hJ
      refine ⟨(by intro hc; cases hc), ?_⟩
      refine ex_block_ret ?_
      refine ex_then_ret ?_
      obtain rfl := Option.some.inj h
      exact ex_res1 (.inl rfl) rfl (resV_tmp (v := .bool u8.1) rfl) (fun W2 hW2 => ⟨rfl, hW2.none⟩)
    · dsimp only at h hJ
      obtain ⟨rfl, tm0_u9, rfl, rfl⟩ := hJ
      refine ⟨(by intro hc; cases hc), ?_⟩
      refine ex_block_here ?_
      refine ex_then ?_
      refine cx_seq ?_
      refine cx_region ?_
      refine ox_y rfl (y_assign_bool rfl) ?_
      refine ox_nil ?_
      refine ex_then ?_
      refine cx_ret ?_
      obtain rfl := Option.some.inj h
      exact ex_res1 (.inl rfl) rfl (resV_tmp (v := .bool false) rfl) (fun W2 hW2 => ⟨rfl, hW2.none⟩)

/-! calx/calxref02.without -/
set_option maxRecDepth 100000 in
theorem calxref02_without_ok (p0_f : TFire) (p1_ids : (List Int)) (res : TFire) (h : calxref02_without p0_f p1_ids = some res) (W : World) (A0_4 : Option Addr) (n0_4 c0_4 : Nat) (hn0_4 : n0_4 = p0_f.fLooks.length) (hr0_4 : Rd W A0_4 n0_4 c0_4 (encL TLook_cells p0_f.fLooks)) (A1_0 : Option Addr) (n1_0 c1_0 : Nat) (hn1_0 : n1_0 = p1_ids.length) (hr1_0 : Rd W A1_0 n1_0 c1_0 (encL cI p1_ids)) :
    Calls Tryz.prog 46 [.agg #[.int .i64 p0_f.fRise, .int .i64 p0_f.fFall, .int .i64 p0_f.fUp, .int .i64 p0_f.fDown, .slice A0_4 n0_4 c0_4], .slice A1_0 n1_0 c1_0].toArray W fun e W2 => ∃ x : Option Addr × Nat × Nat, x.2.1 = res.fLooks.length ∧ e = .returned (.agg #[.int .i64 res.fRise, .int .i64 res.fFall, .int .i64 res.fUp, .int .i64 res.fDown, .slice x.1 x.2.1 x.2.2]) ∧ Ext W W2 [rowR x.1 x.2.2 49 5 x.2.1 (encL TLook_cells res.fLooks)] := by
  subst hn0_4
  subst hn1_0
  unfold calxref02_without at h
  refine calls_enter (m := 45) Tryz.func46 rfl rfl (Nat.le_of_ble_eq_true rfl) ?_
  refine cx_seq ?_
  refine cx_region ?_
  refine ox_box [.int .i64 p0_f.fRise, .int .i64 p0_f.fFall, .int .i64 p0_f.fUp, .int .i64 p0_f.fDown, .slice A0_4 p0_f.fLooks.length c0_4] rfl rfl rfl (fun b1 => ?_)
  refine ox_alloc ze_24 rfl (fun b2 => ?_)
  refine ox_nil ?_
  refine ex_then ?_
  refine cx_seq ?_
  refine cx_region ?_
  refine ox_y rfl (y_fieldAddr fo_24_0 rfl) ?_
  refine ox_y rfl (y_load1 0 (v := .int .i64 p0_f.fRise) sc_3 rfl rfl rfl) ?_
  refine ox_y rfl (y_fieldAddr fo_24_1 rfl) ?_
  refine ox_y rfl (y_load1 0 (v := .int .i64 p0_f.fFall) sc_3 rfl rfl rfl) ?_
  refine ox_y rfl (y_fieldAddr fo_24_2 rfl) ?_
  refine ox_y rfl (y_load1 0 (v := .int .i64 p0_f.fUp) sc_3 rfl rfl rfl) ?_
  refine ox_y rfl (y_fieldAddr fo_24_3 rfl) ?_
  refine ox_y rfl (y_load1 0 (v := .int .i64 p0_f.fDown) sc_3 rfl rfl rfl) ?_
  refine ox_y rfl (y_buildS [.int .i64 p0_f.fRise, .int .i64 p0_f.fFall, .int .i64 p0_f.fUp, .int .i64 p0_f.fDown, .slice none 0 0] [(0, 1), (1, 1), (2, 1), (3, 1), (4, 1)] ust_24 ze_24 (by kernel_rfl)) ?_
  refine ox_alloc ze_24 rfl (fun b3 => ?_)
  refine ox_n rfl (y_storeN 2 [.int .i64 p0_f.fRise, .int .i64 p0_f.fFall, .int .i64 p0_f.fUp, .int .i64 p0_f.fDown, .slice none 0 0] sz_24 rfl (Nat.le_of_ble_eq_true rfl) rfl rfl rfl) ?_
  refine ox_nil ?_
  refine ex_then ?_
  refine cx_seq ?_
  refine cx_seq ?_
  refine cx_region ?_
  refine ox_y rfl (y_assign_int rfl) ?_
  refine ox_nil ?_
  refine ex_then ?_
  refine cx_block ?_
  obtain ⟨u7, hl19, h⟩ := bind_some h
  refine cx_nilrow 49 5 ?_
  refine cx_nilrow 49 5 ?_
  refine cx_loop (fun (s : (Int × (List TLook))) L tm => ∃ (tm0 : Nat → Value) (A4_s : Option Addr) (c4_s : Nat) (n4_s : Nat), n4_s = s.2.length ∧ L = [cellsR b1 24 [.int .i64 p0_f.fRise, .int .i64 p0_f.fFall, .int .i64 p0_f.fUp, .int .i64 p0_f.fDown, .slice A0_4 p0_f.fLooks.length c0_4], cellsR b2 24 [.int .i64 0, .int .i64 0, .int .i64 0, .int .i64 0, .slice none 0 0], cellsR b3 24 [.int .i64 p0_f.fRise, .int .i64 p0_f.fFall, .int .i64 p0_f.fUp, .int .i64 p0_f.fDown, .slice A4_s n4_s c4_s], rowR none 0 49 5 0 (encL TLook_cells ([] : List TLook)), rowR A4_s c4_s 49 5 n4_s (encL TLook_cells s.2)] ∧ tm = (upd (upd (upd (upd (upd (upd tm0 0 (.agg #[.int .i64 p0_f.fRise, .int .i64 p0_f.fFall, .int .i64 p0_f.fUp, .int .i64 p0_f.fDown, .slice A0_4 p0_f.fLooks.length c0_4])) 1 (.slice A1_0 p1_ids.length c1_0)) 2 (.pointer (some ⟨b1, 0, none⟩))) 4 (.pointer (some ⟨b2, 0, none⟩))) 5 (.pointer (some ⟨b3, 0, none⟩))) 6 (.int .i64 s.1))) (fun s e L tm => e = .exit 0 ∧ ∃ (tm0 : Nat → Value) (A4_s : Option Addr) (c4_s : Nat) (n4_s : Nat), n4_s = s.2.length ∧ L = [cellsR b1 24 [.int .i64 p0_f.fRise, .int .i64 p0_f.fFall, .int .i64 p0_f.fUp, .int .i64 p0_f.fDown, .slice A0_4 p0_f.fLooks.length c0_4], cellsR b2 24 [.int .i64 0, .int .i64 0, .int .i64 0, .int .i64 0, .slice none 0 0], cellsR b3 24 [.int .i64 p0_f.fRise, .int .i64 p0_f.fFall, .int .i64 p0_f.fUp, .int .i64 p0_f.fDown, .slice A4_s n4_s c4_s], rowR none 0 49 5 0 (encL TLook_cells ([] : List TLook)), rowR A4_s c4_s 49 5 n4_s (encL TLook_cells s.2)] ∧ tm = (upd (upd (upd (upd (upd (upd tm0 0 (.agg #[.int .i64 p0_f.fRise, .int .i64 p0_f.fFall, .int .i64 p0_f.fUp, .int .i64 p0_f.fDown, .slice A0_4 p0_f.fLooks.length c0_4])) 1 (.slice A1_0 p1_ids.length c1_0)) 2 (.pointer (some ⟨b1, 0, none⟩))) 4 (.pointer (some ⟨b2, 0, none⟩))) 5 (.pointer (some ⟨b3, 0, none⟩))) 6 (.int .i64 s.1))) hl19 ⟨_, none, 0, 0, rfl, rfl, (keep (keep (keep (keep (keep (keep rfl rfl) rfl) rfl) rfl) rfl) rfl)⟩ ?_ ?_
  · rintro s6 L tm st ⟨tm0_s6, A4_s6, c4_s6, n4_s6, rfl, rfl, rfl⟩ h
    unfold calxref02_without_l1 at h
    refine cx_seq ?_
    refine cx_seq ?_
    refine cx_region ?_
    refine ox_y rfl (y_move_int rfl) ?_
    refine ox_y rfl (y_fieldAddr fo_24_4 rfl) ?_
    refine ox_y rfl (y_load1 0 (v := .slice A0_4 p0_f.fLooks.length c0_4) sc_22 rfl rfl rfl) ?_
    refine ox_y rfl (y_len (us := []) us_22 rfl) ?_
    refine ox_y rfl (y_lss rfl rfl) ?_
    refine ox_nil ?_
    refine ex_then ?_
    rcases ite_some h with ⟨hp8, h⟩ | ⟨hp8, h⟩
    · refine cx_true (congrArg Value.bool hp8) ?_
      refine cx_skip ?_
      refine ex_then ?_
      refine cx_seq ?_
      refine cx_block ?_
      refine cx_seq ?_
      refine cx_region ?_
      refine ox_y rfl (y_move_slice rfl) ?_
      refine ox_y rfl (y_fieldAddr fo_24_4 rfl) ?_
      refine ox_y rfl (y_load1 0 (v := .slice A0_4 p0_f.fLooks.length c0_4) sc_22 rfl rfl rfl) ?_
      refine ox_y rfl (y_move_int rfl) ?_
      obtain ⟨hg9, h⟩ := guardO_some h
      refine ox_y rfl (y_indexR sl_22 (by decide) hg9.1 hg9.2 (RdL.arg hr0_4) (encL_len TLook_cells_len rfl) rfl rfl) ?_
      refine ox_y rfl (y_fieldAddrR (A := A0_4) (j := (Int.toNat s6.1 * 5)) fo_49_0 rfl) ?_
      refine ox_y rfl (y_loadR1 (A := A0_4) (j := ((Int.toNat s6.1 * 5) + 0)) (v := .int .i64 ((rdL p0_f.fLooks s6.1).fID)) sc_3 (RdL.arg hr0_4) rfl (encL_get TLook_cells_len hg9.1 (lt_nat hg9.2 rfl) rfl)) ?_
      obtain ⟨y10, hy11, h⟩ := bind_some h
      refine ox_y rfl (y_call [.slice A1_0 p1_ids.length c1_0, .int .i64 ((rdL p0_f.fLooks s6.1).fID)] go_90 rfl (fun W2 hW2 => calxref02_in_ok p1_ids ((rdL p0_f.fLooks s6.1).fID) y10 hy11 W2 A1_0 p1_ids.length c1_0 rfl ((RdL.arg hr1_0) W2 hW2)) rfl) ?_
      refine ox_y rfl (y_assign_bool rfl) ?_
      refine ox_nil ?_
      refine ex_then ?_
      refine cx_seq ?_
      refine cx_region ?_
      refine ox_y rfl (y_move_bool rfl) ?_
      refine ox_y rfl (y_not rfl) ?_
      refine ox_nil ?_
      refine ex_then ?_
      rcases ite_some h with ⟨hp12, h⟩ | ⟨hp12, h⟩
      · refine cx_true (congrArg Value.bool hp12) ?_
        obtain ⟨hg14, h⟩ := guardO_some h
        obtain ⟨hg18, h⟩ := guardO_some h
        refine cx_drawsG [[], [0], [], [2], [], [2, 3, 4], [2, 3, 4, 5], [2, 3, 4, 5, 6], [0, 1, 2, 3, 4, 5, 6, 7], [0, 1, 2, 3, 4, 5, 6, 7, 8], [0, 1, 2, 3, 4, 5, 6, 7, 8, 9]] [(none, 0, [true, true, true, true, true]), (none, 0, [true, true, true, true, true]), (none, 0, [true, true, true, true, true]), (none, 0, [true, true, true, true, true]), (none, 0, [true, true, true, true, true]), (none, 0, [true, true, true, true, true]), (none, 0, [true, true, true, true, true]), (none, 1, [true, true, true, true, true]), (some 4, 0, [true, true, true, true, true, true]), (none, 0, [true, true, true, true, true, true]), (some 2, 0, [true, true, true, true, true, true])] [⟨fun _ => .pointer (some ⟨b3, 0 + 4, none⟩), fun _ => noR, fun _ => []⟩, ⟨fun _ => .slice A4_s6 s6.2.length c4_s6, fun _ => noR, fun _ => []⟩, ⟨fun _ => .pointer (some ⟨b1, 0 + 4, none⟩), fun _ => noR, fun _ => []⟩, ⟨fun _ => .slice A0_4 p0_f.fLooks.length c0_4, fun _ => noR, fun _ => []⟩, ⟨fun _ => .int .i64 s6.1, fun _ => noR, fun _ => []⟩, ⟨fun _ => slA A0_4 (Int.toNat s6.1 * 5), fun _ => noR, fun _ => []⟩, ⟨fun _ => .agg #[.int .i64 ((rdL p0_f.fLooks s6.1).fID), .int .i64 ((rdL p0_f.fLooks s6.1).fAt.fFoot), .int .i64 ((rdL p0_f.fLooks s6.1).fAt.fHour), .int .i64 ((rdL p0_f.fLooks s6.1).fHeat.fLo), .int .i64 ((rdL p0_f.fLooks s6.1).fHeat.fHi)], fun _ => noR, fun _ => []⟩, ⟨fun ξ13 => .slice (some ⟨(ξ13 7 0).2.1, 0, none⟩) 1 1, fun _ => noR, fun ξ13 => [rowR (some ⟨(ξ13 7 0).2.1, 0, none⟩) 1 49 5 1 (encL TLook_cells [(TLook.mk ((rdL p0_f.fLooks s6.1).fID) (TSpot.mk ((rdL p0_f.fLooks s6.1).fAt.fFoot) ((rdL p0_f.fLooks s6.1).fAt.fHour)) (TSpan.mk ((rdL p0_f.fLooks s6.1).fHeat.fLo) ((rdL p0_f.fLooks s6.1).fHeat.fHi)))])]⟩, ⟨fun ξ13 => .slice (ξ13 8 0).1 (s6.2.length + 1) (ξ13 8 0).2.2, fun ξ13 => rowR (ξ13 8 0).1 (ξ13 8 0).2.2 49 5 (s6.2.length + 1) (encL TLook_cells (s6.2 ++ [(TLook.mk ((rdL p0_f.fLooks s6.1).fID) (TSpot.mk ((rdL p0_f.fLooks s6.1).fAt.fFoot) ((rdL p0_f.fLooks s6.1).fAt.fHour)) (TSpan.mk ((rdL p0_f.fLooks s6.1).fHeat.fLo) ((rdL p0_f.fLooks s6.1).fHeat.fHi)))])), fun _ => []⟩, ⟨fun _ => .pointer (some ⟨b3, 0 + 4, none⟩), fun _ => noR, fun _ => []⟩, ⟨fun _ => undef, fun ξ13 => cellsR b3 24 [.int .i64 p0_f.fRise, .int .i64 p0_f.fFall, .int .i64 p0_f.fUp, .int .i64 p0_f.fDown, .slice (ξ13 8 0).1 (s6.2.length + 1) (ξ13 8 0).2.2], fun _ => []⟩] 5 mixed (by kernel_rfl) (by kernel_rfl) ⟨⟨fun ξ13 ξ13' h => ⟨rfl, rfl, rfl⟩, fun _ => rfl⟩, ⟨fun ξ13 ξ13' h => ⟨rfl, rfl, rfl⟩, fun _ => rfl⟩, ⟨fun ξ13 ξ13' h => ⟨rfl, rfl, rfl⟩, fun _ => rfl⟩, ⟨fun ξ13 ξ13' h => ⟨rfl, rfl, rfl⟩, fun _ => rfl⟩, ⟨fun ξ13 ξ13' h => ⟨rfl, rfl, rfl⟩, fun _ => rfl⟩, ⟨fun ξ13 ξ13' h => ⟨rfl, rfl, rfl⟩, fun _ => rfl⟩, ⟨fun ξ13 ξ13' h => ⟨rfl, rfl, rfl⟩, fun _ => rfl⟩, ⟨fun ξ13 ξ13' h => ⟨by simp only [h 7 (.inl rfl)], rfl, by simp only [h 7 (.inl rfl)]⟩, fun _ => rfl⟩, ⟨fun ξ13 ξ13' h => ⟨by simp only [h 8 (.inl rfl)], by simp only [h 8 (.inl rfl)], rfl⟩, fun _ => rfl⟩, ⟨fun ξ13 ξ13' h => ⟨rfl, rfl, rfl⟩, fun _ => rfl⟩, ⟨fun ξ13 ξ13' h => ⟨rfl, by simp only [h 8 (.inr rfl)], rfl⟩, fun _ => rfl⟩, trivial⟩ rfl (fun ξ13 => ?_)
        refine gx_o rfl (fun L2 => ?_) ?_
        · dsimp only [maskL, List.cons_append, List.nil_append]
          refine ox_y rfl (y_fieldAddr fo_24_4 rfl) ?_
          refine ox_nil ?_
          exact ex_capG (fun _ => (none, 0, 0)) rfl (List.append_nil _)
        dsimp only [aftL, List.set_cons_zero, List.set_cons_succ, List.nil_append, List.cons_append, List.append_nil]
        refine gx_o rfl (fun L2 => ?_) ?_
        · dsimp only [maskL, List.cons_append, List.nil_append]
          refine ox_y rfl (y_load1 2 (v := .slice A4_s6 s6.2.length c4_s6) sc_22 rfl rfl rfl) ?_
          refine ox_nil ?_
          exact ex_capG (fun _ => (none, 0, 0)) rfl (List.append_nil _)
        dsimp only [aftL, List.set_cons_zero, List.set_cons_succ, List.nil_append, List.cons_append, List.append_nil]
        refine gx_o rfl (fun L2 => ?_) ?_
        · dsimp only [maskL, List.cons_append, List.nil_append]
          refine ox_y rfl (y_fieldAddr fo_24_4 rfl) ?_
          refine ox_nil ?_
          exact ex_capG (fun _ => (none, 0, 0)) rfl (List.append_nil _)
        dsimp only [aftL, List.set_cons_zero, List.set_cons_succ, List.nil_append, List.cons_append, List.append_nil]
        refine gx_o rfl (fun L2 => ?_) ?_
        · dsimp only [maskL, List.cons_append, List.nil_append]
          refine ox_y rfl (y_load1 0 (v := .slice A0_4 p0_f.fLooks.length c0_4) sc_22 rfl rfl rfl) ?_
          refine ox_nil ?_
          exact ex_capG (fun _ => (none, 0, 0)) rfl (List.append_nil _)
        dsimp only [aftL, List.set_cons_zero, List.set_cons_succ, List.nil_append, List.cons_append, List.append_nil]
        refine gx_o rfl (fun L2 => ?_) ?_
        · dsimp only [maskL, List.cons_append, List.nil_append]
          refine ox_y rfl (y_move_int rfl) ?_
          refine ox_nil ?_
          exact ex_capG (fun _ => (none, 0, 0)) rfl (List.append_nil _)
        dsimp only [aftL, List.set_cons_zero, List.set_cons_succ, List.nil_append, List.cons_append, List.append_nil]
        refine gx_o rfl (fun L2 => ?_) ?_
        · dsimp only [maskL, List.cons_append, List.nil_append]
          refine ox_y rfl (y_indexR sl_22 (by decide) hg14.1 hg14.2 (RdL.arg hr0_4) (encL_len TLook_cells_len rfl) rfl rfl) ?_
          refine ox_nil ?_
          exact ex_capG (fun _ => (none, 0, 0)) rfl (List.append_nil _)
        dsimp only [aftL, List.set_cons_zero, List.set_cons_succ, List.nil_append, List.cons_append, List.append_nil]
        refine gx_o rfl (fun L2 => ?_) ?_
        · dsimp only [maskL, List.cons_append, List.nil_append]
          refine ox_y rfl (y_loadRN (A := A0_4) (j := (Int.toNat s6.1 * 5)) [.int .i64 ((rdL p0_f.fLooks s6.1).fID), .int .i64 ((rdL p0_f.fLooks s6.1).fAt.fFoot), .int .i64 ((rdL p0_f.fLooks s6.1).fAt.fHour), .int .i64 ((rdL p0_f.fLooks s6.1).fHeat.fLo), .int .i64 ((rdL p0_f.fLooks s6.1).fHeat.fHi)] ag_49 (Nat.succ_pos _) (RdL.arg hr0_4) rfl (encL_gets TLook_cells_len hg14.1 (lt_nat hg14.2 rfl))) ?_
          refine ox_nil ?_
          exact ex_capG (fun _ => (none, 0, 0)) rfl (List.append_nil _)
        dsimp only [aftL, List.set_cons_zero, List.set_cons_succ, List.nil_append, List.cons_append, List.append_nil]
        refine gx_o rfl (fun L2 => ?_) ?_
        · dsimp only [maskL, List.cons_append, List.nil_append]
          refine ox_buildSliceE 1 (encL TLook_cells [(TLook.mk ((rdL p0_f.fLooks s6.1).fID) (TSpot.mk ((rdL p0_f.fLooks s6.1).fAt.fFoot) ((rdL p0_f.fLooks s6.1).fAt.fHour)) (TSpan.mk ((rdL p0_f.fLooks s6.1).fHeat.fLo) ((rdL p0_f.fLooks s6.1).fHeat.fHi)))]) _ mc_49_1 us_22 ze_49 by_49 (by decide) (by decide) (by kernel_rfl) (encL_len TLook_cells_len rfl) rfl (fun b15 => ?_)
          refine ox_nil ?_
          exact ex_capG (fun _ => (none, b15, 0)) rfl rfl
        dsimp only [aftL, List.set_cons_zero, List.set_cons_succ, List.nil_append, List.cons_append, List.append_nil]
        refine gx_o rfl (fun L2 => ?_) ?_
        · dsimp only [maskL, List.cons_append, List.nil_append]
          refine ox_append0 4 us_22 ze_49 by_49 rfl rfl rfl (RdL.row 5 rfl) (encL_len TLook_cells_len rfl) (encL_one TLook_cells_one _) (app_room hg18 (by decide)) rfl (fun A16 c17 => ?_)
          refine ox_nil ?_
          exact ex_capG (fun _ => (A16, 0, c17)) rfl (List.append_nil _)
        dsimp only [aftL, List.set_cons_zero, List.set_cons_succ, List.nil_append, List.cons_append, List.append_nil]
        refine gx_o rfl (fun L2 => ?_) ?_
        · dsimp only [maskL, List.cons_append, List.nil_append]
          refine ox_y rfl (y_fieldAddr fo_24_4 rfl) ?_
          refine ox_nil ?_
          exact ex_capG (fun _ => (none, 0, 0)) rfl (List.append_nil _)
        dsimp only [aftL, List.set_cons_zero, List.set_cons_succ, List.nil_append, List.cons_append, List.append_nil]
        refine gx_n rfl (fun L2 => ?_) ?_
        · dsimp only [maskL, List.cons_append, List.nil_append]
          refine ox_n rfl (y_store1 2 (v := .slice (ξ13 8 0).1 (s6.2.length + 1) (ξ13 8 0).2.2) sz_22 rfl (Nat.lt_of_lt_of_le (Nat.lt_succ_self _) (Nat.le_of_ble_eq_true rfl)) rfl rfl rfl) ?_
          refine ox_nil ?_
          exact ex_capGn (fun _ => (none, 0, 0)) (List.append_nil _)
        dsimp only [aftL, List.set_cons_zero, List.set_cons_succ, List.nil_append, List.cons_append, List.append_nil]
        refine gx_nil ?_
        refine ex_block ?_
        refine ex_then ?_
        refine cx_region ?_
        try dsimp only [List.nil_append, List.cons_append, List.set_cons_zero, List.set_cons_succ]
        refine ox_y rfl (y_move_int rfl) ?_
        refine ox_y rfl (y_add rfl rfl) ?_
        refine ox_y rfl (y_assign_int rfl) ?_
        refine ox_nil ?_
        refine ex_take 5 ?_
        obtain rfl := Option.some.inj h
        exact ex_next ⟨_, (ξ13 8 0).1, (ξ13 8 0).2.2, (s6.2.length + 1), (hn_app rfl rfl), rfl, (keep (keep (keep (keep (keep (keep rfl rfl) rfl) rfl) rfl) rfl) rfl)⟩
      · refine cx_false (congrArg Value.bool hp12) ?_
        refine cx_skip ?_
        refine ex_block ?_
        refine ex_then ?_
        refine cx_region ?_
        refine ox_y rfl (y_move_int rfl) ?_
        refine ox_y rfl (y_add rfl rfl) ?_
        refine ox_y rfl (y_assign_int rfl) ?_
        refine ox_nil ?_
        obtain rfl := Option.some.inj h
        exact ex_next ⟨_, A4_s6, c4_s6, s6.2.length, rfl, rfl, (keep (keep (keep (keep (keep (keep rfl rfl) rfl) rfl) rfl) rfl) rfl)⟩
    · refine cx_false (congrArg Value.bool hp8) ?_
      refine cx_exit ?_
      refine ex_then_exit ?_
      obtain rfl := Option.some.inj h
      exact ex_stop ⟨rfl, _, A4_s6, c4_s6, s6.2.length, rfl, rfl, (keep (keep (keep (keep (keep (keep rfl rfl) rfl) rfl) rfl) rfl) rfl)⟩
  · intro e L tm hJ
    obtain ⟨rfl, tm0_u7, A4_u7, c4_u7, n4_u7, rfl, rfl, rfl⟩ := hJ
    refine ⟨(by intro hc; cases hc), ?_⟩
    refine ex_block_here ?_
    refine ex_then ?_
    refine cx_seq ?_
    refine cx_region ?_
    refine ox_y rfl (y_loadN 2 [.int .i64 p0_f.fRise, .int .i64 p0_f.fFall, .int .i64 p0_f.fUp, .int .i64 p0_f.fDown, .slice A4_u7 u7.2.length c4_u7] ag_24 rfl rfl rfl) ?_
    refine ox_n rfl (y_storeN 1 [.int .i64 p0_f.fRise, .int .i64 p0_f.fFall, .int .i64 p0_f.fUp, .int .i64 p0_f.fDown, .slice A4_u7 u7.2.length c4_u7] sz_24 rfl (Nat.le_of_ble_eq_true rfl) rfl rfl rfl) ?_
    refine ox_nil ?_
    refine ex_then ?_
    refine cx_ret ?_
    obtain rfl := Option.some.inj h
    exact ex_res1 (.inl rfl) rfl (resV_cellN 1 [.int .i64 p0_f.fRise, .int .i64 p0_f.fFall, .int .i64 p0_f.fUp, .int .i64 p0_f.fDown, .slice A4_u7 u7.2.length c4_u7] ag_24 rfl rfl rfl) (fun W2 hW2 => ⟨(A4_u7, u7.2.length, c4_u7), rfl, rfl, (hW2.pick 4 rfl)⟩)

/-! calx/calxref02.put -/
set_option maxRecDepth 100000 in
theorem calxref02_put_ok (p0_l : (List Int)) (p1_n : Int) (res : (List Int)) (h : calxref02_put p0_l p1_n = some res) (W : World) (A0_0 : Option Addr) (n0_0 c0_0 : Nat) (hn0_0 : n0_0 = p0_l.length) (hr0_0 : Rd W A0_0 n0_0 c0_0 (encL cI p0_l)) :
    Calls Tryz.prog 47 [.slice A0_0 n0_0 c0_0, .int .i64 p1_n].toArray W fun e W2 => ∃ x : Option Addr × Nat × Nat, x.2.1 = res.length ∧ e = .returned (.slice x.1 x.2.1 x.2.2) ∧ Ext W W2 [rowR x.1 x.2.2 3 1 x.2.1 (encL cI res)] := by
  subst hn0_0
  unfold calxref02_put at h
  refine calls_enter (m := 32) Tryz.func47 rfl rfl (Nat.le_of_ble_eq_true rfl) ?_
  refine cx_seq ?_
  refine cx_region ?_
  refine ox_y rfl (y_assign_slice rfl) ?_
  refine ox_nil ?_
  refine ex_then ?_
  refine cx_seq ?_
  refine cx_region ?_
  refine ox_y rfl (y_assign_int rfl) ?_
  refine ox_nil ?_
  refine ex_then ?_
  refine cx_seq ?_
  refine cx_block ?_
  obtain ⟨u3, hl9, h⟩ := bind_some h
  refine cx_loop (fun (s : Int) L tm => ∃ (tm0 : Nat → Value), L = [] ∧ tm = (upd (upd (upd (upd tm0 0 (.slice A0_0 p0_l.length c0_0)) 1 (.int .i64 p1_n)) 4 (.slice none 0 0)) 5 (.int .i64 s))) (fun s e L tm => e = .exit 0 ∧ ∃ (tm0 : Nat → Value), L = [] ∧ tm = (upd (upd (upd (upd tm0 0 (.slice A0_0 p0_l.length c0_0)) 1 (.int .i64 p1_n)) 4 (.slice none 0 0)) 5 (.int .i64 s))) hl9 ⟨_, rfl, (keep (keep (keep (keep rfl rfl) rfl) rfl) rfl)⟩ ?_ ?_
  · rintro s2 L tm st ⟨tm0_s2, rfl, rfl⟩ h
    unfold calxref02_put_l1 at h
    refine cx_seq ?_
    refine cx_seq ?_
    refine cx_region ?_
    refine ox_y rfl (y_move_int rfl) ?_
    refine ox_y rfl (y_move_slice rfl) ?_
    refine ox_y rfl (y_len (us := []) us_39 rfl) ?_
    refine ox_y rfl (y_lss rfl rfl) ?_
    refine ox_y rfl (y_move_bool rfl) ?_
    obtain ⟨b5, hb6, h⟩ := bind_some h
    refine ox_join 7 (fun tm0 => (upd (upd (upd (upd (upd tm0 0 (.slice A0_0 p0_l.length c0_0)) 1 (.int .i64 p1_n)) 4 (.slice none 0 0)) 5 (.int .i64 s2)) 17 (.bool b5))) (fun tm0 => ?_) (fun key => ?_)
    · refine ox_nil ?_
      refine ex_then ?_
      rcases ite_some h with ⟨hp7, h⟩ | ⟨hp7, h⟩
      · refine cx_true (congrArg Value.bool hp7) ?_
        refine cx_skip ?_
        refine ex_then ?_
        refine cx_block ?_
        refine cx_region ?_
        refine ox_y rfl (y_move_int rfl) ?_
        refine ox_y rfl (y_add rfl rfl) ?_
        refine ox_y rfl (y_assign_int rfl) ?_
        refine ox_nil ?_
        refine ex_block ?_
        obtain rfl := Option.some.inj h
        exact ex_next ⟨_, rfl, (keep (keep (keep (keep rfl rfl) rfl) rfl) rfl)⟩
      · refine cx_false (congrArg Value.bool hp7) ?_
        refine cx_exit ?_
        refine ex_then_exit ?_
        obtain rfl := Option.some.inj h
        exact ex_stop ⟨rfl, _, rfl, (keep (keep (keep (keep rfl rfl) rfl) rfl) rfl)⟩
    · clear h; rcases ite_some hb6 with ⟨hp4, h⟩ | ⟨hp4, h⟩
      · refine ox_y (sees_t rfl rfl rfl rfl hp4) (y_move_slice rfl) ?_
        refine ox_y (sees_t rfl rfl rfl rfl hp4) (y_move_int rfl) ?_
        obtain ⟨hg8, h⟩ := guardO_some h
        refine ox_y (sees_t rfl rfl rfl rfl hp4) (y_indexR sl_39 (by decide) hg8.1 hg8.2 (RdL.arg hr0_0) (encL_len cI_len rfl) rfl rfl) ?_
        refine ox_y (sees_t rfl rfl rfl rfl hp4) (y_loadR1 (A := A0_0) (j := (Int.toNat s2 * 1)) (v := .int .i64 (rdL p0_l s2)) sc_3 (RdL.arg hr0_0) rfl (encL_get0 cI_len hg8.1 (lt_nat hg8.2 rfl) rfl)) ?_
        refine ox_y (sees_t rfl rfl rfl rfl hp4) (y_move_int rfl) ?_
        refine ox_y (sees_t rfl rfl rfl rfl hp4) (y_lss rfl rfl) ?_
        refine ox_y rfl (y_pick_tb (congrArg Value.bool hp4) rfl) ?_
        obtain rfl := Option.some.inj h
        exact key _ _ (keep (keep (keep (keep (keep rfl rfl) rfl) rfl) rfl) rfl)
      · refine ox_skip (sees_f rfl rfl rfl rfl hp4) ?_
        refine ox_skip (sees_f rfl rfl rfl rfl hp4) ?_
        refine ox_skip (sees_f rfl rfl rfl rfl hp4) ?_
        refine ox_skip (sees_f rfl rfl rfl rfl hp4) ?_
        refine ox_skip (sees_f rfl rfl rfl rfl hp4) ?_
        refine ox_skip (sees_f rfl rfl rfl rfl hp4) ?_
        refine ox_y rfl (y_pick_fb (congrArg Value.bool hp4) rfl) ?_
        obtain rfl := Option.some.inj h
        exact key _ _ (keep (keep (keep (keep (keep rfl rfl) rfl) rfl) rfl) rfl)
  · intro e L tm hJ
    obtain ⟨rfl, tm0_u3, rfl, rfl⟩ := hJ
    refine ⟨(by intro hc; cases hc), ?_⟩
    refine ex_block_here ?_
    refine ex_then ?_
    refine cx_seq ?_
    obtain ⟨hg12, h⟩ := guardO_some h
    obtain ⟨hg15, h⟩ := guardO_some h
    obtain ⟨hg19, h⟩ := guardO_some h
    obtain ⟨hg20, h⟩ := guardO_some h
    obtain ⟨hg23, h⟩ := guardO_some h
    refine cx_drawsG [[], [], [], [1, 2], [0, 1, 2, 3], [], [5], [0, 1, 2, 3, 4, 5, 6], [], [], [8, 9], [0, 1, 2, 3, 4, 5, 6, 7, 8, 9, 10], [0, 1, 2, 3, 4, 5, 6, 7, 8, 9, 10, 11]] [(none, 1, []), (none, 0, [false]), (none, 0, [false]), (none, 0, [false]), (some 0, 0, [true]), (none, 0, [false]), (none, 1, [false]), (some 0, 0, [true, true]), (none, 0, [false, false]), (none, 0, [false, false]), (none, 0, [false, false]), (some 0, 0, [true, true]), (none, 0, [true, true])] [⟨fun ξ10 => .slice (some ⟨(ξ10 0 0).2.1, 0, none⟩) 0 0, fun _ => noR, fun ξ10 => [rowR (some ⟨(ξ10 0 0).2.1, 0, none⟩) 0 3 1 0 (encL cI ([] : List Int))]⟩, ⟨fun _ => .slice A0_0 p0_l.length c0_0, fun _ => noR, fun _ => []⟩, ⟨fun _ => .int .i64 u3, fun _ => noR, fun _ => []⟩, ⟨fun _ => .slice A0_0 (Int.toNat u3) c0_0, fun _ => noR, fun _ => []⟩, ⟨fun ξ10 => .slice (ξ10 4 0).1 (0 + (Int.toNat u3)) (ξ10 4 0).2.2, fun ξ10 => rowR (ξ10 4 0).1 (ξ10 4 0).2.2 3 1 (0 + (Int.toNat u3)) (encL cI (([] : List Int) ++ (p0_l.take (Int.toNat u3)))), fun _ => []⟩, ⟨fun _ => .int .i64 p1_n, fun _ => noR, fun _ => []⟩, ⟨fun ξ10 => .slice (some ⟨(ξ10 6 0).2.1, 0, none⟩) 1 1, fun _ => noR, fun ξ10 => [rowR (some ⟨(ξ10 6 0).2.1, 0, none⟩) 1 3 1 1 (encL cI [p1_n])]⟩, ⟨fun ξ10 => .slice (ξ10 7 0).1 ((0 + (Int.toNat u3)) + 1) (ξ10 7 0).2.2, fun ξ10 => rowR (ξ10 7 0).1 (ξ10 7 0).2.2 3 1 ((0 + (Int.toNat u3)) + 1) (encL cI ((([] : List Int) ++ (p0_l.take (Int.toNat u3))) ++ [p1_n])), fun _ => []⟩, ⟨fun _ => .slice A0_0 p0_l.length c0_0, fun _ => noR, fun _ => []⟩, ⟨fun _ => .int .i64 u3, fun _ => noR, fun _ => []⟩, ⟨fun _ => .slice (if c0_0 = Int.toNat u3 then A0_0 else Option.map (fun x => x.add (Int.toNat u3 * 1)) A0_0) (p0_l.length - Int.toNat u3) (c0_0 - Int.toNat u3), fun _ => noR, fun _ => []⟩, ⟨fun ξ10 => .slice (ξ10 11 0).1 (((0 + (Int.toNat u3)) + 1) + (p0_l.length - Int.toNat u3)) (ξ10 11 0).2.2, fun ξ10 => rowR (ξ10 11 0).1 (ξ10 11 0).2.2 3 1 (((0 + (Int.toNat u3)) + 1) + (p0_l.length - Int.toNat u3)) (encL cI (((([] : List Int) ++ (p0_l.take (Int.toNat u3))) ++ [p1_n]) ++ (p0_l.drop (Int.toNat u3)))), fun _ => []⟩, ⟨fun ξ10 => .slice (ξ10 11 0).1 (((0 + (Int.toNat u3)) + 1) + (p0_l.length - Int.toNat u3)) (ξ10 11 0).2.2, fun _ => noR, fun _ => []⟩] 0 mixed (by kernel_rfl) (by kernel_rfl) ⟨⟨fun ξ10 ξ10' h => ⟨by simp only [h 0 (.inl rfl)], rfl, by simp only [h 0 (.inl rfl)]⟩, fun _ => rfl⟩, ⟨fun ξ10 ξ10' h => ⟨rfl, rfl, rfl⟩, fun _ => rfl⟩, ⟨fun ξ10 ξ10' h => ⟨rfl, rfl, rfl⟩, fun _ => rfl⟩, ⟨fun ξ10 ξ10' h => ⟨rfl, rfl, rfl⟩, fun _ => rfl⟩, ⟨fun ξ10 ξ10' h => ⟨by simp only [h 4 (.inl rfl)], by simp only [h 4 (.inl rfl)], rfl⟩, fun _ => rfl⟩, ⟨fun ξ10 ξ10' h => ⟨rfl, rfl, rfl⟩, fun _ => rfl⟩, ⟨fun ξ10 ξ10' h => ⟨by simp only [h 6 (.inl rfl)], rfl, by simp only [h 6 (.inl rfl)]⟩, fun _ => rfl⟩, ⟨fun ξ10 ξ10' h => ⟨by simp only [h 7 (.inl rfl)], by simp only [h 7 (.inl rfl)], rfl⟩, fun _ => rfl⟩, ⟨fun ξ10 ξ10' h => ⟨rfl, rfl, rfl⟩, fun _ => rfl⟩, ⟨fun ξ10 ξ10' h => ⟨rfl, rfl, rfl⟩, fun _ => rfl⟩, ⟨fun ξ10 ξ10' h => ⟨rfl, rfl, rfl⟩, fun _ => rfl⟩, ⟨fun ξ10 ξ10' h => ⟨by simp only [h 11 (.inl rfl)], by simp only [h 11 (.inl rfl)], rfl⟩, fun _ => rfl⟩, ⟨fun ξ10 ξ10' h => ⟨by simp only [h 11 (.inr rfl)], rfl, rfl⟩, fun _ => rfl⟩, trivial⟩ rfl (fun ξ10 => ?_)
    refine gx_o rfl (fun L2 => ?_) ?_
    · dsimp only [maskL, List.cons_append, List.nil_append]
      refine ox_buildSlice0 cI us_39 ze_3 by_3 rfl (fun b11 => ?_)
      refine ox_nil ?_
      exact ex_capG (fun _ => (none, b11, 0)) rfl rfl
    dsimp only [aftL, List.set_cons_zero, List.set_cons_succ, List.nil_append, List.cons_append, List.append_nil]
    refine gx_o rfl (fun L2 => ?_) ?_
    · dsimp only [maskL, List.cons_append, List.nil_append]
      refine ox_y rfl (y_move_slice rfl) ?_
      refine ox_nil ?_
      exact ex_capG (fun _ => (none, 0, 0)) rfl (List.append_nil _)
    dsimp only [aftL, List.set_cons_zero, List.set_cons_succ, List.nil_append, List.cons_append, List.append_nil]
    refine gx_o rfl (fun L2 => ?_) ?_
    · dsimp only [maskL, List.cons_append, List.nil_append]
      refine ox_y rfl (y_move_int rfl) ?_
      refine ox_nil ?_
      exact ex_capG (fun _ => (none, 0, 0)) rfl (List.append_nil _)
    dsimp only [aftL, List.set_cons_zero, List.set_cons_succ, List.nil_append, List.cons_append, List.append_nil]
    refine gx_o rfl (fun L2 => ?_) ?_
    · dsimp only [maskL, List.cons_append, List.nil_append]
      refine ox_y rfl (y_cutH sl_39 hg12.1 hg12.2 (RdL.arg hr0_0) rfl rfl) ?_
      refine ox_nil ?_
      exact ex_capG (fun _ => (none, 0, 0)) rfl (List.append_nil _)
    dsimp only [aftL, List.set_cons_zero, List.set_cons_succ, List.nil_append, List.cons_append, List.append_nil]
    refine gx_o rfl (fun L2 => ?_) ?_
    · dsimp only [maskL, List.cons_append, List.nil_append]
      refine ox_append0 0 us_39 ze_3 by_3 rfl rfl rfl (RdL.cutH cI_len (RdL.arg hr0_0) hg12.1 hg12.2) (encL_len cI_len (cutH_len hg12.2 rfl)) (encL_one cI_one _) (app_room hg15 (by decide)) rfl (fun A13 c14 => ?_)
      refine ox_nil ?_
      exact ex_capG (fun _ => (A13, 0, c14)) rfl (List.append_nil _)
    dsimp only [aftL, List.set_cons_zero, List.set_cons_succ, List.nil_append, List.cons_append, List.append_nil]
    refine gx_o rfl (fun L2 => ?_) ?_
    · dsimp only [maskL, List.cons_append, List.nil_append]
      refine ox_y rfl (y_move_int rfl) ?_
      refine ox_nil ?_
      exact ex_capG (fun _ => (none, 0, 0)) rfl (List.append_nil _)
    dsimp only [aftL, List.set_cons_zero, List.set_cons_succ, List.nil_append, List.cons_append, List.append_nil]
    refine gx_o rfl (fun L2 => ?_) ?_
    · dsimp only [maskL, List.cons_append, List.nil_append]
      refine ox_buildSliceE 1 (encL cI [p1_n]) _ mc_3_1 us_39 ze_3 by_3 (by decide) (by decide) (by kernel_rfl) (encL_len cI_len rfl) rfl (fun b16 => ?_)
      refine ox_nil ?_
      exact ex_capG (fun _ => (none, b16, 0)) rfl rfl
    dsimp only [aftL, List.set_cons_zero, List.set_cons_succ, List.nil_append, List.cons_append, List.append_nil]
    refine gx_o rfl (fun L2 => ?_) ?_
    · dsimp only [maskL, List.cons_append, List.nil_append]
      refine ox_append0 0 us_39 ze_3 by_3 rfl rfl rfl (RdL.row 1 rfl) (encL_len cI_len rfl) (encL_one cI_one _) (app_room hg19 (by decide)) rfl (fun A17 c18 => ?_)
      refine ox_nil ?_
      exact ex_capG (fun _ => (A17, 0, c18)) rfl (List.append_nil _)
    dsimp only [aftL, List.set_cons_zero, List.set_cons_succ, List.nil_append, List.cons_append, List.append_nil]
    refine gx_o rfl (fun L2 => ?_) ?_
    · dsimp only [maskL, List.cons_append, List.nil_append]
      refine ox_y rfl (y_move_slice rfl) ?_
      refine ox_nil ?_
      exact ex_capG (fun _ => (none, 0, 0)) rfl (List.append_nil _)
    dsimp only [aftL, List.set_cons_zero, List.set_cons_succ, List.nil_append, List.cons_append, List.append_nil]
    refine gx_o rfl (fun L2 => ?_) ?_
    · dsimp only [maskL, List.cons_append, List.nil_append]
      refine ox_y rfl (y_move_int rfl) ?_
      refine ox_nil ?_
      exact ex_capG (fun _ => (none, 0, 0)) rfl (List.append_nil _)
    dsimp only [aftL, List.set_cons_zero, List.set_cons_succ, List.nil_append, List.cons_append, List.append_nil]
    refine gx_o rfl (fun L2 => ?_) ?_
    · dsimp only [maskL, List.cons_append, List.nil_append]
      refine ox_y rfl (y_cutL sl_39 hg20.1 hg20.2 (RdL.arg hr0_0) rfl rfl) ?_
      refine ox_nil ?_
      exact ex_capG (fun _ => (none, 0, 0)) rfl (List.append_nil _)
    dsimp only [aftL, List.set_cons_zero, List.set_cons_succ, List.nil_append, List.cons_append, List.append_nil]
    refine gx_o rfl (fun L2 => ?_) ?_
    · dsimp only [maskL, List.cons_append, List.nil_append]
      refine ox_append0 0 us_39 ze_3 by_3 rfl rfl rfl (RdL.cutL cI_len (RdL.arg hr0_0) hg20.1 hg20.2 rfl) (encL_len cI_len (cutL_len rfl)) (encL_one cI_one _) (app_room hg23 (by decide)) rfl (fun A21 c22 => ?_)
      refine ox_nil ?_
      exact ex_capG (fun _ => (A21, 0, c22)) rfl (List.append_nil _)
    dsimp only [aftL, List.set_cons_zero, List.set_cons_succ, List.nil_append, List.cons_append, List.append_nil]
    refine gx_o rfl (fun L2 => ?_) ?_
    · dsimp only [maskL, List.cons_append, List.nil_append]
      refine ox_y rfl (y_assign_slice rfl) ?_
      refine ox_nil ?_
      exact ex_capG (fun _ => (none, 0, 0)) rfl (List.append_nil _)
    dsimp only [aftL, List.set_cons_zero, List.set_cons_succ, List.nil_append, List.cons_append, List.append_nil]
    refine gx_nil ?_
    refine ex_then ?_
    refine cx_ret ?_
    obtain rfl := Option.some.inj h
    exact ex_res1 (.inl rfl) rfl (resV_tmp (v := .slice (ξ10 11 0).1 (((0 + (Int.toNat u3)) + 1) + (p0_l.length - Int.toNat u3)) (ξ10 11 0).2.2) rfl) (fun W2 hW2 => ⟨((ξ10 11 0).1, (((0 + (Int.toNat u3)) + 1) + (p0_l.length - Int.toNat u3)), (ξ10 11 0).2.2), (hn_app (hn_app (hn_app rfl (cutH_len hg12.2 rfl)) rfl) (cutL_len rfl)), rfl, (hW2.pick 0 rfl)⟩)

/-! calx/calxref02.Rests -/
set_option maxRecDepth 100000 in
theorem calxref02_Rests_ok (p0_f : TFire) (p1_at : TSpot) (res : TInts) (h : calxref02_Rests p0_f p1_at = some res) (W : World) (A0_4 : Option Addr) (n0_4 c0_4 : Nat) (hn0_4 : n0_4 = p0_f.fLooks.length) (hr0_4 : Rd W A0_4 n0_4 c0_4 (encL TLook_cells p0_f.fLooks)) :
    Calls Tryz.prog 11 [.agg #[.int .i64 p0_f.fRise, .int .i64 p0_f.fFall, .int .i64 p0_f.fUp, .int .i64 p0_f.fDown, .slice A0_4 n0_4 c0_4], .agg #[.int .i64 p1_at.fFoot, .int .i64 p1_at.fHour]].toArray W fun e W2 => ∃ x : Option Addr × Nat × Nat, x.2.1 = res.fL.length ∧ e = .returned (.agg #[.slice x.1 x.2.1 x.2.2, .int .i64 res.fE]) ∧ Ext W W2 [rowR x.1 x.2.2 3 1 x.2.1 (encL cI res.fL)] := by
  subst hn0_4
  unfold calxref02_Rests at h
  refine calls_enter (m := 48) Tryz.func11 rfl rfl (Nat.le_of_ble_eq_true rfl) ?_
  refine cx_seq ?_
  refine cx_region ?_
  refine ox_box [.int .i64 p0_f.fRise, .int .i64 p0_f.fFall, .int .i64 p0_f.fUp, .int .i64 p0_f.fDown, .slice A0_4 p0_f.fLooks.length c0_4] rfl rfl rfl (fun b1 => ?_)
  refine ox_box [.int .i64 p1_at.fFoot, .int .i64 p1_at.fHour] rfl rfl rfl (fun b2 => ?_)
  refine ox_alloc ze_43 rfl (fun b3 => ?_)
  refine ox_nil ?_
  refine ex_then ?_
  refine cx_seq ?_
  refine cx_region ?_
  refine ox_y rfl (y_loadN 0 [.int .i64 p0_f.fRise, .int .i64 p0_f.fFall, .int .i64 p0_f.fUp, .int .i64 p0_f.fDown, .slice A0_4 p0_f.fLooks.length c0_4] ag_24 rfl rfl rfl) ?_
  refine ox_y rfl (y_loadN 1 [.int .i64 p1_at.fFoot, .int .i64 p1_at.fHour] ag_26 rfl rfl rfl) ?_
  refine ox_buildSliceE 1 (encL TSpot_cells [p1_at]) _ mc_26_1 us_50 ze_26 by_26 (by decide) (by decide) (by kernel_rfl) (encL_len TSpot_cells_len rfl) rfl (fun b4 => ?_)
  obtain ⟨y5, hy6, h⟩ := bind_some h
  refine ox_y rfl (y_call [.agg #[.int .i64 p0_f.fRise, .int .i64 p0_f.fFall, .int .i64 p0_f.fUp, .int .i64 p0_f.fDown, .slice A0_4 p0_f.fLooks.length c0_4], .slice (some ⟨b4, 0, none⟩) 1 1] go_40 rfl (fun W2 hW2 => calxref02_asked_ok p0_f [p1_at] y5 hy6 W2 A0_4 p0_f.fLooks.length c0_4 rfl ((RdL.arg hr0_4) W2 hW2) (some ⟨b4, 0, none⟩) 1 1 rfl ((RdL.row 3 rfl) W2 hW2)) rfl) ?_
  refine ox_y rfl (y_assign_int rfl) ?_
  refine ox_nil ?_
  refine ex_then ?_
  refine cx_seq ?_
  refine cx_seq ?_
  refine cx_region ?_
  refine ox_y rfl (y_move_int rfl) ?_
  refine ox_y rfl (y_neq rfl rfl) ?_
  refine ox_nil ?_
  refine ex_then ?_
  rcases ite_some h with ⟨hp7, h⟩ | ⟨hp7, h⟩
  · refine cx_true (congrArg Value.bool hp7) ?_
    refine cx_seq ?_
    refine cx_region ?_
    refine ox_y rfl (y_move_int rfl) ?_
    refine ox_y rfl (y_buildS [.slice none 0 0, .int .i64 y5] [(0, 1), (1, 1)] ust_43 ze_43 (by kernel_rfl)) ?_
    refine ox_n rfl (y_storeN 2 [.slice none 0 0, .int .i64 y5] sz_43 rfl (Nat.le_of_ble_eq_true rfl) rfl rfl rfl) ?_
    refine ox_nil ?_
    refine ex_then ?_
    refine cx_ret ?_
    refine ex_then_ret ?_
    obtain rfl := Option.some.inj h
    exact ex_res1 (.inl rfl) rfl (resV_cellN 2 [.slice none 0 0, .int .i64 y5] ag_43 rfl rfl rfl) (fun W2 hW2 => ⟨(none, 0, 0), rfl, rfl, ((hW2.nilrow 3 1).pick 4 rfl)⟩)
  · refine cx_false (congrArg Value.bool hp7) ?_
    refine cx_skip ?_
    refine ex_then ?_
    refine cx_seq ?_
    refine cx_region ?_
    refine ox_y rfl (y_assign_slice rfl) ?_
    refine ox_nil ?_
    refine ex_then ?_
    refine cx_seq ?_
    refine cx_seq ?_
    refine cx_region ?_
    refine ox_y rfl (y_assign_int rfl) ?_
    refine ox_nil ?_
    refine ex_then ?_
    refine cx_block ?_
    obtain ⟨u11, hl34, h⟩ := bind_some h
    refine cx_nilrow 3 1 ?_
    refine cx_loop (fun (s : (Int × (List Int))) L tm => ∃ (tm0 : Nat → Value) (A4_s : Option Addr) (c4_s : Nat) (n4_s : Nat), n4_s = s.2.length ∧ L = [cellsR b1 24 [.int .i64 p0_f.fRise, .int .i64 p0_f.fFall, .int .i64 p0_f.fUp, .int .i64 p0_f.fDown, .slice A0_4 p0_f.fLooks.length c0_4], cellsR b2 26 [.int .i64 p1_at.fFoot, .int .i64 p1_at.fHour], cellsR b3 43 [.slice none 0 0, .int .i64 0], rowR (some ⟨b4, 0, none⟩) 1 26 2 1 (encL TSpot_cells [p1_at]), rowR A4_s c4_s 3 1 n4_s (encL cI s.2)] ∧ tm = (upd (upd (upd (upd (upd (upd (upd (upd (upd tm0 0 (.agg #[.int .i64 p0_f.fRise, .int .i64 p0_f.fFall, .int .i64 p0_f.fUp, .int .i64 p0_f.fDown, .slice A0_4 p0_f.fLooks.length c0_4])) 1 (.agg #[.int .i64 p1_at.fFoot, .int .i64 p1_at.fHour])) 2 (.pointer (some ⟨b1, 0, none⟩))) 3 (.pointer (some ⟨b2, 0, none⟩))) 4 (.pointer (some ⟨b3, 0, none⟩))) 5 (.int .i64 y5)) 13 (.bool (y5 != 0))) 6 (.slice A4_s n4_s c4_s)) 7 (.int .i64 s.1))) (fun s e L tm => e = .exit 0 ∧ ∃ (tm0 : Nat → Value) (A4_s : Option Addr) (c4_s : Nat) (n4_s : Nat), n4_s = s.2.length ∧ L = [cellsR b1 24 [.int .i64 p0_f.fRise, .int .i64 p0_f.fFall, .int .i64 p0_f.fUp, .int .i64 p0_f.fDown, .slice A0_4 p0_f.fLooks.length c0_4], cellsR b2 26 [.int .i64 p1_at.fFoot, .int .i64 p1_at.fHour], cellsR b3 43 [.slice none 0 0, .int .i64 0], rowR (some ⟨b4, 0, none⟩) 1 26 2 1 (encL TSpot_cells [p1_at]), rowR A4_s c4_s 3 1 n4_s (encL cI s.2)] ∧ tm = (upd (upd (upd (upd (upd (upd (upd (upd (upd tm0 0 (.agg #[.int .i64 p0_f.fRise, .int .i64 p0_f.fFall, .int .i64 p0_f.fUp, .int .i64 p0_f.fDown, .slice A0_4 p0_f.fLooks.length c0_4])) 1 (.agg #[.int .i64 p1_at.fFoot, .int .i64 p1_at.fHour])) 2 (.pointer (some ⟨b1, 0, none⟩))) 3 (.pointer (some ⟨b2, 0, none⟩))) 4 (.pointer (some ⟨b3, 0, none⟩))) 5 (.int .i64 y5)) 13 (.bool (y5 != 0))) 6 (.slice A4_s n4_s c4_s)) 7 (.int .i64 s.1))) hl34 ⟨_, none, 0, 0, rfl, rfl, (keep (keep (keep (keep (keep (keep (keep (keep (keep rfl rfl) rfl) rfl) rfl) rfl) rfl) rfl) rfl) rfl)⟩ ?_ ?_
    · rintro s10 L tm st ⟨tm0_s10, A4_s10, c4_s10, n4_s10, rfl, rfl, rfl⟩ h
      unfold calxref02_Rests_l1 at h
      refine cx_seq ?_
      refine cx_seq ?_
      refine cx_region ?_
      refine ox_y rfl (y_move_int rfl) ?_
      refine ox_y rfl (y_fieldAddr fo_24_4 rfl) ?_
      refine ox_y rfl (y_load1 0 (v := .slice A0_4 p0_f.fLooks.length c0_4) sc_22 rfl rfl rfl) ?_
      refine ox_y rfl (y_len (us := []) us_22 rfl) ?_
      refine ox_y rfl (y_lss rfl rfl) ?_
      refine ox_nil ?_
      refine ex_then ?_
      rcases ite_some h with ⟨hp12, h⟩ | ⟨hp12, h⟩
      · refine cx_true (congrArg Value.bool hp12) ?_
        refine cx_skip ?_
        refine ex_then ?_
        refine cx_seq ?_
        refine cx_block ?_
        refine cx_seq ?_
        obtain ⟨hg14, h⟩ := guardO_some h
        obtain ⟨y16, hy17, h⟩ := bind_some h
        obtain ⟨y22, hy23, h⟩ := bind_some h
        obtain ⟨y24, hy25, h⟩ := bind_some h
        refine cx_drawsG [[], [], [1], [], [1, 2, 3], [1, 2, 3, 4], [1, 2, 3, 4, 5], [1, 2, 3, 4, 5, 6], [0, 1, 2, 3, 4, 5, 6, 7], [], [0, 1, 2, 3, 4, 5, 6, 7, 8, 9], [], [], [0, 1, 2, 3, 4, 5, 6, 7, 8, 9, 10, 11, 12], [0, 1, 2, 3, 4, 5, 6, 7, 8, 9, 10, 11, 12, 13]] [(none, 0, [true, true, true, true, true]), (none, 0, [true, true, true, true, true]), (none, 0, [true, true, true, true, true]), (none, 0, [true, true, true, true, true]), (none, 0, [true, true, true, true, true]), (none, 0, [true, true, true, true, true]), (none, 0, [true, true, true, true, true]), (none, 1, [true, true, true, true, true]), (none, 1, [true, true, true, true, true, true]), (none, 0, [true, true, true, true, true, false, false]), (none, 0, [true, true, true, true, true, true, true]), (none, 0, [true, true, true, true, true, false, false]), (none, 0, [true, true, true, true, true, false, false]), (none, 0, [true, true, true, true, true, true, true]), (none, 0, [true, true, true, true, true, true, true])] [⟨fun _ => .agg #[.int .i64 p0_f.fRise, .int .i64 p0_f.fFall, .int .i64 p0_f.fUp, .int .i64 p0_f.fDown, .slice A0_4 p0_f.fLooks.length c0_4], fun _ => noR, fun _ => []⟩, ⟨fun _ => .pointer (some ⟨b1, 0 + 4, none⟩), fun _ => noR, fun _ => []⟩, ⟨fun _ => .slice A0_4 p0_f.fLooks.length c0_4, fun _ => noR, fun _ => []⟩, ⟨fun _ => .int .i64 s10.1, fun _ => noR, fun _ => []⟩, ⟨fun _ => slA A0_4 (Int.toNat s10.1 * 5), fun _ => noR, fun _ => []⟩, ⟨fun _ => slA A0_4 ((Int.toNat s10.1 * 5) + 0), fun _ => noR, fun _ => []⟩, ⟨fun _ => .int .i64 ((rdL p0_f.fLooks s10.1).fID), fun _ => noR, fun _ => []⟩, ⟨fun ξ13 => .slice (some ⟨(ξ13 7 0).2.1, 0, none⟩) 1 1, fun _ => noR, fun ξ13 => [rowR (some ⟨(ξ13 7 0).2.1, 0, none⟩) 1 3 1 1 (encL cI [(rdL p0_f.fLooks s10.1).fID])]⟩, ⟨fun ξ13 => .agg #[.int .i64 y16.fRise, .int .i64 y16.fFall, .int .i64 y16.fUp, .int .i64 y16.fDown, .slice (ξ13 8 0).1 y16.fLooks.length (ξ13 8 0).2.2], fun _ => noR, fun ξ13 => [rowR (ξ13 8 0).1 (ξ13 8 0).2.2 49 5 y16.fLooks.length (encL TLook_cells y16.fLooks)]⟩, ⟨fun _ => .agg #[.int .i64 p1_at.fFoot, .int .i64 p1_at.fHour], fun _ => noR, fun _ => []⟩, ⟨fun _ => .agg #[.int .i64 y22.fLo, .int .i64 y22.fHi], fun _ => noR, fun _ => []⟩, ⟨fun _ => .agg #[.int .i64 p0_f.fRise, .int .i64 p0_f.fFall, .int .i64 p0_f.fUp, .int .i64 p0_f.fDown, .slice A0_4 p0_f.fLooks.length c0_4], fun _ => noR, fun _ => []⟩, ⟨fun _ => .agg #[.int .i64 p1_at.fFoot, .int .i64 p1_at.fHour], fun _ => noR, fun _ => []⟩, ⟨fun _ => .agg #[.int .i64 y24.fLo, .int .i64 y24.fHi], fun _ => noR, fun _ => []⟩, ⟨fun _ => .bool (!((y22.fLo == y24.fLo) && (y22.fHi == y24.fHi))), fun _ => noR, fun _ => []⟩] 5 mixed (by kernel_rfl) (by kernel_rfl) ⟨⟨fun ξ13 ξ13' h => ⟨rfl, rfl, rfl⟩, fun _ => rfl⟩, ⟨fun ξ13 ξ13' h => ⟨rfl, rfl, rfl⟩, fun _ => rfl⟩, ⟨fun ξ13 ξ13' h => ⟨rfl, rfl, rfl⟩, fun _ => rfl⟩, ⟨fun ξ13 ξ13' h => ⟨rfl, rfl, rfl⟩, fun _ => rfl⟩, ⟨fun ξ13 ξ13' h => ⟨rfl, rfl, rfl⟩, fun _ => rfl⟩, ⟨fun ξ13 ξ13' h => ⟨rfl, rfl, rfl⟩, fun _ => rfl⟩, ⟨fun ξ13 ξ13' h => ⟨rfl, rfl, rfl⟩, fun _ => rfl⟩, ⟨fun ξ13 ξ13' h => ⟨by simp only [h 7 (.inl rfl)], rfl, by simp only [h 7 (.inl rfl)]⟩, fun _ => rfl⟩, ⟨fun ξ13 ξ13' h => ⟨by simp only [h 8 (.inl rfl)], rfl, by simp only [h 8 (.inl rfl)]⟩, fun _ => rfl⟩, ⟨fun ξ13 ξ13' h => ⟨rfl, rfl, rfl⟩, fun _ => rfl⟩, ⟨fun ξ13 ξ13' h => ⟨rfl, rfl, rfl⟩, fun _ => rfl⟩, ⟨fun ξ13 ξ13' h => ⟨rfl, rfl, rfl⟩, fun _ => rfl⟩, ⟨fun ξ13 ξ13' h => ⟨rfl, rfl, rfl⟩, fun _ => rfl⟩, ⟨fun ξ13 ξ13' h => ⟨rfl, rfl, rfl⟩, fun _ => rfl⟩, ⟨fun ξ13 ξ13' h => ⟨rfl, rfl, rfl⟩, fun _ => rfl⟩, trivial⟩ rfl (fun ξ13 => ?_)
        refine gx_o rfl (fun L2 => ?_) ?_
        · dsimp only [maskL, List.cons_append, List.nil_append]
          refine ox_y rfl (y_loadN 0 [.int .i64 p0_f.fRise, .int .i64 p0_f.fFall, .int .i64 p0_f.fUp, .int .i64 p0_f.fDown, .slice A0_4 p0_f.fLooks.length c0_4] ag_24 rfl rfl rfl) ?_
          refine ox_nil ?_
          exact ex_capG (fun _ => (none, 0, 0)) rfl (List.append_nil _)
        dsimp only [aftL, List.set_cons_zero, List.set_cons_succ, List.nil_append, List.cons_append, List.append_nil]
        refine gx_o rfl (fun L2 => ?_) ?_
        · dsimp only [maskL, List.cons_append, List.nil_append]
          refine ox_y rfl (y_fieldAddr fo_24_4 rfl) ?_
          refine ox_nil ?_
          exact ex_capG (fun _ => (none, 0, 0)) rfl (List.append_nil _)
        dsimp only [aftL, List.set_cons_zero, List.set_cons_succ, List.nil_append, List.cons_append, List.append_nil]
        refine gx_o rfl (fun L2 => ?_) ?_
        · dsimp only [maskL, List.cons_append, List.nil_append]
          refine ox_y rfl (y_load1 0 (v := .slice A0_4 p0_f.fLooks.length c0_4) sc_22 rfl rfl rfl) ?_
          refine ox_nil ?_
          exact ex_capG (fun _ => (none, 0, 0)) rfl (List.append_nil _)
        dsimp only [aftL, List.set_cons_zero, List.set_cons_succ, List.nil_append, List.cons_append, List.append_nil]
        refine gx_o rfl (fun L2 => ?_) ?_
        · dsimp only [maskL, List.cons_append, List.nil_append]
          refine ox_y rfl (y_move_int rfl) ?_
          refine ox_nil ?_
          exact ex_capG (fun _ => (none, 0, 0)) rfl (List.append_nil _)
        dsimp only [aftL, List.set_cons_zero, List.set_cons_succ, List.nil_append, List.cons_append, List.append_nil]
        refine gx_o rfl (fun L2 => ?_) ?_
        · dsimp only [maskL, List.cons_append, List.nil_append]
          refine ox_y rfl (y_indexR sl_22 (by decide) hg14.1 hg14.2 (RdL.arg hr0_4) (encL_len TLook_cells_len rfl) rfl rfl) ?_
          refine ox_nil ?_
          exact ex_capG (fun _ => (none, 0, 0)) rfl (List.append_nil _)
        dsimp only [aftL, List.set_cons_zero, List.set_cons_succ, List.nil_append, List.cons_append, List.append_nil]
        refine gx_o rfl (fun L2 => ?_) ?_
        · dsimp only [maskL, List.cons_append, List.nil_append]
          refine ox_y rfl (y_fieldAddrR (A := A0_4) (j := (Int.toNat s10.1 * 5)) fo_49_0 rfl) ?_
          refine ox_nil ?_
          exact ex_capG (fun _ => (none, 0, 0)) rfl (List.append_nil _)
        dsimp only [aftL, List.set_cons_zero, List.set_cons_succ, List.nil_append, List.cons_append, List.append_nil]
        refine gx_o rfl (fun L2 => ?_) ?_
        · dsimp only [maskL, List.cons_append, List.nil_append]
          refine ox_y rfl (y_loadR1 (A := A0_4) (j := ((Int.toNat s10.1 * 5) + 0)) (v := .int .i64 ((rdL p0_f.fLooks s10.1).fID)) sc_3 (RdL.arg hr0_4) rfl (encL_get TLook_cells_len hg14.1 (lt_nat hg14.2 rfl) rfl)) ?_
          refine ox_nil ?_
          exact ex_capG (fun _ => (none, 0, 0)) rfl (List.append_nil _)
        dsimp only [aftL, List.set_cons_zero, List.set_cons_succ, List.nil_append, List.cons_append, List.append_nil]
        refine gx_o rfl (fun L2 => ?_) ?_
        · dsimp only [maskL, List.cons_append, List.nil_append]
          refine ox_buildSliceE 1 (encL cI [(rdL p0_f.fLooks s10.1).fID]) _ mc_3_1 us_39 ze_3 by_3 (by decide) (by decide) (by kernel_rfl) (encL_len cI_len rfl) rfl (fun b15 => ?_)
          refine ox_nil ?_
          exact ex_capG (fun _ => (none, b15, 0)) rfl rfl
        dsimp only [aftL, List.set_cons_zero, List.set_cons_succ, List.nil_append, List.cons_append, List.append_nil]
        refine gx_o rfl (fun L2 => ?_) ?_
        · dsimp only [maskL, List.cons_append, List.nil_append]
          refine ox_call [.agg #[.int .i64 p0_f.fRise, .int .i64 p0_f.fFall, .int .i64 p0_f.fUp, .int .i64 p0_f.fDown, .slice A0_4 p0_f.fLooks.length c0_4], .slice (some ⟨(ξ13 7 0).2.1, 0, none⟩) 1 1] _ _ _ rfl go_46 rfl (fun W2 hW2 => calxref02_without_ok p0_f [(rdL p0_f.fLooks s10.1).fID] y16 hy17 W2 A0_4 p0_f.fLooks.length c0_4 rfl ((RdL.arg hr0_4) W2 hW2) (some ⟨(ξ13 7 0).2.1, 0, none⟩) 1 1 rfl ((RdL.row 5 rfl) W2 hW2)) ?_
          rintro ⟨A18, n20, c19⟩ hn21
          replace hn21 : n20 = y16.fLooks.length := hn21; subst hn21
          refine ox_nil ?_
          exact ex_capG (fun _ => (A18, 0, c19)) rfl rfl
        dsimp only [aftL, List.set_cons_zero, List.set_cons_succ, List.nil_append, List.cons_append, List.append_nil]
        refine gx_o rfl (fun L2 => ?_) ?_
        · dsimp only [maskL, List.cons_append, List.nil_append]
          refine ox_y rfl (y_loadN 1 [.int .i64 p1_at.fFoot, .int .i64 p1_at.fHour] ag_26 rfl rfl rfl) ?_
          refine ox_nil ?_
          exact ex_capG (fun _ => (none, 0, 0)) rfl (List.append_nil _)
        dsimp only [aftL, List.set_cons_zero, List.set_cons_succ, List.nil_append, List.cons_append, List.append_nil]
        refine gx_o rfl (fun L2 => ?_) ?_
        · dsimp only [maskL, List.cons_append, List.nil_append]
          refine ox_y rfl (y_call [.agg #[.int .i64 y16.fRise, .int .i64 y16.fFall, .int .i64 y16.fUp, .int .i64 y16.fDown, .slice (ξ13 8 0).1 y16.fLooks.length (ξ13 8 0).2.2], .agg #[.int .i64 p1_at.fFoot, .int .i64 p1_at.fHour]] go_45 rfl (fun W2 hW2 => calxref02_ends_ok y16 p1_at y22 hy23 W2 (ξ13 8 0).1 y16.fLooks.length (ξ13 8 0).2.2 rfl ((RdL.row 6 rfl) W2 hW2)) rfl) ?_
          refine ox_nil ?_
          exact ex_capG (fun _ => (none, 0, 0)) rfl (List.append_nil _)
        dsimp only [aftL, List.set_cons_zero, List.set_cons_succ, List.nil_append, List.cons_append, List.append_nil]
        refine gx_o rfl (fun L2 => ?_) ?_
        · dsimp only [maskL, List.cons_append, List.nil_append]
          refine ox_y rfl (y_loadN 0 [.int .i64 p0_f.fRise, .int .i64 p0_f.fFall, .int .i64 p0_f.fUp, .int .i64 p0_f.fDown, .slice A0_4 p0_f.fLooks.length c0_4] ag_24 rfl rfl rfl) ?_
          refine ox_nil ?_
          exact ex_capG (fun _ => (none, 0, 0)) rfl (List.append_nil _)
        dsimp only [aftL, List.set_cons_zero, List.set_cons_succ, List.nil_append, List.cons_append, List.append_nil]
        refine gx_o rfl (fun L2 => ?_) ?_
        · dsimp only [maskL, List.cons_append, List.nil_append]
          refine ox_y rfl (y_loadN 1 [.int .i64 p1_at.fFoot, .int .i64 p1_at.fHour] ag_26 rfl rfl rfl) ?_
          refine ox_nil ?_
          exact ex_capG (fun _ => (none, 0, 0)) rfl (List.append_nil _)
        dsimp only [aftL, List.set_cons_zero, List.set_cons_succ, List.nil_append, List.cons_append, List.append_nil]
        refine gx_o rfl (fun L2 => ?_) ?_
        · dsimp only [maskL, List.cons_append, List.nil_append]
          refine ox_y rfl (y_call [.agg #[.int .i64 p0_f.fRise, .int .i64 p0_f.fFall, .int .i64 p0_f.fUp, .int .i64 p0_f.fDown, .slice A0_4 p0_f.fLooks.length c0_4], .agg #[.int .i64 p1_at.fFoot, .int .i64 p1_at.fHour]] go_45 rfl (fun W2 hW2 => calxref02_ends_ok p0_f p1_at y24 hy25 W2 A0_4 p0_f.fLooks.length c0_4 rfl ((RdL.arg hr0_4) W2 hW2)) rfl) ?_
          refine ox_nil ?_
          exact ex_capG (fun _ => (none, 0, 0)) rfl (List.append_nil _)
        dsimp only [aftL, List.set_cons_zero, List.set_cons_succ, List.nil_append, List.cons_append, List.append_nil]
        refine gx_o rfl (fun L2 => ?_) ?_
        · dsimp only [maskL, List.cons_append, List.nil_append]
          refine ox_y rfl (y_neqa (b := ((y22.fLo == y24.fLo) && (y22.fHi == y24.fHi))) eg_28 rfl rfl (fun _ => (eqS2 fl_28 (part1 sc_3 rfl) (part1 sc_3 rfl) (part1 sc_3 rfl) (part1 sc_3 rfl) (run_equalIn_int _ _ _ _ _ _ _ ui_3) (run_equalIn_int _ _ _ _ _ _ _ ui_3)))) ?_
          refine ox_nil ?_
          exact ex_capG (fun _ => (none, 0, 0)) rfl (List.append_nil _)
        dsimp only [aftL, List.set_cons_zero, List.set_cons_succ, List.nil_append, List.cons_append, List.append_nil]
        refine gx_nil ?_
        refine ex_then ?_
        rcases ite_some h with ⟨hp26, h⟩ | ⟨hp26, h⟩
        · refine cx_true (congrArg Value.bool hp26) ?_
          refine cx_region ?_
          try dsimp only [List.nil_append, List.cons_append, List.set_cons_zero, List.set_cons_succ]
          refine ox_y rfl (y_move_slice rfl) ?_
          refine ox_y rfl (y_fieldAddr fo_24_4 rfl) ?_
          refine ox_y rfl (y_load1 0 (v := .slice A0_4 p0_f.fLooks.length c0_4) sc_22 rfl rfl rfl) ?_
          refine ox_y rfl (y_move_int rfl) ?_
          obtain ⟨hg27, h⟩ := guardO_some h
          refine ox_y rfl (y_indexR sl_22 (by decide) hg27.1 hg27.2 (RdL.arg hr0_4) (encL_len TLook_cells_len rfl) rfl rfl) ?_
          refine ox_y rfl (y_fieldAddrR (A := A0_4) (j := (Int.toNat s10.1 * 5)) fo_49_0 rfl) ?_
          refine ox_y rfl (y_loadR1 (A := A0_4) (j := ((Int.toNat s10.1 * 5) + 0)) (v := .int .i64 ((rdL p0_f.fLooks s10.1).fID)) sc_3 (RdL.arg hr0_4) rfl (encL_get TLook_cells_len hg27.1 (lt_nat hg27.2 rfl) rfl)) ?_
          obtain ⟨y28, hy29, h⟩ := bind_some h
          refine ox_call [.slice A4_s10 s10.2.length c4_s10, .int .i64 ((rdL p0_f.fLooks s10.1).fID)] _ _ _ rfl go_47 rfl (fun W2 hW2 => calxref02_put_ok s10.2 ((rdL p0_f.fLooks s10.1).fID) y28 hy29 W2 A4_s10 s10.2.length c4_s10 rfl ((RdL.row 4 rfl) W2 hW2)) ?_
          rintro ⟨A30, n32, c31⟩ hn33
          replace hn33 : n32 = y28.length := hn33; subst hn33
          try dsimp only [List.nil_append, List.cons_append, List.set_cons_zero, List.set_cons_succ]
          refine ox_y rfl (y_assign_slice rfl) ?_
          refine ox_nil ?_
          refine ex_block ?_
          refine ex_then ?_
          refine cx_region ?_
          refine ox_y rfl (y_move_int rfl) ?_
          refine ox_y rfl (y_add rfl rfl) ?_
          refine ox_y rfl (y_assign_int rfl) ?_
          refine ox_nil ?_
          refine ex_mv 4 7 (by decide) rfl ?_
          dsimp only [List.set_cons_zero, List.set_cons_succ]
          refine ex_take 5 ?_
          obtain rfl := Option.some.inj h
          exact ex_next ⟨_, A30, c31, y28.length, rfl, rfl, (keep (keep (keep (keep (keep (keep (keep (keep (keep rfl rfl) rfl) rfl) rfl) rfl) rfl) rfl) rfl) rfl)⟩
        · refine cx_false (congrArg Value.bool hp26) ?_
          refine cx_skip ?_
          refine ex_block ?_
          refine ex_then ?_
          refine cx_region ?_
          try dsimp only [List.nil_append, List.cons_append, List.set_cons_zero, List.set_cons_succ]
          refine ox_y rfl (y_move_int rfl) ?_
          refine ox_y rfl (y_add rfl rfl) ?_
          refine ox_y rfl (y_assign_int rfl) ?_
          refine ox_nil ?_
          refine ex_take 5 ?_
          obtain rfl := Option.some.inj h
          exact ex_next ⟨_, A4_s10, c4_s10, s10.2.length, rfl, rfl, (keep (keep (keep (keep (keep (keep (keep (keep (keep rfl rfl) rfl) rfl) rfl) rfl) rfl) rfl) rfl) rfl)⟩
      · refine cx_false (congrArg Value.bool hp12) ?_
        refine cx_exit ?_
        refine ex_then_exit ?_
        obtain rfl := Option.some.inj h
        exact ex_stop ⟨rfl, _, A4_s10, c4_s10, s10.2.length, rfl, rfl, (keep (keep (keep (keep (keep (keep (keep (keep (keep rfl rfl) rfl) rfl) rfl) rfl) rfl) rfl) rfl) rfl)⟩
    · intro e L tm hJ
      obtain ⟨rfl, tm0_u11, A4_u11, c4_u11, n4_u11, rfl, rfl, rfl⟩ := hJ
      refine ⟨(by intro hc; cases hc), ?_⟩
      refine ex_block_here ?_
      refine ex_then ?_
      refine cx_seq ?_
      refine cx_region ?_
      refine ox_y rfl (y_move_slice rfl) ?_
      refine ox_y rfl (y_buildS [.slice A4_u11 u11.2.length c4_u11, .int .i64 0] [(0, 1), (1, 1)] ust_43 ze_43 (by kernel_rfl)) ?_
      refine ox_n rfl (y_storeN 2 [.slice A4_u11 u11.2.length c4_u11, .int .i64 0] sz_43 rfl (Nat.le_of_ble_eq_true rfl) rfl rfl rfl) ?_
      refine ox_nil ?_
      refine ex_then ?_
      refine cx_ret ?_
      obtain rfl := Option.some.inj h
      exact ex_res1 (.inl rfl) rfl (resV_cellN 2 [.slice A4_u11 u11.2.length c4_u11, .int .i64 0] ag_43 rfl rfl rfl) (fun W2 hW2 => ⟨(A4_u11, u11.2.length, c4_u11), rfl, rfl, (hW2.pick 4 rfl)⟩)

/-! calx/fire.CheckEnds$1 -/
set_option maxRecDepth 100000 in
theorem fire_CheckEnds_1_ok (p0_id : Int) (p1_end : Int) (p2_none : Int) (p3_tell : TLook → Option Int) (cap0 : TFire) (res : Bool) (h : fire_CheckEnds_1 p0_id p1_end p2_none p3_tell cap0 = some res) (W : World) (fid3 : Nat) (caps3 : List Value) (hgo3 : goes Tryz.prog fid3 = true) (hof3 : ∀ W2, Below W.heap.size W W2 → ∀ x y, p3_tell x = some y → Calls Tryz.prog fid3 (([.agg #[.int .i64 x.fID, .int .i64 x.fAt.fFoot, .int .i64 x.fAt.fHour, .int .i64 x.fHeat.fLo, .int .i64 x.fHeat.fHi]] : List Value) ++ caps3).toArray W2 fun e W3 => e = .returned (.int .i64 y) ∧ Ext W2 W3 []) (bc0 : Nat) (A100_4 : Option Addr) (n100_4 c100_4 : Nat) (hn100_4 : n100_4 = cap0.fLooks.length) (hr100_4 : Rd W A100_4 n100_4 c100_4 (encL TLook_cells cap0.fLooks)) (hcap0 : Rd W (some ⟨bc0, 0, none⟩) 1 1 [.int .i64 cap0.fRise, .int .i64 cap0.fFall, .int .i64 cap0.fUp, .int .i64 cap0.fDown, .slice A100_4 n100_4 c100_4]) :
    Calls Tryz.prog 48 [.int .i64 p0_id, .int .i64 p1_end, .int .i64 p2_none, .func (.func fid3) #[] caps3.toArray, .pointer (some ⟨bc0, 0, none⟩)].toArray W fun e W2 => e = .returned (.bool res) ∧ Ext W W2 [] := by
  subst hn100_4
  unfold fire_CheckEnds_1 at h
  refine calls_enter (m := 37) Tryz.func48 rfl rfl (Nat.le_of_ble_eq_true rfl) ?_
  refine cx_seq ?_
  refine cx_region ?_
  refine ox_y rfl (y_assign_bool rfl) ?_
  refine ox_nil ?_
  refine ex_then ?_
  refine cx_seq ?_
  refine cx_region ?_
  refine ox_y rfl (y_fieldAddrR (A := (some ⟨bc0, 0, none⟩)) (j := 0) fo_24_4 rfl) ?_
  refine ox_y rfl (y_loadR1 (A := (some ⟨bc0, 0, none⟩)) (j := (0 + 4)) (v := .slice A100_4 cap0.fLooks.length c100_4) sc_22 (RdL.arg hcap0) rfl rfl) ?_
  refine ox_y rfl (y_move_int rfl) ?_
  obtain ⟨y1, hy2, h⟩ := bind_some h
  refine ox_y rfl (y_call [.slice A100_4 cap0.fLooks.length c100_4, .int .i64 p0_id] go_49 rfl (fun W2 hW2 => fire_find_ok cap0.fLooks p0_id y1 hy2 W2 A100_4 cap0.fLooks.length c100_4 rfl ((RdL.arg hr100_4) W2 hW2)) rfl) ?_
  refine ox_y rfl (y_assign_int rfl) ?_
  refine ox_nil ?_
  refine ex_then ?_
  refine cx_seq ?_
  refine cx_region ?_
  refine ox_y rfl (y_move_int rfl) ?_
  refine ox_y rfl (y_eql rfl rfl) ?_
  refine ox_y rfl (y_move_bool rfl) ?_
  refine ox_join 4 (fun tm0 => (upd (upd (upd (upd (upd (upd tm0 1 (.int .i64 p1_end)) 3 (.func (.func fid3) #[] caps3.toArray)) 4 (slA (some ⟨bc0, 0, none⟩) 0)) 9 (.bool false)) 10 (.int .i64 y1)) 21 (.bool ((p0_id == 0) && (p1_end == p2_none))))) (fun tm0 => ?_) (fun key => ?_)
  · refine ox_y rfl (y_move_bool rfl) ?_
    obtain ⟨b5, hb6, h⟩ := bind_some h
    refine ox_join 14 (fun tm0 => (upd (upd tm0 9 (.bool false)) 36 (.bool b5))) (fun tm0 => ?_) (fun key => ?_)
    · refine ox_y rfl (y_assign_bool rfl) ?_
      refine ox_nil ?_
      refine ex_then ?_
      refine cx_ret ?_
      obtain rfl := Option.some.inj h
      exact ex_res1 (.inl rfl) rfl (resV_tmp (v := .bool b5) rfl) (fun W2 hW2 => ⟨rfl, hW2.none⟩)
    · clear h; rcases ite_some hb6 with ⟨hp4, h⟩ | ⟨hp4, h⟩
      · refine ox_skip (sees_f rfl rfl rfl rfl hp4) ?_
        refine ox_skip (sees_f rfl rfl rfl rfl hp4) ?_
        refine ox_skip (sees_f rfl rfl rfl rfl hp4) ?_
        refine ox_skip rfl ?_
        refine ox_skip rfl ?_
        refine ox_skip rfl ?_
        refine ox_skip rfl ?_
        refine ox_skip rfl ?_
        refine ox_skip rfl ?_
        refine ox_skip rfl ?_
        refine ox_skip rfl ?_
        refine ox_skip rfl ?_
        refine ox_skip (sees_f rfl rfl rfl rfl hp4) ?_
        refine ox_y rfl (y_pick_tb (congrArg Value.bool hp4) rfl) ?_
        obtain rfl := Option.some.inj h
        exact key _ _ (keep (keep rfl rfl) rfl)
      · refine ox_y (sees_t rfl rfl rfl rfl hp4) (y_move_int rfl) ?_
        refine ox_y (sees_t rfl rfl rfl rfl hp4) (y_geq rfl rfl) ?_
        refine ox_y (sees_t rfl rfl rfl rfl hp4) (y_move_bool rfl) ?_
        obtain ⟨b8, hb9, h⟩ := bind_some h
        refine ox_join 10 (fun tm0 => (upd (upd (upd tm0 9 (.bool false)) 22 (.bool ((p0_id == 0) && (p1_end == p2_none)))) 35 (.bool b8))) (fun tm0 => ?_) (fun key => ?_)
        · refine ox_y rfl (y_pick_fb (congrArg Value.bool hp4) rfl) ?_
          obtain rfl := Option.some.inj h
          exact key _ _ (keep (keep rfl rfl) rfl)
        · clear h; rcases ite_some hb9 with ⟨hp7, h⟩ | ⟨hp7, h⟩
          · refine ox_y (sees_t rfl rfl rfl rfl hp7) (y_move (v := .func (.func fid3) #[] caps3.toArray) rfl) ?_
            refine ox_y (sees_t rfl rfl rfl rfl hp7) (y_fieldAddrR (A := (some ⟨bc0, 0, none⟩)) (j := 0) fo_24_4 rfl) ?_
            refine ox_y (sees_t rfl rfl rfl rfl hp7) (y_loadR1 (A := (some ⟨bc0, 0, none⟩)) (j := (0 + 4)) (v := .slice A100_4 cap0.fLooks.length c100_4) sc_22 (RdL.arg hcap0) rfl rfl) ?_
            refine ox_y (sees_t rfl rfl rfl rfl hp7) (y_move_int rfl) ?_
            obtain ⟨hg10, h⟩ := guardO_some h
            refine ox_y (sees_t rfl rfl rfl rfl hp7) (y_indexR sl_22 (by decide) hg10.1 hg10.2 (RdL.arg hr100_4) (encL_len TLook_cells_len rfl) rfl rfl) ?_
            refine ox_y (sees_t rfl rfl rfl rfl hp7) (y_loadRN (A := A100_4) (j := (Int.toNat y1 * 5)) [.int .i64 ((rdL cap0.fLooks y1).fID), .int .i64 ((rdL cap0.fLooks y1).fAt.fFoot), .int .i64 ((rdL cap0.fLooks y1).fAt.fHour), .int .i64 ((rdL cap0.fLooks y1).fHeat.fLo), .int .i64 ((rdL cap0.fLooks y1).fHeat.fHi)] ag_49 (Nat.succ_pos _) (RdL.arg hr100_4) rfl (encL_gets TLook_cells_len hg10.1 (lt_nat hg10.2 rfl))) ?_
            obtain ⟨y11, hy12, h⟩ := bind_some h
            refine ox_y (sees_t rfl rfl rfl rfl hp7) (y_callv [.agg #[.int .i64 ((rdL cap0.fLooks y1).fID), .int .i64 ((rdL cap0.fLooks y1).fAt.fFoot), .int .i64 ((rdL cap0.fLooks y1).fAt.fHour), .int .i64 ((rdL cap0.fLooks y1).fHeat.fLo), .int .i64 ((rdL cap0.fLooks y1).fHeat.fHi)]] hgo3 rfl rfl (fun W2 hW2 => hof3 W2 hW2.below (TLook.mk ((rdL cap0.fLooks y1).fID) (TSpot.mk ((rdL cap0.fLooks y1).fAt.fFoot) ((rdL cap0.fLooks y1).fAt.fHour)) (TSpan.mk ((rdL cap0.fLooks y1).fHeat.fLo) ((rdL cap0.fLooks y1).fHeat.fHi))) y11 hy12)) ?_
            refine ox_y (sees_t rfl rfl rfl rfl hp7) (y_move_int rfl) ?_
            refine ox_y (sees_t rfl rfl rfl rfl hp7) (y_eql rfl rfl) ?_
            refine ox_y (sees_t rfl rfl rfl rfl hp4) (y_pick_tb (congrArg Value.bool hp7) rfl) ?_
            obtain rfl := Option.some.inj h
            exact key _ _ (keep (keep (keep rfl rfl) rfl) rfl)
          · refine ox_skip (sees_f rfl rfl rfl rfl hp7) ?_
            refine ox_skip (sees_f rfl rfl rfl rfl hp7) ?_
            refine ox_skip (sees_f rfl rfl rfl rfl hp7) ?_
            refine ox_skip (sees_f rfl rfl rfl rfl hp7) ?_
            refine ox_skip (sees_f rfl rfl rfl rfl hp7) ?_
            refine ox_skip (sees_f rfl rfl rfl rfl hp7) ?_
            refine ox_skip (sees_f rfl rfl rfl rfl hp7) ?_
            refine ox_skip (sees_f rfl rfl rfl rfl hp7) ?_
            refine ox_skip (sees_f rfl rfl rfl rfl hp7) ?_
            refine ox_y (sees_t rfl rfl rfl rfl hp4) (y_pick_fb (congrArg Value.bool hp7) rfl) ?_
            obtain rfl := Option.some.inj h
            exact key _ _ (keep (keep (keep rfl rfl) rfl) rfl)
  · rcases bool_cases (p0_id == 0) with hp3 | hp3
    · refine ox_y (sees_t rfl rfl rfl rfl hp3) (y_move_int rfl) ?_
      refine ox_y (sees_t rfl rfl rfl rfl hp3) (y_move_int rfl) ?_
      refine ox_y (sees_t rfl rfl rfl rfl hp3) (y_eql rfl rfl) ?_
      refine ox_y rfl (y_pick_tb (congrArg Value.bool hp3) rfl) ?_
      exact key _ _ (keep (keep (keep (keep (keep (keep rfl rfl) rfl) rfl) rfl) rfl) (congrArg Value.bool (and_t hp3)))
    · refine ox_skip (sees_f rfl rfl rfl rfl hp3) ?_
      refine ox_skip (sees_f rfl rfl rfl rfl hp3) ?_
      refine ox_skip (sees_f rfl rfl rfl rfl hp3) ?_
      refine ox_y rfl (y_pick_fb (congrArg Value.bool hp3) rfl) ?_
      exact key _ _ (keep (keep (keep (keep (keep (keep rfl rfl) rfl) rfl) rfl) rfl) (congrArg Value.bool (and_f hp3)))

end Go.Proofs.YtndajeiecdmhnaaGreat
