/- The calls hand back what the plain functions say. -/
import Derived.Test.YtndajeiecdmhnaaF
import Derived.Test.YtndajeiecdmhnaaGy
import Derived.Test.YtndajeiecdmhnaaC0
import Derived.Test.YtndajeiecdmhnaaC1
import Derived.Test.YtndajeiecdmhnaaC2
import Derived.Test.YtndajeiecdmhnaaC4
set_option linter.unusedVariables false
set_option maxHeartbeats 4000000
namespace Go.Proofs.Ytndajeiecdmhnaa
open Go.RowKit (Below)
attribute [local irreducible] OX QX CX EX OpY Calls CallsIn

/-! calx/calxlaw02.FireAnyOrder -/
set_option maxRecDepth 100000 in
theorem calxlaw02_FireAnyOrder_ok (p0 : TFire) (p1 : Int) (p2 : TSpot) (res : Bool) (h : calxlaw02_FireAnyOrder p0 p1 p2 = some res) (W : World) (A0_4 : Option Addr) (n0_4 c0_4 : Nat) (hn0_4 : n0_4 = p0.fLooks.length) (hr0_4 : Rd W A0_4 n0_4 c0_4 (encL TLook_cells p0.fLooks)) :
    Calls Try.prog 3 [.agg #[.int .i64 p0.fRise, .int .i64 p0.fFall, .int .i64 p0.fUp, .int .i64 p0.fDown, .slice A0_4 n0_4 c0_4], .int .u8 p1, .agg #[.int .i64 p2.fFoot, .int .i64 p2.fHour]].toArray W fun e W2 => e = .returned (.bool res) ∧ Ext W W2 [] := by
  subst hn0_4
  unfold calxlaw02_FireAnyOrder at h
  refine calls_enter (m := 137) Try.func3 rfl rfl (Nat.le_of_ble_eq_true rfl) ?_
  refine cx_seq ?_
  refine cx_region ?_
  refine ox_box [.int .i64 p0.fRise, .int .i64 p0.fFall, .int .i64 p0.fUp, .int .i64 p0.fDown, .slice A0_4 p0.fLooks.length c0_4] rfl rfl rfl (fun b1 => ?_)
  refine ox_box [.int .i64 p2.fFoot, .int .i64 p2.fHour] rfl rfl rfl (fun b2 => ?_)
  refine ox_y rfl (y_assign_bool rfl) ?_
  refine ox_nil ?_
  refine ex_then ?_
  refine cx_seq ?_
  refine cx_seq ?_
  refine cx_region ?_
  refine ox_y rfl (y_loadN 0 [.int .i64 p0.fRise, .int .i64 p0.fFall, .int .i64 p0.fUp, .int .i64 p0.fDown, .slice A0_4 p0.fLooks.length c0_4] ag_24 rfl rfl rfl) ?_
  obtain ⟨y3, hy4, h⟩ := bind_some h
  refine ox_y rfl (y_call [.agg #[.int .i64 p0.fRise, .int .i64 p0.fFall, .int .i64 p0.fUp, .int .i64 p0.fDown, .slice A0_4 p0.fLooks.length c0_4]] go_11 rfl (fun W2 hW2 => calxlaw02_few_ok p0 y3 hy4 W2 A0_4 p0.fLooks.length c0_4 rfl ((RdL.arg hr0_4) W2 hW2)) rfl) ?_
  refine ox_y rfl (y_not rfl) ?_
  refine ox_y rfl (y_move_bool rfl) ?_
  obtain ⟨b6, hb7, h⟩ := bind_some h
  refine ox_join 4 (fun tm0 => (upd (upd (upd (upd (upd tm0 1 (.int .u8 p1)) 3 (.pointer (some ⟨b1, 0, none⟩))) 5 (.pointer (some ⟨b2, 0, none⟩))) 6 (.bool false)) 32 (.bool b6))) (fun tm0 => ?_) (fun key => ?_)
  · refine ox_nil ?_
    refine ex_then ?_
    rcases ite_some h with ⟨hp8, h⟩ | ⟨hp8, h⟩
    · refine cx_true (congrArg Value.bool hp8) ?_
      refine cx_seq ?_
      refine cx_region ?_
      obtain ⟨y9, hy10, h⟩ := bind_some h
      refine ox_y rfl (y_call [] go_13 rfl (fun W2 hW2 => calxlaw02_sanity_ok  y9 hy10 W2 ) rfl) ?_
      refine ox_y rfl (y_assign_bool rfl) ?_
      refine ox_nil ?_
      refine ex_then ?_
      refine cx_ret ?_
      refine ex_then_ret ?_
      obtain rfl := Option.some.inj h
      exact ex_res1 (.inl rfl) rfl (resV_tmp (v := .bool y9) rfl) (fun W2 hW2 => ⟨rfl, hW2.none⟩)
    · refine cx_false (congrArg Value.bool hp8) ?_
      refine cx_skip ?_
      refine ex_then ?_
      refine cx_seq ?_
      refine cx_region ?_
      refine ox_y rfl (y_loadN 0 [.int .i64 p0.fRise, .int .i64 p0.fFall, .int .i64 p0.fUp, .int .i64 p0.fDown, .slice A0_4 p0.fLooks.length c0_4] ag_24 rfl rfl rfl) ?_
      refine ox_alloc ze_24 rfl (fun b11 => ?_)
      refine ox_n rfl (y_storeN 2 [.int .i64 p0.fRise, .int .i64 p0.fFall, .int .i64 p0.fUp, .int .i64 p0.fDown, .slice A0_4 p0.fLooks.length c0_4] sz_24 rfl (Nat.le_of_ble_eq_true rfl) rfl rfl rfl) ?_
      refine ox_nil ?_
      refine ex_then ?_
      refine cx_seq ?_
      refine cx_region ?_
      refine ox_y rfl (y_fieldAddr fo_24_4 rfl) ?_
      refine ox_n rfl (y_store1 2 (v := .slice none 0 0) sz_22 rfl (Nat.lt_of_lt_of_le (Nat.lt_succ_self _) (Nat.le_of_ble_eq_true rfl)) rfl rfl rfl) ?_
      refine ox_nil ?_
      refine ex_then ?_
      refine cx_seq ?_
      refine cx_seq ?_
      refine cx_region ?_
      refine ox_y rfl (y_assign_int rfl) ?_
      refine ox_nil ?_
      refine ex_then ?_
      refine cx_block ?_
      obtain ⟨u15, hl24, h⟩ := bind_some h
      refine cx_nilrow 34 5 ?_
      refine cx_loop (fun (s : (Int × (List TLook))) L tm => ∃ (tm0 : Nat → Value) (A3_s : Option Addr) (c3_s : Nat) (n3_s : Nat), n3_s = s.2.length ∧ L = [cellsR b1 24 [.int .i64 p0.fRise, .int .i64 p0.fFall, .int .i64 p0.fUp, .int .i64 p0.fDown, .slice A0_4 p0.fLooks.length c0_4], cellsR b2 26 [.int .i64 p2.fFoot, .int .i64 p2.fHour], cellsR b11 24 [.int .i64 p0.fRise, .int .i64 p0.fFall, .int .i64 p0.fUp, .int .i64 p0.fDown, .slice A3_s n3_s c3_s], rowR A3_s c3_s 34 5 n3_s (encL TLook_cells s.2)] ∧ tm = (upd (upd (upd (upd (upd (upd (upd tm0 1 (.int .u8 p1)) 3 (.pointer (some ⟨b1, 0, none⟩))) 5 (.pointer (some ⟨b2, 0, none⟩))) 6 (.bool false)) 32 (.bool b6)) 7 (.pointer (some ⟨b11, 0, none⟩))) 8 (.int .i64 s.1))) (fun s e L tm => e = .exit 0 ∧ ∃ (tm0 : Nat → Value) (A3_s : Option Addr) (c3_s : Nat) (n3_s : Nat), n3_s = s.2.length ∧ L = [cellsR b1 24 [.int .i64 p0.fRise, .int .i64 p0.fFall, .int .i64 p0.fUp, .int .i64 p0.fDown, .slice A0_4 p0.fLooks.length c0_4], cellsR b2 26 [.int .i64 p2.fFoot, .int .i64 p2.fHour], cellsR b11 24 [.int .i64 p0.fRise, .int .i64 p0.fFall, .int .i64 p0.fUp, .int .i64 p0.fDown, .slice A3_s n3_s c3_s], rowR A3_s c3_s 34 5 n3_s (encL TLook_cells s.2)] ∧ tm = (upd (upd (upd (upd (upd (upd (upd tm0 1 (.int .u8 p1)) 3 (.pointer (some ⟨b1, 0, none⟩))) 5 (.pointer (some ⟨b2, 0, none⟩))) 6 (.bool false)) 32 (.bool b6)) 7 (.pointer (some ⟨b11, 0, none⟩))) 8 (.int .i64 s.1))) hl24 ⟨_, none, 0, 0, rfl, rfl, (keep (keep (keep (keep (keep (keep (keep rfl rfl) rfl) rfl) rfl) rfl) rfl) rfl)⟩ ?_ ?_
      · rintro s14 L tm st ⟨tm0_s14, A3_s14, c3_s14, n3_s14, rfl, rfl, rfl⟩ h
        unfold calxlaw02_FireAnyOrder_l1 at h
        refine cx_seq ?_
        refine cx_seq ?_
        refine cx_region ?_
        refine ox_y rfl (y_move_int rfl) ?_
        refine ox_y rfl (y_fieldAddr fo_24_4 rfl) ?_
        refine ox_y rfl (y_load1 0 (v := .slice A0_4 p0.fLooks.length c0_4) sc_22 rfl rfl rfl) ?_
        refine ox_y rfl (y_len (us := []) us_22 rfl) ?_
        refine ox_y rfl (y_lss rfl rfl) ?_
        refine ox_nil ?_
        refine ex_then ?_
        rcases ite_some h with ⟨hp16, h⟩ | ⟨hp16, h⟩
        · refine cx_true (congrArg Value.bool hp16) ?_
          refine cx_skip ?_
          refine ex_then ?_
          refine cx_seq ?_
          refine cx_block ?_
          obtain ⟨hg18, h⟩ := guardO_some h
          obtain ⟨hg19, h⟩ := guardO_some h
          obtain ⟨hg23, h⟩ := guardO_some h
          refine cx_drawsG [[], [0], [], [2], [], [], [5], [4, 5, 6], [], [8], [8, 9], [4, 5, 6, 7, 8, 9, 10], [2, 3, 4, 5, 6, 7, 8, 9, 10, 11], [2, 3, 4, 5, 6, 7, 8, 9, 10, 11, 12], [2, 3, 4, 5, 6, 7, 8, 9, 10, 11, 12, 13], [0, 1, 2, 3, 4, 5, 6, 7, 8, 9, 10, 11, 12, 13, 14], [0, 1, 2, 3, 4, 5, 6, 7, 8, 9, 10, 11, 12, 13, 14, 15], [0, 1, 2, 3, 4, 5, 6, 7, 8, 9, 10, 11, 12, 13, 14, 15, 16]] [(none, 0, [true, true, true, true]), (none, 0, [true, true, true, true]), (none, 0, [true, true, true, true]), (none, 0, [true, true, true, true]), (none, 0, [true, true, true, true]), (none, 0, [true, true, true, true]), (none, 0, [true, true, true, true]), (none, 0, [true, true, true, true]), (none, 0, [true, true, true, true]), (none, 0, [true, true, true, true]), (none, 0, [true, true, true, true]), (none, 0, [true, true, true, true]), (none, 0, [true, true, true, true]), (none, 0, [true, true, true, true]), (none, 1, [true, true, true, true]), (some 3, 0, [true, true, true, true, true]), (none, 0, [true, true, true, true, true]), (some 2, 0, [true, true, true, true, true])] [⟨fun _ => .pointer (some ⟨b11, 0 + 4, none⟩), fun _ => noR, fun _ => []⟩, ⟨fun _ => .slice A3_s14 s14.2.length c3_s14, fun _ => noR, fun _ => []⟩, ⟨fun _ => .pointer (some ⟨b1, 0 + 4, none⟩), fun _ => noR, fun _ => []⟩, ⟨fun _ => .slice A0_4 p0.fLooks.length c0_4, fun _ => noR, fun _ => []⟩, ⟨fun _ => .int .i64 s14.1, fun _ => noR, fun _ => []⟩, ⟨fun _ => .int .u8 p1, fun _ => noR, fun _ => []⟩, ⟨fun _ => .int .i64 (w64 p1), fun _ => noR, fun _ => []⟩, ⟨fun _ => .int .i64 (w64 (s14.1 + (w64 p1))), fun _ => noR, fun _ => []⟩, ⟨fun _ => .pointer (some ⟨b1, 0 + 4, none⟩), fun _ => noR, fun _ => []⟩, ⟨fun _ => .slice A0_4 p0.fLooks.length c0_4, fun _ => noR, fun _ => []⟩, ⟨fun _ => .int .i64 ((p0.fLooks.length : Nat) : Int), fun _ => noR, fun _ => []⟩, ⟨fun _ => .int .i64 (Int.tmod (w64 (s14.1 + (w64 p1))) ((p0.fLooks.length : Nat) : Int)), fun _ => noR, fun _ => []⟩, ⟨fun _ => slA A0_4 (Int.toNat (Int.tmod (w64 (s14.1 + (w64 p1))) ((p0.fLooks.length : Nat) : Int)) * 5), fun _ => noR, fun _ => []⟩, ⟨fun _ => .agg #[.int .i64 ((rdL p0.fLooks (Int.tmod (w64 (s14.1 + (w64 p1))) ((p0.fLooks.length : Nat) : Int))).fID), .int .i64 ((rdL p0.fLooks (Int.tmod (w64 (s14.1 + (w64 p1))) ((p0.fLooks.length : Nat) : Int))).fAt.fFoot), .int .i64 ((rdL p0.fLooks (Int.tmod (w64 (s14.1 + (w64 p1))) ((p0.fLooks.length : Nat) : Int))).fAt.fHour), .int .i64 ((rdL p0.fLooks (Int.tmod (w64 (s14.1 + (w64 p1))) ((p0.fLooks.length : Nat) : Int))).fHeat.fLo), .int .i64 ((rdL p0.fLooks (Int.tmod (w64 (s14.1 + (w64 p1))) ((p0.fLooks.length : Nat) : Int))).fHeat.fHi)], fun _ => noR, fun _ => []⟩, ⟨fun ξ17 => .slice (some ⟨(ξ17 14 0).2.1, 0, none⟩) 1 1, fun _ => noR, fun ξ17 => [rowR (some ⟨(ξ17 14 0).2.1, 0, none⟩) 1 34 5 1 (encL TLook_cells [(TLook.mk ((rdL p0.fLooks (Int.tmod (w64 (s14.1 + (w64 p1))) ((p0.fLooks.length : Nat) : Int))).fID) (TSpot.mk ((rdL p0.fLooks (Int.tmod (w64 (s14.1 + (w64 p1))) ((p0.fLooks.length : Nat) : Int))).fAt.fFoot) ((rdL p0.fLooks (Int.tmod (w64 (s14.1 + (w64 p1))) ((p0.fLooks.length : Nat) : Int))).fAt.fHour)) (TSpan.mk ((rdL p0.fLooks (Int.tmod (w64 (s14.1 + (w64 p1))) ((p0.fLooks.length : Nat) : Int))).fHeat.fLo) ((rdL p0.fLooks (Int.tmod (w64 (s14.1 + (w64 p1))) ((p0.fLooks.length : Nat) : Int))).fHeat.fHi)))])]⟩, ⟨fun ξ17 => .slice (ξ17 15 0).1 (s14.2.length + 1) (ξ17 15 0).2.2, fun ξ17 => rowR (ξ17 15 0).1 (ξ17 15 0).2.2 34 5 (s14.2.length + 1) (encL TLook_cells (s14.2 ++ [(TLook.mk ((rdL p0.fLooks (Int.tmod (w64 (s14.1 + (w64 p1))) ((p0.fLooks.length : Nat) : Int))).fID) (TSpot.mk ((rdL p0.fLooks (Int.tmod (w64 (s14.1 + (w64 p1))) ((p0.fLooks.length : Nat) : Int))).fAt.fFoot) ((rdL p0.fLooks (Int.tmod (w64 (s14.1 + (w64 p1))) ((p0.fLooks.length : Nat) : Int))).fAt.fHour)) (TSpan.mk ((rdL p0.fLooks (Int.tmod (w64 (s14.1 + (w64 p1))) ((p0.fLooks.length : Nat) : Int))).fHeat.fLo) ((rdL p0.fLooks (Int.tmod (w64 (s14.1 + (w64 p1))) ((p0.fLooks.length : Nat) : Int))).fHeat.fHi)))])), fun _ => []⟩, ⟨fun _ => .pointer (some ⟨b11, 0 + 4, none⟩), fun _ => noR, fun _ => []⟩, ⟨fun _ => undef, fun ξ17 => cellsR b11 24 [.int .i64 p0.fRise, .int .i64 p0.fFall, .int .i64 p0.fUp, .int .i64 p0.fDown, .slice (ξ17 15 0).1 (s14.2.length + 1) (ξ17 15 0).2.2], fun _ => []⟩] 4 mixed (by kernel_rfl) (by kernel_rfl) ⟨⟨fun ξ17 ξ17' h => ⟨rfl, rfl, rfl⟩, fun _ => rfl⟩, ⟨fun ξ17 ξ17' h => ⟨rfl, rfl, rfl⟩, fun _ => rfl⟩, ⟨fun ξ17 ξ17' h => ⟨rfl, rfl, rfl⟩, fun _ => rfl⟩, ⟨fun ξ17 ξ17' h => ⟨rfl, rfl, rfl⟩, fun _ => rfl⟩, ⟨fun ξ17 ξ17' h => ⟨rfl, rfl, rfl⟩, fun _ => rfl⟩, ⟨fun ξ17 ξ17' h => ⟨rfl, rfl, rfl⟩, fun _ => rfl⟩, ⟨fun ξ17 ξ17' h => ⟨rfl, rfl, rfl⟩, fun _ => rfl⟩, ⟨fun ξ17 ξ17' h => ⟨rfl, rfl, rfl⟩, fun _ => rfl⟩, ⟨fun ξ17 ξ17' h => ⟨rfl, rfl, rfl⟩, fun _ => rfl⟩, ⟨fun ξ17 ξ17' h => ⟨rfl, rfl, rfl⟩, fun _ => rfl⟩, ⟨fun ξ17 ξ17' h => ⟨rfl, rfl, rfl⟩, fun _ => rfl⟩, ⟨fun ξ17 ξ17' h => ⟨rfl, rfl, rfl⟩, fun _ => rfl⟩, ⟨fun ξ17 ξ17' h => ⟨rfl, rfl, rfl⟩, fun _ => rfl⟩, ⟨fun ξ17 ξ17' h => ⟨rfl, rfl, rfl⟩, fun _ => rfl⟩, ⟨fun ξ17 ξ17' h => ⟨by simp only [h 14 (.inl rfl)], rfl, by simp only [h 14 (.inl rfl)]⟩, fun _ => rfl⟩, ⟨fun ξ17 ξ17' h => ⟨by simp only [h 15 (.inl rfl)], by simp only [h 15 (.inl rfl)], rfl⟩, fun _ => rfl⟩, ⟨fun ξ17 ξ17' h => ⟨rfl, rfl, rfl⟩, fun _ => rfl⟩, ⟨fun ξ17 ξ17' h => ⟨rfl, by simp only [h 15 (.inr rfl)], rfl⟩, fun _ => rfl⟩, trivial⟩ rfl (fun ξ17 => ?_)
          refine gx_o rfl (fun L2 => ?_) ?_
          · dsimp only [maskL, List.cons_append, List.nil_append]
            refine ox_y rfl (y_fieldAddr fo_24_4 rfl) ?_
            refine ox_nil ?_
            exact ex_capG (fun _ => (none, 0, 0)) rfl (List.append_nil _)
          dsimp only [aftL, List.set_cons_zero, List.set_cons_succ, List.nil_append, List.cons_append, List.append_nil]
          refine gx_o rfl (fun L2 => ?_) ?_
          · dsimp only [maskL, List.cons_append, List.nil_append]
            refine ox_y rfl (y_load1 2 (v := .slice A3_s14 s14.2.length c3_s14) sc_22 rfl rfl rfl) ?_
            refine ox_nil ?_
            exact ex_capG (fun _ => (none, 0, 0)) rfl (List.append_nil _)
          dsimp only [aftL, List.set_cons_zero, List.set_cons_succ, List.nil_append, List.cons_append, List.append_nil]
          refine gx_o rfl (fun L2 => ?_) ?_
          · dsimp only [maskL, List.cons_append, List.nil_append]
            refine ox_y rfl (y_fieldAddr fo_24_4 rfl) ?_
            refine ox_nil ?_
            exact ex_capG (fun _ => (none, 0, 0)) rfl (List.append_nil _)
          dsimp only [aftL, List.set_cons_zero, List.set_cons_succ, List.nil_append, List.cons_append, List.append_nil]
          refine gx_o rfl (fun L2 => ?_) ?_
          · dsimp only [maskL, List.cons_append, List.nil_append]
            refine ox_y rfl (y_load1 0 (v := .slice A0_4 p0.fLooks.length c0_4) sc_22 rfl rfl rfl) ?_
            refine ox_nil ?_
            exact ex_capG (fun _ => (none, 0, 0)) rfl (List.append_nil _)
          dsimp only [aftL, List.set_cons_zero, List.set_cons_succ, List.nil_append, List.cons_append, List.append_nil]
          refine gx_o rfl (fun L2 => ?_) ?_
          · dsimp only [maskL, List.cons_append, List.nil_append]
            refine ox_y rfl (y_move_int rfl) ?_
            refine ox_nil ?_
            exact ex_capG (fun _ => (none, 0, 0)) rfl (List.append_nil _)
          dsimp only [aftL, List.set_cons_zero, List.set_cons_succ, List.nil_append, List.cons_append, List.append_nil]
          refine gx_o rfl (fun L2 => ?_) ?_
          · dsimp only [maskL, List.cons_append, List.nil_append]
            refine ox_y rfl (y_move_int rfl) ?_
            refine ox_nil ?_
            exact ex_capG (fun _ => (none, 0, 0)) rfl (List.append_nil _)
          dsimp only [aftL, List.set_cons_zero, List.set_cons_succ, List.nil_append, List.cons_append, List.append_nil]
          refine gx_o rfl (fun L2 => ?_) ?_
          · dsimp only [maskL, List.cons_append, List.nil_append]
            refine ox_y rfl (y_convert ui_5 ui_3 rfl) ?_
            refine ox_nil ?_
            exact ex_capG (fun _ => (none, 0, 0)) rfl (List.append_nil _)
          dsimp only [aftL, List.set_cons_zero, List.set_cons_succ, List.nil_append, List.cons_append, List.append_nil]
          refine gx_o rfl (fun L2 => ?_) ?_
          · dsimp only [maskL, List.cons_append, List.nil_append]
            refine ox_y rfl (y_add rfl rfl) ?_
            refine ox_nil ?_
            exact ex_capG (fun _ => (none, 0, 0)) rfl (List.append_nil _)
          dsimp only [aftL, List.set_cons_zero, List.set_cons_succ, List.nil_append, List.cons_append, List.append_nil]
          refine gx_o rfl (fun L2 => ?_) ?_
          · dsimp only [maskL, List.cons_append, List.nil_append]
            refine ox_y rfl (y_fieldAddr fo_24_4 rfl) ?_
            refine ox_nil ?_
            exact ex_capG (fun _ => (none, 0, 0)) rfl (List.append_nil _)
          dsimp only [aftL, List.set_cons_zero, List.set_cons_succ, List.nil_append, List.cons_append, List.append_nil]
          refine gx_o rfl (fun L2 => ?_) ?_
          · dsimp only [maskL, List.cons_append, List.nil_append]
            refine ox_y rfl (y_load1 0 (v := .slice A0_4 p0.fLooks.length c0_4) sc_22 rfl rfl rfl) ?_
            refine ox_nil ?_
            exact ex_capG (fun _ => (none, 0, 0)) rfl (List.append_nil _)
          dsimp only [aftL, List.set_cons_zero, List.set_cons_succ, List.nil_append, List.cons_append, List.append_nil]
          refine gx_o rfl (fun L2 => ?_) ?_
          · dsimp only [maskL, List.cons_append, List.nil_append]
            refine ox_y rfl (y_len (us := []) us_22 rfl) ?_
            refine ox_nil ?_
            exact ex_capG (fun _ => (none, 0, 0)) rfl (List.append_nil _)
          dsimp only [aftL, List.set_cons_zero, List.set_cons_succ, List.nil_append, List.cons_append, List.append_nil]
          refine gx_o rfl (fun L2 => ?_) ?_
          · dsimp only [maskL, List.cons_append, List.nil_append]
            refine ox_y rfl (y_rem hg18 rfl rfl) ?_
            refine ox_nil ?_
            exact ex_capG (fun _ => (none, 0, 0)) rfl (List.append_nil _)
          dsimp only [aftL, List.set_cons_zero, List.set_cons_succ, List.nil_append, List.cons_append, List.append_nil]
          refine gx_o rfl (fun L2 => ?_) ?_
          · dsimp only [maskL, List.cons_append, List.nil_append]
            refine ox_y rfl (y_indexR sl_22 (by decide) hg19.1 hg19.2 (RdL.arg hr0_4) (encL_len TLook_cells_len rfl) rfl rfl) ?_
            refine ox_nil ?_
            exact ex_capG (fun _ => (none, 0, 0)) rfl (List.append_nil _)
          dsimp only [aftL, List.set_cons_zero, List.set_cons_succ, List.nil_append, List.cons_append, List.append_nil]
          refine gx_o rfl (fun L2 => ?_) ?_
          · dsimp only [maskL, List.cons_append, List.nil_append]
            refine ox_y rfl (y_loadRN (A := A0_4) (j := (Int.toNat (Int.tmod (w64 (s14.1 + (w64 p1))) ((p0.fLooks.length : Nat) : Int)) * 5)) [.int .i64 ((rdL p0.fLooks (Int.tmod (w64 (s14.1 + (w64 p1))) ((p0.fLooks.length : Nat) : Int))).fID), .int .i64 ((rdL p0.fLooks (Int.tmod (w64 (s14.1 + (w64 p1))) ((p0.fLooks.length : Nat) : Int))).fAt.fFoot), .int .i64 ((rdL p0.fLooks (Int.tmod (w64 (s14.1 + (w64 p1))) ((p0.fLooks.length : Nat) : Int))).fAt.fHour), .int .i64 ((rdL p0.fLooks (Int.tmod (w64 (s14.1 + (w64 p1))) ((p0.fLooks.length : Nat) : Int))).fHeat.fLo), .int .i64 ((rdL p0.fLooks (Int.tmod (w64 (s14.1 + (w64 p1))) ((p0.fLooks.length : Nat) : Int))).fHeat.fHi)] ag_34 (Nat.succ_pos _) (RdL.arg hr0_4) rfl (encL_gets TLook_cells_len hg19.1 (lt_nat hg19.2 rfl))) ?_
            refine ox_nil ?_
            exact ex_capG (fun _ => (none, 0, 0)) rfl (List.append_nil _)
          dsimp only [aftL, List.set_cons_zero, List.set_cons_succ, List.nil_append, List.cons_append, List.append_nil]
          refine gx_o rfl (fun L2 => ?_) ?_
          · dsimp only [maskL, List.cons_append, List.nil_append]
            refine ox_buildSliceE 1 (encL TLook_cells [(TLook.mk ((rdL p0.fLooks (Int.tmod (w64 (s14.1 + (w64 p1))) ((p0.fLooks.length : Nat) : Int))).fID) (TSpot.mk ((rdL p0.fLooks (Int.tmod (w64 (s14.1 + (w64 p1))) ((p0.fLooks.length : Nat) : Int))).fAt.fFoot) ((rdL p0.fLooks (Int.tmod (w64 (s14.1 + (w64 p1))) ((p0.fLooks.length : Nat) : Int))).fAt.fHour)) (TSpan.mk ((rdL p0.fLooks (Int.tmod (w64 (s14.1 + (w64 p1))) ((p0.fLooks.length : Nat) : Int))).fHeat.fLo) ((rdL p0.fLooks (Int.tmod (w64 (s14.1 + (w64 p1))) ((p0.fLooks.length : Nat) : Int))).fHeat.fHi)))]) _ mc_34_1 us_22 ze_34 by_34 (by decide) (by decide) (by kernel_rfl) (encL_len TLook_cells_len rfl) rfl (fun b20 => ?_)
            refine ox_nil ?_
            exact ex_capG (fun _ => (none, b20, 0)) rfl rfl
          dsimp only [aftL, List.set_cons_zero, List.set_cons_succ, List.nil_append, List.cons_append, List.append_nil]
          refine gx_o rfl (fun L2 => ?_) ?_
          · dsimp only [maskL, List.cons_append, List.nil_append]
            refine ox_append0 3 us_22 ze_34 by_34 rfl rfl rfl (RdL.row 4 rfl) (encL_len TLook_cells_len rfl) (encL_one TLook_cells_one _) (app_room hg23 (by decide)) rfl (fun A21 c22 => ?_)
            refine ox_nil ?_
            exact ex_capG (fun _ => (A21, 0, c22)) rfl (List.append_nil _)
          dsimp only [aftL, List.set_cons_zero, List.set_cons_succ, List.nil_append, List.cons_append, List.append_nil]
          refine gx_o rfl (fun L2 => ?_) ?_
          · dsimp only [maskL, List.cons_append, List.nil_append]
            refine ox_y rfl (y_fieldAddr fo_24_4 rfl) ?_
            refine ox_nil ?_
            exact ex_capG (fun _ => (none, 0, 0)) rfl (List.append_nil _)
          dsimp only [aftL, List.set_cons_zero, List.set_cons_succ, List.nil_append, List.cons_append, List.append_nil]
          refine gx_n rfl (fun L2 => ?_) ?_
          · dsimp only [maskL, List.cons_append, List.nil_append]
            refine ox_n rfl (y_store1 2 (v := .slice (ξ17 15 0).1 (s14.2.length + 1) (ξ17 15 0).2.2) sz_22 rfl (Nat.lt_of_lt_of_le (Nat.lt_succ_self _) (Nat.le_of_ble_eq_true rfl)) rfl rfl rfl) ?_
            refine ox_nil ?_
            exact ex_capGn (fun _ => (none, 0, 0)) (List.append_nil _)
          dsimp only [aftL, List.set_cons_zero, List.set_cons_succ, List.nil_append, List.cons_append, List.append_nil]
          refine gx_nil ?_
          refine ex_block ?_
          refine ex_then ?_
          refine cx_region ?_
          refine ox_y rfl (y_move_int rfl) ?_
          refine ox_y rfl (y_add rfl rfl) ?_
          refine ox_y rfl (y_assign_int rfl) ?_
          refine ox_nil ?_
          refine ex_take 4 ?_
          obtain rfl := Option.some.inj h
          exact ex_next ⟨_, (ξ17 15 0).1, (ξ17 15 0).2.2, (s14.2.length + 1), (hn_app rfl rfl), rfl, (keep (keep (keep (keep (keep (keep (keep rfl rfl) rfl) rfl) rfl) rfl) rfl) rfl)⟩
        · refine cx_false (congrArg Value.bool hp16) ?_
          refine cx_exit ?_
          refine ex_then_exit ?_
          obtain rfl := Option.some.inj h
          exact ex_stop ⟨rfl, _, A3_s14, c3_s14, s14.2.length, rfl, rfl, (keep (keep (keep (keep (keep (keep (keep rfl rfl) rfl) rfl) rfl) rfl) rfl) rfl)⟩
      · intro e L tm hJ
        obtain ⟨rfl, tm0_u15, A3_u15, c3_u15, n3_u15, rfl, rfl, rfl⟩ := hJ
        refine ⟨(by intro hc; cases hc), ?_⟩
        refine ex_block_here ?_
        refine ex_then ?_
        refine cx_seq ?_
        refine cx_region ?_
        refine ox_y rfl (y_loadN 0 [.int .i64 p0.fRise, .int .i64 p0.fFall, .int .i64 p0.fUp, .int .i64 p0.fDown, .slice A0_4 p0.fLooks.length c0_4] ag_24 rfl rfl rfl) ?_
        refine ox_y rfl (y_loadN 1 [.int .i64 p2.fFoot, .int .i64 p2.fHour] ag_26 rfl rfl rfl) ?_
        obtain ⟨y25, hy26, h⟩ := bind_some h
        refine ox_y rfl (y_call [.agg #[.int .i64 p0.fRise, .int .i64 p0.fFall, .int .i64 p0.fUp, .int .i64 p0.fDown, .slice A0_4 p0.fLooks.length c0_4], .agg #[.int .i64 p2.fFoot, .int .i64 p2.fHour]] go_14 rfl (fun W2 hW2 => fire_Ends_ok p0 p2 y25 hy26 W2 A0_4 p0.fLooks.length c0_4 rfl ((RdL.arg hr0_4) W2 hW2)) rfl) ?_
        refine ox_y rfl (y_move_tuple rfl) ?_
        refine ox_y rfl (y_extract (vs := [.agg #[.int .i64 y25.1.fSpan.fLo, .int .i64 y25.1.fSpan.fHi, .int .i64 y25.1.fLow, .int .i64 y25.1.fHigh], .int .i64 y25.2]) (v := .agg #[.int .i64 y25.1.fSpan.fLo, .int .i64 y25.1.fSpan.fHi, .int .i64 y25.1.fLow, .int .i64 y25.1.fHigh]) rfl rfl) ?_
        refine ox_y rfl (y_extract (vs := [.agg #[.int .i64 y25.1.fSpan.fLo, .int .i64 y25.1.fSpan.fHi, .int .i64 y25.1.fLow, .int .i64 y25.1.fHigh], .int .i64 y25.2]) (v := .int .i64 y25.2) rfl rfl) ?_
        refine ox_alloc ze_36 rfl (fun b27 => ?_)
        refine ox_n rfl (y_storeN 4 [.int .i64 y25.1.fSpan.fLo, .int .i64 y25.1.fSpan.fHi, .int .i64 y25.1.fLow, .int .i64 y25.1.fHigh] sz_36 rfl (Nat.le_of_ble_eq_true rfl) rfl rfl rfl) ?_
        refine ox_y rfl (y_assign_int rfl) ?_
        refine ox_nil ?_
        refine ex_then ?_
        refine cx_seq ?_
        refine cx_region ?_
        refine ox_y rfl (y_loadN 2 [.int .i64 p0.fRise, .int .i64 p0.fFall, .int .i64 p0.fUp, .int .i64 p0.fDown, .slice A3_u15 u15.2.length c3_u15] ag_24 rfl rfl rfl) ?_
        refine ox_y rfl (y_loadN 1 [.int .i64 p2.fFoot, .int .i64 p2.fHour] ag_26 rfl rfl rfl) ?_
        obtain ⟨y28, hy29, h⟩ := bind_some h
        refine ox_y rfl (y_call [.agg #[.int .i64 p0.fRise, .int .i64 p0.fFall, .int .i64 p0.fUp, .int .i64 p0.fDown, .slice A3_u15 u15.2.length c3_u15], .agg #[.int .i64 p2.fFoot, .int .i64 p2.fHour]] go_14 rfl (fun W2 hW2 => fire_Ends_ok (TFire.mk p0.fRise p0.fFall p0.fUp p0.fDown u15.2) p2 y28 hy29 W2 A3_u15 u15.2.length c3_u15 rfl ((RdL.row 3 rfl) W2 hW2)) rfl) ?_
        refine ox_y rfl (y_move_tuple rfl) ?_
        refine ox_y rfl (y_extract (vs := [.agg #[.int .i64 y28.1.fSpan.fLo, .int .i64 y28.1.fSpan.fHi, .int .i64 y28.1.fLow, .int .i64 y28.1.fHigh], .int .i64 y28.2]) (v := .agg #[.int .i64 y28.1.fSpan.fLo, .int .i64 y28.1.fSpan.fHi, .int .i64 y28.1.fLow, .int .i64 y28.1.fHigh]) rfl rfl) ?_
        refine ox_y rfl (y_extract (vs := [.agg #[.int .i64 y28.1.fSpan.fLo, .int .i64 y28.1.fSpan.fHi, .int .i64 y28.1.fLow, .int .i64 y28.1.fHigh], .int .i64 y28.2]) (v := .int .i64 y28.2) rfl rfl) ?_
        refine ox_alloc ze_36 rfl (fun b30 => ?_)
        try dsimp only [List.nil_append, List.cons_append, List.set_cons_zero, List.set_cons_succ]
        refine ox_n rfl (y_storeN 5 [.int .i64 y28.1.fSpan.fLo, .int .i64 y28.1.fSpan.fHi, .int .i64 y28.1.fLow, .int .i64 y28.1.fHigh] sz_36 rfl (Nat.le_of_ble_eq_true rfl) rfl rfl rfl) ?_
        refine ox_y rfl (y_assign_int rfl) ?_
        refine ox_nil ?_
        refine ex_then ?_
        refine cx_seq ?_
        refine cx_region ?_
        refine ox_y rfl (y_loadN 0 [.int .i64 p0.fRise, .int .i64 p0.fFall, .int .i64 p0.fUp, .int .i64 p0.fDown, .slice A0_4 p0.fLooks.length c0_4] ag_24 rfl rfl rfl) ?_
        obtain ⟨y31, hy32, h⟩ := bind_some h
        refine ox_y rfl (y_call [.agg #[.int .i64 p0.fRise, .int .i64 p0.fFall, .int .i64 p0.fUp, .int .i64 p0.fDown, .slice A0_4 p0.fLooks.length c0_4]] go_15 rfl (fun W2 hW2 => fire_Clash_ok p0 y31 hy32 W2 A0_4 p0.fLooks.length c0_4 rfl ((RdL.arg hr0_4) W2 hW2)) rfl) ?_
        refine ox_y rfl (y_move_tuple rfl) ?_
        refine ox_y rfl (y_extract (vs := [.int .i64 y31.1, .int .i64 y31.2.1, .bool y31.2.2.1, .int .i64 y31.2.2.2]) (v := .int .i64 y31.1) rfl rfl) ?_
        refine ox_y rfl (y_extract (vs := [.int .i64 y31.1, .int .i64 y31.2.1, .bool y31.2.2.1, .int .i64 y31.2.2.2]) (v := .int .i64 y31.2.1) rfl rfl) ?_
        refine ox_y rfl (y_extract (vs := [.int .i64 y31.1, .int .i64 y31.2.1, .bool y31.2.2.1, .int .i64 y31.2.2.2]) (v := .bool y31.2.2.1) rfl rfl) ?_
        refine ox_y rfl (y_extract (vs := [.int .i64 y31.1, .int .i64 y31.2.1, .bool y31.2.2.1, .int .i64 y31.2.2.2]) (v := .int .i64 y31.2.2.2) rfl rfl) ?_
        refine ox_y rfl (y_assign_int rfl) ?_
        refine ox_y rfl (y_assign_int rfl) ?_
        refine ox_y rfl (y_assign_bool rfl) ?_
        refine ox_y rfl (y_assign_int rfl) ?_
        refine ox_nil ?_
        refine ex_then ?_
        refine cx_seq ?_
        refine cx_region ?_
        refine ox_y rfl (y_loadN 2 [.int .i64 p0.fRise, .int .i64 p0.fFall, .int .i64 p0.fUp, .int .i64 p0.fDown, .slice A3_u15 u15.2.length c3_u15] ag_24 rfl rfl rfl) ?_
        obtain ⟨y33, hy34, h⟩ := bind_some h
        refine ox_y rfl (y_call [.agg #[.int .i64 p0.fRise, .int .i64 p0.fFall, .int .i64 p0.fUp, .int .i64 p0.fDown, .slice A3_u15 u15.2.length c3_u15]] go_15 rfl (fun W2 hW2 => fire_Clash_ok (TFire.mk p0.fRise p0.fFall p0.fUp p0.fDown u15.2) y33 hy34 W2 A3_u15 u15.2.length c3_u15 rfl ((RdL.row 3 rfl) W2 hW2)) rfl) ?_
        refine ox_y rfl (y_move_tuple rfl) ?_
        refine ox_y rfl (y_extract (vs := [.int .i64 y33.1, .int .i64 y33.2.1, .bool y33.2.2.1, .int .i64 y33.2.2.2]) (v := .int .i64 y33.1) rfl rfl) ?_
        refine ox_y rfl (y_extract (vs := [.int .i64 y33.1, .int .i64 y33.2.1, .bool y33.2.2.1, .int .i64 y33.2.2.2]) (v := .int .i64 y33.2.1) rfl rfl) ?_
        refine ox_y rfl (y_extract (vs := [.int .i64 y33.1, .int .i64 y33.2.1, .bool y33.2.2.1, .int .i64 y33.2.2.2]) (v := .bool y33.2.2.1) rfl rfl) ?_
        refine ox_y rfl (y_extract (vs := [.int .i64 y33.1, .int .i64 y33.2.1, .bool y33.2.2.1, .int .i64 y33.2.2.2]) (v := .int .i64 y33.2.2.2) rfl rfl) ?_
        refine ox_y rfl (y_assign_int rfl) ?_
        refine ox_y rfl (y_assign_int rfl) ?_
        refine ox_y rfl (y_assign_bool rfl) ?_
        refine ox_y rfl (y_assign_int rfl) ?_
        refine ox_nil ?_
        refine ex_then ?_
        refine cx_seq ?_
        refine cx_region ?_
        refine ox_y rfl (y_loadN 0 [.int .i64 p0.fRise, .int .i64 p0.fFall, .int .i64 p0.fUp, .int .i64 p0.fDown, .slice A0_4 p0.fLooks.length c0_4] ag_24 rfl rfl rfl) ?_
        obtain ⟨y35, hy36, h⟩ := bind_some h
        refine ox_call [.agg #[.int .i64 p0.fRise, .int .i64 p0.fFall, .int .i64 p0.fUp, .int .i64 p0.fDown, .slice A0_4 p0.fLooks.length c0_4]] _ _ _ rfl go_16 rfl (fun W2 hW2 => fire_Suspects_ok p0 y35 hy36 W2 A0_4 p0.fLooks.length c0_4 rfl ((RdL.arg hr0_4) W2 hW2)) ?_
        rintro ⟨A37, n39, c38⟩ hn40
        replace hn40 : n39 = y35.1.length := hn40; subst hn40
        try dsimp only [List.nil_append, List.cons_append, List.set_cons_zero, List.set_cons_succ]
        refine ox_y rfl (y_move_tuple rfl) ?_
        refine ox_y rfl (y_extract (vs := [.slice A37 y35.1.length c38, .int .i64 y35.2]) (v := .slice A37 y35.1.length c38) rfl rfl) ?_
        refine ox_y rfl (y_extract (vs := [.slice A37 y35.1.length c38, .int .i64 y35.2]) (v := .int .i64 y35.2) rfl rfl) ?_
        refine ox_y rfl (y_assign_slice rfl) ?_
        refine ox_y rfl (y_assign_int rfl) ?_
        refine ox_nil ?_
        refine ex_then ?_
        refine cx_seq ?_
        refine cx_region ?_
        refine ox_y rfl (y_loadN 2 [.int .i64 p0.fRise, .int .i64 p0.fFall, .int .i64 p0.fUp, .int .i64 p0.fDown, .slice A3_u15 u15.2.length c3_u15] ag_24 rfl rfl rfl) ?_
        obtain ⟨y41, hy42, h⟩ := bind_some h
        refine ox_call [.agg #[.int .i64 p0.fRise, .int .i64 p0.fFall, .int .i64 p0.fUp, .int .i64 p0.fDown, .slice A3_u15 u15.2.length c3_u15]] _ _ _ rfl go_16 rfl (fun W2 hW2 => fire_Suspects_ok (TFire.mk p0.fRise p0.fFall p0.fUp p0.fDown u15.2) y41 hy42 W2 A3_u15 u15.2.length c3_u15 rfl ((RdL.row 3 rfl) W2 hW2)) ?_
        rintro ⟨A43, n45, c44⟩ hn46
        replace hn46 : n45 = y41.1.length := hn46; subst hn46
        try dsimp only [List.nil_append, List.cons_append, List.set_cons_zero, List.set_cons_succ]
        refine ox_y rfl (y_move_tuple rfl) ?_
        refine ox_y rfl (y_extract (vs := [.slice A43 y41.1.length c44, .int .i64 y41.2]) (v := .slice A43 y41.1.length c44) rfl rfl) ?_
        refine ox_y rfl (y_extract (vs := [.slice A43 y41.1.length c44, .int .i64 y41.2]) (v := .int .i64 y41.2) rfl rfl) ?_
        refine ox_y rfl (y_assign_slice rfl) ?_
        refine ox_y rfl (y_assign_int rfl) ?_
        refine ox_nil ?_
        refine ex_then ?_
        refine cx_seq ?_
        refine cx_region ?_
        obtain ⟨y47, hy48, h⟩ := bind_some h
        refine ox_y rfl (y_call [] go_13 rfl (fun W2 hW2 => calxlaw02_sanity_ok  y47 hy48 W2 ) rfl) ?_
        refine ox_y rfl (y_move_bool rfl) ?_
        refine ox_join 4 (fun tm0 => (upd (upd (upd (upd (upd (upd (upd (upd (upd (upd (upd (upd (upd (upd (upd (upd tm0 6 (.bool false)) 10 (.int .i64 y25.2)) 12 (.int .i64 y28.2)) 13 (.int .i64 y31.1)) 14 (.int .i64 y31.2.1)) 15 (.bool y31.2.2.1)) 16 (.int .i64 y31.2.2.2)) 17 (.int .i64 y33.1)) 18 (.int .i64 y33.2.1)) 19 (.bool y33.2.2.1)) 20 (.int .i64 y33.2.2.2)) 21 (.slice A37 y35.1.length c38)) 22 (.int .i64 y35.2)) 23 (.slice A43 y41.1.length c44)) 24 (.int .i64 y41.2)) 101 (.bool (y47 && (((y25.1.fSpan.fLo == y28.1.fSpan.fLo) && (y25.1.fSpan.fHi == y28.1.fSpan.fHi)) && ((y25.1.fLow == y28.1.fLow) && (y25.1.fHigh == y28.1.fHigh))))))) (fun tm0 => ?_) (fun key => ?_)
        · refine ox_y rfl (y_move_bool rfl) ?_
          refine ox_join 4 (fun tm0 => (upd (upd (upd (upd (upd (upd (upd (upd (upd (upd (upd (upd (upd (upd tm0 6 (.bool false)) 13 (.int .i64 y31.1)) 14 (.int .i64 y31.2.1)) 15 (.bool y31.2.2.1)) 16 (.int .i64 y31.2.2.2)) 17 (.int .i64 y33.1)) 18 (.int .i64 y33.2.1)) 19 (.bool y33.2.2.1)) 20 (.int .i64 y33.2.2.2)) 21 (.slice A37 y35.1.length c38)) 22 (.int .i64 y35.2)) 23 (.slice A43 y41.1.length c44)) 24 (.int .i64 y41.2)) 106 (.bool ((y47 && (((y25.1.fSpan.fLo == y28.1.fSpan.fLo) && (y25.1.fSpan.fHi == y28.1.fSpan.fHi)) && ((y25.1.fLow == y28.1.fLow) && (y25.1.fHigh == y28.1.fHigh)))) && (y25.2 == y28.2))))) (fun tm0 => ?_) (fun key => ?_)
          · refine ox_y rfl (y_move_bool rfl) ?_
            refine ox_join 4 (fun tm0 => (upd (upd (upd (upd (upd (upd (upd (upd (upd (upd (upd (upd tm0 6 (.bool false)) 14 (.int .i64 y31.2.1)) 15 (.bool y31.2.2.1)) 16 (.int .i64 y31.2.2.2)) 18 (.int .i64 y33.2.1)) 19 (.bool y33.2.2.1)) 20 (.int .i64 y33.2.2.2)) 21 (.slice A37 y35.1.length c38)) 22 (.int .i64 y35.2)) 23 (.slice A43 y41.1.length c44)) 24 (.int .i64 y41.2)) 111 (.bool (((y47 && (((y25.1.fSpan.fLo == y28.1.fSpan.fLo) && (y25.1.fSpan.fHi == y28.1.fSpan.fHi)) && ((y25.1.fLow == y28.1.fLow) && (y25.1.fHigh == y28.1.fHigh)))) && (y25.2 == y28.2)) && (y31.1 == y33.1))))) (fun tm0 => ?_) (fun key => ?_)
            · refine ox_y rfl (y_move_bool rfl) ?_
              refine ox_join 4 (fun tm0 => (upd (upd (upd (upd (upd (upd (upd (upd (upd (upd tm0 6 (.bool false)) 15 (.bool y31.2.2.1)) 16 (.int .i64 y31.2.2.2)) 19 (.bool y33.2.2.1)) 20 (.int .i64 y33.2.2.2)) 21 (.slice A37 y35.1.length c38)) 22 (.int .i64 y35.2)) 23 (.slice A43 y41.1.length c44)) 24 (.int .i64 y41.2)) 116 (.bool ((((y47 && (((y25.1.fSpan.fLo == y28.1.fSpan.fLo) && (y25.1.fSpan.fHi == y28.1.fSpan.fHi)) && ((y25.1.fLow == y28.1.fLow) && (y25.1.fHigh == y28.1.fHigh)))) && (y25.2 == y28.2)) && (y31.1 == y33.1)) && (y31.2.1 == y33.2.1))))) (fun tm0 => ?_) (fun key => ?_)
              · refine ox_y rfl (y_move_bool rfl) ?_
                refine ox_join 4 (fun tm0 => (upd (upd (upd (upd (upd (upd (upd (upd tm0 6 (.bool false)) 16 (.int .i64 y31.2.2.2)) 20 (.int .i64 y33.2.2.2)) 21 (.slice A37 y35.1.length c38)) 22 (.int .i64 y35.2)) 23 (.slice A43 y41.1.length c44)) 24 (.int .i64 y41.2)) 121 (.bool (((((y47 && (((y25.1.fSpan.fLo == y28.1.fSpan.fLo) && (y25.1.fSpan.fHi == y28.1.fSpan.fHi)) && ((y25.1.fLow == y28.1.fLow) && (y25.1.fHigh == y28.1.fHigh)))) && (y25.2 == y28.2)) && (y31.1 == y33.1)) && (y31.2.1 == y33.2.1)) && (y31.2.2.1 == y33.2.2.1))))) (fun tm0 => ?_) (fun key => ?_)
                · refine ox_y rfl (y_move_bool rfl) ?_
                  refine ox_join 4 (fun tm0 => (upd (upd (upd (upd (upd (upd tm0 6 (.bool false)) 21 (.slice A37 y35.1.length c38)) 22 (.int .i64 y35.2)) 23 (.slice A43 y41.1.length c44)) 24 (.int .i64 y41.2)) 126 (.bool ((((((y47 && (((y25.1.fSpan.fLo == y28.1.fSpan.fLo) && (y25.1.fSpan.fHi == y28.1.fSpan.fHi)) && ((y25.1.fLow == y28.1.fLow) && (y25.1.fHigh == y28.1.fHigh)))) && (y25.2 == y28.2)) && (y31.1 == y33.1)) && (y31.2.1 == y33.2.1)) && (y31.2.2.1 == y33.2.2.1)) && (y31.2.2.2 == y33.2.2.2))))) (fun tm0 => ?_) (fun key => ?_)
                  · refine ox_y rfl (y_move_bool rfl) ?_
                    obtain ⟨b56, hb57, h⟩ := bind_some h
                    refine ox_join 4 (fun tm0 => (upd (upd (upd (upd tm0 6 (.bool false)) 22 (.int .i64 y35.2)) 24 (.int .i64 y41.2)) 131 (.bool b56))) (fun tm0 => ?_) (fun key => ?_)
                    · refine ox_y rfl (y_move_bool rfl) ?_
                      refine ox_join 4 (fun tm0 => (upd (upd tm0 6 (.bool false)) 136 (.bool (b56 && (y35.2 == y41.2))))) (fun tm0 => ?_) (fun key => ?_)
                      · refine ox_y rfl (y_assign_bool rfl) ?_
                        refine ox_nil ?_
                        refine ex_then ?_
                        refine cx_ret ?_
                        obtain rfl := Option.some.inj h
                        exact ex_res1 (.inl rfl) rfl (resV_tmp (v := .bool (b56 && (y35.2 == y41.2))) rfl) (fun W2 hW2 => ⟨rfl, hW2.none⟩)
                      · rcases bool_cases b56 with hp58 | hp58
                        · refine ox_y (sees_t rfl rfl rfl rfl hp58) (y_move_int rfl) ?_
                          refine ox_y (sees_t rfl rfl rfl rfl hp58) (y_move_int rfl) ?_
                          refine ox_y (sees_t rfl rfl rfl rfl hp58) (y_eql rfl rfl) ?_
                          refine ox_y rfl (y_pick_tb (congrArg Value.bool hp58) rfl) ?_
                          exact key _ _ (keep (keep rfl rfl) (congrArg Value.bool (and_t hp58)))
                        · refine ox_skip (sees_f rfl rfl rfl rfl hp58) ?_
                          refine ox_skip (sees_f rfl rfl rfl rfl hp58) ?_
                          refine ox_skip (sees_f rfl rfl rfl rfl hp58) ?_
                          refine ox_y rfl (y_pick_fb (congrArg Value.bool hp58) rfl) ?_
                          exact key _ _ (keep (keep rfl rfl) (congrArg Value.bool (and_f hp58)))
                    · clear h; rcases ite_some hb57 with ⟨hp55, h⟩ | ⟨hp55, h⟩
                      · refine ox_y (sees_t rfl rfl rfl rfl hp55) (y_move_slice rfl) ?_
                        refine ox_y (sees_t rfl rfl rfl rfl hp55) (y_move_slice rfl) ?_
                        obtain ⟨y59, hy60, h⟩ := bind_some h
                        refine ox_y (sees_t rfl rfl rfl rfl hp55) (y_call [.slice A37 y35.1.length c38, .slice A43 y41.1.length c44] go_17 rfl (fun W2 hW2 => calxref02_SameInts_ok y35.1 y41.1 y59 hy60 W2 A37 y35.1.length c38 rfl ((RdL.row 6 rfl) W2 hW2) A43 y41.1.length c44 rfl ((RdL.row 7 rfl) W2 hW2)) rfl) ?_
                        refine ox_y rfl (y_pick_tb (congrArg Value.bool hp55) rfl) ?_
                        obtain rfl := Option.some.inj h
                        exact key _ _ (keep (keep (keep (keep rfl rfl) rfl) rfl) rfl)
                      · refine ox_skip (sees_f rfl rfl rfl rfl hp55) ?_
                        refine ox_skip (sees_f rfl rfl rfl rfl hp55) ?_
                        refine ox_skip (sees_f rfl rfl rfl rfl hp55) ?_
                        refine ox_y rfl (y_pick_fb (congrArg Value.bool hp55) rfl) ?_
                        obtain rfl := Option.some.inj h
                        exact key _ _ (keep (keep (keep (keep rfl rfl) rfl) rfl) rfl)
                  · rcases bool_cases (((((y47 && (((y25.1.fSpan.fLo == y28.1.fSpan.fLo) && (y25.1.fSpan.fHi == y28.1.fSpan.fHi)) && ((y25.1.fLow == y28.1.fLow) && (y25.1.fHigh == y28.1.fHigh)))) && (y25.2 == y28.2)) && (y31.1 == y33.1)) && (y31.2.1 == y33.2.1)) && (y31.2.2.1 == y33.2.2.1)) with hp54 | hp54
                    · refine ox_y (sees_t rfl rfl rfl rfl hp54) (y_move_int rfl) ?_
                      refine ox_y (sees_t rfl rfl rfl rfl hp54) (y_move_int rfl) ?_
                      refine ox_y (sees_t rfl rfl rfl rfl hp54) (y_eql rfl rfl) ?_
                      refine ox_y rfl (y_pick_tb (congrArg Value.bool hp54) rfl) ?_
                      exact key _ _ (keep (keep (keep (keep (keep (keep rfl rfl) rfl) rfl) rfl) rfl) (congrArg Value.bool (and_t hp54)))
                    · refine ox_skip (sees_f rfl rfl rfl rfl hp54) ?_
                      refine ox_skip (sees_f rfl rfl rfl rfl hp54) ?_
                      refine ox_skip (sees_f rfl rfl rfl rfl hp54) ?_
                      refine ox_y rfl (y_pick_fb (congrArg Value.bool hp54) rfl) ?_
                      exact key _ _ (keep (keep (keep (keep (keep (keep rfl rfl) rfl) rfl) rfl) rfl) (congrArg Value.bool (and_f hp54)))
                · rcases bool_cases ((((y47 && (((y25.1.fSpan.fLo == y28.1.fSpan.fLo) && (y25.1.fSpan.fHi == y28.1.fSpan.fHi)) && ((y25.1.fLow == y28.1.fLow) && (y25.1.fHigh == y28.1.fHigh)))) && (y25.2 == y28.2)) && (y31.1 == y33.1)) && (y31.2.1 == y33.2.1)) with hp53 | hp53
                  · refine ox_y (sees_t rfl rfl rfl rfl hp53) (y_move_bool rfl) ?_
                    refine ox_y (sees_t rfl rfl rfl rfl hp53) (y_move_bool rfl) ?_
                    refine ox_y (sees_t rfl rfl rfl rfl hp53) (y_eqlb ub_4 rfl rfl) ?_
                    refine ox_y rfl (y_pick_tb (congrArg Value.bool hp53) rfl) ?_
                    exact key _ _ (keep (keep (keep (keep (keep (keep (keep (keep rfl rfl) rfl) rfl) rfl) rfl) rfl) rfl) (congrArg Value.bool (and_t hp53)))
                  · refine ox_skip (sees_f rfl rfl rfl rfl hp53) ?_
                    refine ox_skip (sees_f rfl rfl rfl rfl hp53) ?_
                    refine ox_skip (sees_f rfl rfl rfl rfl hp53) ?_
                    refine ox_y rfl (y_pick_fb (congrArg Value.bool hp53) rfl) ?_
                    exact key _ _ (keep (keep (keep (keep (keep (keep (keep (keep rfl rfl) rfl) rfl) rfl) rfl) rfl) rfl) (congrArg Value.bool (and_f hp53)))
              · rcases bool_cases (((y47 && (((y25.1.fSpan.fLo == y28.1.fSpan.fLo) && (y25.1.fSpan.fHi == y28.1.fSpan.fHi)) && ((y25.1.fLow == y28.1.fLow) && (y25.1.fHigh == y28.1.fHigh)))) && (y25.2 == y28.2)) && (y31.1 == y33.1)) with hp52 | hp52
                · refine ox_y (sees_t rfl rfl rfl rfl hp52) (y_move_int rfl) ?_
                  refine ox_y (sees_t rfl rfl rfl rfl hp52) (y_move_int rfl) ?_
                  refine ox_y (sees_t rfl rfl rfl rfl hp52) (y_eql rfl rfl) ?_
                  refine ox_y rfl (y_pick_tb (congrArg Value.bool hp52) rfl) ?_
                  exact key _ _ (keep (keep (keep (keep (keep (keep (keep (keep (keep (keep rfl rfl) rfl) rfl) rfl) rfl) rfl) rfl) rfl) rfl) (congrArg Value.bool (and_t hp52)))
                · refine ox_skip (sees_f rfl rfl rfl rfl hp52) ?_
                  refine ox_skip (sees_f rfl rfl rfl rfl hp52) ?_
                  refine ox_skip (sees_f rfl rfl rfl rfl hp52) ?_
                  refine ox_y rfl (y_pick_fb (congrArg Value.bool hp52) rfl) ?_
                  exact key _ _ (keep (keep (keep (keep (keep (keep (keep (keep (keep (keep rfl rfl) rfl) rfl) rfl) rfl) rfl) rfl) rfl) rfl) (congrArg Value.bool (and_f hp52)))
            · rcases bool_cases ((y47 && (((y25.1.fSpan.fLo == y28.1.fSpan.fLo) && (y25.1.fSpan.fHi == y28.1.fSpan.fHi)) && ((y25.1.fLow == y28.1.fLow) && (y25.1.fHigh == y28.1.fHigh)))) && (y25.2 == y28.2)) with hp51 | hp51
              · refine ox_y (sees_t rfl rfl rfl rfl hp51) (y_move_int rfl) ?_
                refine ox_y (sees_t rfl rfl rfl rfl hp51) (y_move_int rfl) ?_
                refine ox_y (sees_t rfl rfl rfl rfl hp51) (y_eql rfl rfl) ?_
                refine ox_y rfl (y_pick_tb (congrArg Value.bool hp51) rfl) ?_
                exact key _ _ (keep (keep (keep (keep (keep (keep (keep (keep (keep (keep (keep (keep rfl rfl) rfl) rfl) rfl) rfl) rfl) rfl) rfl) rfl) rfl) rfl) (congrArg Value.bool (and_t hp51)))
              · refine ox_skip (sees_f rfl rfl rfl rfl hp51) ?_
                refine ox_skip (sees_f rfl rfl rfl rfl hp51) ?_
                refine ox_skip (sees_f rfl rfl rfl rfl hp51) ?_
                refine ox_y rfl (y_pick_fb (congrArg Value.bool hp51) rfl) ?_
                exact key _ _ (keep (keep (keep (keep (keep (keep (keep (keep (keep (keep (keep (keep rfl rfl) rfl) rfl) rfl) rfl) rfl) rfl) rfl) rfl) rfl) rfl) (congrArg Value.bool (and_f hp51)))
          · rcases bool_cases (y47 && (((y25.1.fSpan.fLo == y28.1.fSpan.fLo) && (y25.1.fSpan.fHi == y28.1.fSpan.fHi)) && ((y25.1.fLow == y28.1.fLow) && (y25.1.fHigh == y28.1.fHigh)))) with hp50 | hp50
            · refine ox_y (sees_t rfl rfl rfl rfl hp50) (y_move_int rfl) ?_
              refine ox_y (sees_t rfl rfl rfl rfl hp50) (y_move_int rfl) ?_
              refine ox_y (sees_t rfl rfl rfl rfl hp50) (y_eql rfl rfl) ?_
              refine ox_y rfl (y_pick_tb (congrArg Value.bool hp50) rfl) ?_
              exact key _ _ (keep (keep (keep (keep (keep (keep (keep (keep (keep (keep (keep (keep (keep (keep rfl rfl) rfl) rfl) rfl) rfl) rfl) rfl) rfl) rfl) rfl) rfl) rfl) rfl) (congrArg Value.bool (and_t hp50)))
            · refine ox_skip (sees_f rfl rfl rfl rfl hp50) ?_
              refine ox_skip (sees_f rfl rfl rfl rfl hp50) ?_
              refine ox_skip (sees_f rfl rfl rfl rfl hp50) ?_
              refine ox_y rfl (y_pick_fb (congrArg Value.bool hp50) rfl) ?_
              exact key _ _ (keep (keep (keep (keep (keep (keep (keep (keep (keep (keep (keep (keep (keep (keep rfl rfl) rfl) rfl) rfl) rfl) rfl) rfl) rfl) rfl) rfl) rfl) rfl) rfl) (congrArg Value.bool (and_f hp50)))
        · rcases bool_cases y47 with hp49 | hp49
          · refine ox_y (sees_t rfl rfl rfl rfl hp49) (y_loadN 4 [.int .i64 y25.1.fSpan.fLo, .int .i64 y25.1.fSpan.fHi, .int .i64 y25.1.fLow, .int .i64 y25.1.fHigh] ag_36 rfl rfl rfl) ?_
            refine ox_y (sees_t rfl rfl rfl rfl hp49) (y_loadN 5 [.int .i64 y28.1.fSpan.fLo, .int .i64 y28.1.fSpan.fHi, .int .i64 y28.1.fLow, .int .i64 y28.1.fHigh] ag_36 rfl rfl rfl) ?_
            refine ox_y (sees_t rfl rfl rfl rfl hp49) (y_eqla (b := (((y25.1.fSpan.fLo == y28.1.fSpan.fLo) && (y25.1.fSpan.fHi == y28.1.fSpan.fHi)) && ((y25.1.fLow == y28.1.fLow) && (y25.1.fHigh == y28.1.fHigh)))) eg_36 rfl rfl (fun _ => (eqS3 fl_36 (partN (cs := #[.int .i64 y25.1.fSpan.fLo, .int .i64 y25.1.fSpan.fHi]) ag_32 (by kernel_rfl)) (part1 sc_3 rfl) (part1 sc_3 rfl) (partN (cs := #[.int .i64 y28.1.fSpan.fLo, .int .i64 y28.1.fSpan.fHi]) ag_32 (by kernel_rfl)) (part1 sc_3 rfl) (part1 sc_3 rfl) (eqS2 fl_32 (part1 sc_3 rfl) (part1 sc_3 rfl) (part1 sc_3 rfl) (part1 sc_3 rfl) (run_equalIn_int _ _ _ _ _ _ _ ui_3) (run_equalIn_int _ _ _ _ _ _ _ ui_3)) (run_equalIn_int _ _ _ _ _ _ _ ui_3) (run_equalIn_int _ _ _ _ _ _ _ ui_3)))) ?_
            refine ox_y rfl (y_pick_tb (congrArg Value.bool hp49) rfl) ?_
            exact key _ _ (keep (keep (keep (keep (keep (keep (keep (keep (keep (keep (keep (keep (keep (keep (keep (keep rfl rfl) rfl) rfl) rfl) rfl) rfl) rfl) rfl) rfl) rfl) rfl) rfl) rfl) rfl) rfl) (congrArg Value.bool (and_t hp49)))
          · refine ox_skip (sees_f rfl rfl rfl rfl hp49) ?_
            refine ox_skip (sees_f rfl rfl rfl rfl hp49) ?_
            refine ox_skip (sees_f rfl rfl rfl rfl hp49) ?_
            refine ox_y rfl (y_pick_fb (congrArg Value.bool hp49) rfl) ?_
            exact key _ _ (keep (keep (keep (keep (keep (keep (keep (keep (keep (keep (keep (keep (keep (keep (keep (keep rfl rfl) rfl) rfl) rfl) rfl) rfl) rfl) rfl) rfl) rfl) rfl) rfl) rfl) rfl) rfl) (congrArg Value.bool (and_f hp49)))
  · clear h; rcases ite_some hb7 with ⟨hp5, h⟩ | ⟨hp5, h⟩
    · refine ox_skip (sees_f rfl rfl rfl rfl hp5) ?_
      refine ox_skip (sees_f rfl rfl rfl rfl hp5) ?_
      refine ox_skip (sees_f rfl rfl rfl rfl hp5) ?_
      refine ox_y rfl (y_pick_tb (congrArg Value.bool hp5) rfl) ?_
      obtain rfl := Option.some.inj h
      exact key _ _ (keep (keep (keep (keep (keep rfl rfl) rfl) rfl) rfl) rfl)
    · refine ox_y (sees_t rfl rfl rfl rfl hp5) (y_loadN 0 [.int .i64 p0.fRise, .int .i64 p0.fFall, .int .i64 p0.fUp, .int .i64 p0.fDown, .slice A0_4 p0.fLooks.length c0_4] ag_24 rfl rfl rfl) ?_
      obtain ⟨y61, hy62, h⟩ := bind_some h
      refine ox_y (sees_t rfl rfl rfl rfl hp5) (y_call [.agg #[.int .i64 p0.fRise, .int .i64 p0.fFall, .int .i64 p0.fUp, .int .i64 p0.fDown, .slice A0_4 p0.fLooks.length c0_4]] go_12 rfl (fun W2 hW2 => fire_Check_ok p0 y61 hy62 W2 A0_4 p0.fLooks.length c0_4 rfl ((RdL.arg hr0_4) W2 hW2)) rfl) ?_
      refine ox_y (sees_t rfl rfl rfl rfl hp5) (y_neq rfl rfl) ?_
      refine ox_y rfl (y_pick_fb (congrArg Value.bool hp5) rfl) ?_
      obtain rfl := Option.some.inj h
      exact key _ _ (keep (keep (keep (keep (keep rfl rfl) rfl) rfl) rfl) rfl)

end Go.Proofs.Ytndajeiecdmhnaa
