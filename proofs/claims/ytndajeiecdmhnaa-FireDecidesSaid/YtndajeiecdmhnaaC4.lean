/- The calls hand back what the plain functions say. -/
import Derived.Test.YtndajeiecdmhnaaF
import Derived.Test.YtndajeiecdmhnaaGy
import Derived.Test.YtndajeiecdmhnaaC0
import Derived.Test.YtndajeiecdmhnaaC2
import Derived.Test.YtndajeiecdmhnaaC3
set_option linter.unusedVariables false
set_option maxHeartbeats 4000000
namespace Go.Proofs.Ytndajeiecdmhnaa
open Go.RowKit (Below)
attribute [local irreducible] OX QX CX EX OpY Calls CallsIn

/-! calx/fire.Far -/
set_option maxRecDepth 100000 in
theorem fire_Far_ok (p0_f : TFire) (p1_from : TSpot) (p2_to : TSpot) (res : (Int × Int)) (h : fire_Far p0_f p1_from p2_to = some res) (W : World) (A0_4 : Option Addr) (n0_4 c0_4 : Nat) (hn0_4 : n0_4 = p0_f.fLooks.length) (hr0_4 : Rd W A0_4 n0_4 c0_4 (encL TLook_cells p0_f.fLooks)) :
    Calls Try.prog 30 [.agg #[.int .i64 p0_f.fRise, .int .i64 p0_f.fFall, .int .i64 p0_f.fUp, .int .i64 p0_f.fDown, .slice A0_4 n0_4 c0_4], .agg #[.int .i64 p1_from.fFoot, .int .i64 p1_from.fHour], .agg #[.int .i64 p2_to.fFoot, .int .i64 p2_to.fHour]].toArray W fun e W2 => e = .returned (.tuple #[.int .i64 res.1, .int .i64 res.2]) ∧ Ext W W2 [] := by
  subst hn0_4
  unfold fire_Far at h
  refine calls_enter (m := 21) Try.func30 rfl rfl (Nat.le_of_ble_eq_true rfl) ?_
  refine cx_seq ?_
  refine cx_region ?_
  refine ox_box [.int .i64 p0_f.fRise, .int .i64 p0_f.fFall, .int .i64 p0_f.fUp, .int .i64 p0_f.fDown, .slice A0_4 p0_f.fLooks.length c0_4] rfl rfl rfl (fun b1 => ?_)
  refine ox_box [.int .i64 p1_from.fFoot, .int .i64 p1_from.fHour] rfl rfl rfl (fun b2 => ?_)
  refine ox_box [.int .i64 p2_to.fFoot, .int .i64 p2_to.fHour] rfl rfl rfl (fun b3 => ?_)
  refine ox_y rfl (y_assign_int rfl) ?_
  refine ox_y rfl (y_assign_int rfl) ?_
  refine ox_nil ?_
  refine ex_then ?_
  refine cx_seq ?_
  refine cx_seq ?_
  refine cx_region ?_
  refine ox_y rfl (y_loadN 0 [.int .i64 p0_f.fRise, .int .i64 p0_f.fFall, .int .i64 p0_f.fUp, .int .i64 p0_f.fDown, .slice A0_4 p0_f.fLooks.length c0_4] ag_24 rfl rfl rfl) ?_
  refine ox_y rfl (y_loadN 1 [.int .i64 p1_from.fFoot, .int .i64 p1_from.fHour] ag_26 rfl rfl rfl) ?_
  refine ox_y rfl (y_loadN 2 [.int .i64 p2_to.fFoot, .int .i64 p2_to.fHour] ag_26 rfl rfl rfl) ?_
  refine ox_buildSliceE 2 (encL TSpot_cells [p1_from, p2_to]) _ mc_26_2 us_46 ze_26 by_26 (by decide) (by decide) (by kernel_rfl) (encL_len TSpot_cells_len rfl) rfl (fun b4 => ?_)
  obtain ⟨y5, hy6, h⟩ := bind_some h
  refine ox_y rfl (y_call [.agg #[.int .i64 p0_f.fRise, .int .i64 p0_f.fFall, .int .i64 p0_f.fUp, .int .i64 p0_f.fDown, .slice A0_4 p0_f.fLooks.length c0_4], .slice (some ⟨b4, 0, none⟩) 2 2] go_56 rfl (fun W2 hW2 => fire_spots_ok p0_f [p1_from, p2_to] y5 hy6 W2 A0_4 p0_f.fLooks.length c0_4 rfl ((RdL.arg hr0_4) W2 hW2) (some ⟨b4, 0, none⟩) 2 2 rfl ((RdL.row 3 rfl) W2 hW2)) rfl) ?_
  refine ox_y rfl (y_assign_int rfl) ?_
  refine ox_nil ?_
  refine ex_then ?_
  refine cx_seq ?_
  refine cx_region ?_
  refine ox_y rfl (y_move_int rfl) ?_
  refine ox_y rfl (y_neq rfl rfl) ?_
  refine ox_nil ?_
  refine ex_then ?_
  rcases ite_some h with ⟨hp7, h⟩ | ⟨hp7, h⟩
  · refine cx_true (congrArg Value.bool hp7) ?_
    refine cx_seq ?_
    refine cx_region ?_
    refine ox_y rfl (y_move_int rfl) ?_
    refine ox_y rfl (y_assign_int rfl) ?_
    refine ox_y rfl (y_assign_int rfl) ?_
    refine ox_nil ?_
    refine ex_then ?_
    refine cx_ret ?_
    refine ex_then_ret ?_
    obtain rfl := Option.some.inj h
    exact ex_res2 (.inl rfl) rfl (resV_tmp (v := .int .i64 0) rfl) (resV_tmp (v := .int .i64 y5) rfl) (fun W2 hW2 => ⟨rfl, hW2.none⟩)
  · refine cx_false (congrArg Value.bool hp7) ?_
    refine cx_skip ?_
    refine ex_then ?_
    refine cx_seq ?_
    refine cx_region ?_
    refine ox_y rfl (y_loadN 0 [.int .i64 p0_f.fRise, .int .i64 p0_f.fFall, .int .i64 p0_f.fUp, .int .i64 p0_f.fDown, .slice A0_4 p0_f.fLooks.length c0_4] ag_24 rfl rfl rfl) ?_
    refine ox_y rfl (y_loadN 1 [.int .i64 p1_from.fFoot, .int .i64 p1_from.fHour] ag_26 rfl rfl rfl) ?_
    refine ox_y rfl (y_loadN 2 [.int .i64 p2_to.fFoot, .int .i64 p2_to.fHour] ag_26 rfl rfl rfl) ?_
    obtain ⟨y8, hy9, h⟩ := bind_some h
    refine ox_y rfl (y_call [.agg #[.int .i64 p0_f.fRise, .int .i64 p0_f.fFall, .int .i64 p0_f.fUp, .int .i64 p0_f.fDown, .slice A0_4 p0_f.fLooks.length c0_4], .agg #[.int .i64 p1_from.fFoot, .int .i64 p1_from.fHour], .agg #[.int .i64 p2_to.fFoot, .int .i64 p2_to.fHour]] go_73 rfl (fun W2 hW2 => fire_far_ok p0_f p1_from p2_to y8 hy9 W2 A0_4 p0_f.fLooks.length c0_4 rfl ((RdL.arg hr0_4) W2 hW2)) rfl) ?_
    refine ox_y rfl (y_assign_int rfl) ?_
    refine ox_y rfl (y_assign_int rfl) ?_
    refine ox_nil ?_
    refine ex_then ?_
    refine cx_ret ?_
    obtain rfl := Option.some.inj h
    exact ex_res2 (.inl rfl) rfl (resV_tmp (v := .int .i64 y8) rfl) (resV_tmp (v := .int .i64 0) rfl) (fun W2 hW2 => ⟨rfl, hW2.none⟩)

/-! calx/fire.Rests$1 -/
set_option maxRecDepth 100000 in
theorem fire_Rests_1_ok (p0_id : Int) (cap0 : TFire) (cap1 : TSpot) (cap2 : TSpan) (res : Bool) (h : fire_Rests_1 p0_id cap0 cap1 cap2 = some res) (W : World) (bc0 : Nat) (A100_4 : Option Addr) (n100_4 c100_4 : Nat) (hn100_4 : n100_4 = cap0.fLooks.length) (hr100_4 : Rd W A100_4 n100_4 c100_4 (encL TLook_cells cap0.fLooks)) (hcap0 : Rd W (some ⟨bc0, 0, none⟩) 1 1 [.int .i64 cap0.fRise, .int .i64 cap0.fFall, .int .i64 cap0.fUp, .int .i64 cap0.fDown, .slice A100_4 n100_4 c100_4]) (bc1 : Nat) (hcap1 : Rd W (some ⟨bc1, 0, none⟩) 1 1 (TSpot_cells cap1)) (bc2 : Nat) (hcap2 : Rd W (some ⟨bc2, 0, none⟩) 1 1 (TSpan_cells cap2)) :
    Calls Try.prog 83 [.int .i64 p0_id, .pointer (some ⟨bc0, 0, none⟩), .pointer (some ⟨bc1, 0, none⟩), .pointer (some ⟨bc2, 0, none⟩)].toArray W fun e W2 => e = .returned (.bool res) ∧ Ext W W2 [] := by
  subst hn100_4
  unfold fire_Rests_1 at h
  refine calls_enter (m := 15) Try.func83 rfl rfl (Nat.le_of_ble_eq_true rfl) ?_
  refine cx_seq ?_
  refine cx_region ?_
  refine ox_y rfl (y_assign_bool rfl) ?_
  refine ox_nil ?_
  refine ex_then ?_
  refine cx_seq ?_
  obtain ⟨y3, hy4, h⟩ := bind_some h
  obtain ⟨y9, hy10, h⟩ := bind_some h
  refine cx_drawsG [[], [], [1], [0, 1, 2], [], [0, 1, 2, 3, 4], [0, 1, 2, 3, 4, 5], [], [0, 1, 2, 3, 4, 5, 6, 7], [0, 1, 2, 3, 4, 5, 6, 7, 8]] [(none, 0, []), (none, 0, []), (none, 1, []), (none, 1, [true]), (none, 0, [false, false]), (none, 0, [true, true]), (none, 0, [true, true]), (none, 0, [false, false]), (none, 0, [true, true]), (none, 0, [true, true])] [⟨fun _ => .agg #[.int .i64 cap0.fRise, .int .i64 cap0.fFall, .int .i64 cap0.fUp, .int .i64 cap0.fDown, .slice A100_4 cap0.fLooks.length c100_4], fun _ => noR, fun _ => []⟩, ⟨fun _ => .int .i64 p0_id, fun _ => noR, fun _ => []⟩, ⟨fun ξ1 => .slice (some ⟨(ξ1 2 0).2.1, 0, none⟩) 1 1, fun _ => noR, fun ξ1 => [rowR (some ⟨(ξ1 2 0).2.1, 0, none⟩) 1 3 1 1 (encL cI [p0_id])]⟩, ⟨fun ξ1 => .agg #[.int .i64 y3.fRise, .int .i64 y3.fFall, .int .i64 y3.fUp, .int .i64 y3.fDown, .slice (ξ1 3 0).1 y3.fLooks.length (ξ1 3 0).2.2], fun _ => noR, fun ξ1 => [rowR (ξ1 3 0).1 (ξ1 3 0).2.2 34 5 y3.fLooks.length (encL TLook_cells y3.fLooks)]⟩, ⟨fun _ => .agg #[.int .i64 cap1.fFoot, .int .i64 cap1.fHour], fun _ => noR, fun _ => []⟩, ⟨fun _ => .agg #[.int .i64 y9.fSpan.fLo, .int .i64 y9.fSpan.fHi, .int .i64 y9.fLow, .int .i64 y9.fHigh], fun _ => noR, fun _ => []⟩, ⟨fun _ => .agg #[.int .i64 y9.fSpan.fLo, .int .i64 y9.fSpan.fHi], fun _ => noR, fun _ => []⟩, ⟨fun _ => .agg #[.int .i64 cap2.fLo, .int .i64 cap2.fHi], fun _ => noR, fun _ => []⟩, ⟨fun _ => .bool (!((y9.fSpan.fLo == cap2.fLo) && (y9.fSpan.fHi == cap2.fHi))), fun _ => noR, fun _ => []⟩, ⟨fun _ => .bool (!((y9.fSpan.fLo == cap2.fLo) && (y9.fSpan.fHi == cap2.fHi))), fun _ => noR, fun _ => []⟩] 0 mixed (by kernel_rfl) (by kernel_rfl) ⟨⟨fun ξ1 ξ1' h => ⟨rfl, rfl, rfl⟩, fun _ => rfl⟩, ⟨fun ξ1 ξ1' h => ⟨rfl, rfl, rfl⟩, fun _ => rfl⟩, ⟨fun ξ1 ξ1' h => ⟨by simp only [h 2 (.inl rfl)], rfl, by simp only [h 2 (.inl rfl)]⟩, fun _ => rfl⟩, ⟨fun ξ1 ξ1' h => ⟨by simp only [h 3 (.inl rfl)], rfl, by simp only [h 3 (.inl rfl)]⟩, fun _ => rfl⟩, ⟨fun ξ1 ξ1' h => ⟨rfl, rfl, rfl⟩, fun _ => rfl⟩, ⟨fun ξ1 ξ1' h => ⟨rfl, rfl, rfl⟩, fun _ => rfl⟩, ⟨fun ξ1 ξ1' h => ⟨rfl, rfl, rfl⟩, fun _ => rfl⟩, ⟨fun ξ1 ξ1' h => ⟨rfl, rfl, rfl⟩, fun _ => rfl⟩, ⟨fun ξ1 ξ1' h => ⟨rfl, rfl, rfl⟩, fun _ => rfl⟩, ⟨fun ξ1 ξ1' h => ⟨rfl, rfl, rfl⟩, fun _ => rfl⟩, trivial⟩ rfl (fun ξ1 => ?_)
  refine gx_o rfl (fun L2 => ?_) ?_
  · dsimp only [maskL, List.cons_append, List.nil_append]
    refine ox_y rfl (y_loadRN (A := (some ⟨bc0, 0, none⟩)) (j := 0) [.int .i64 cap0.fRise, .int .i64 cap0.fFall, .int .i64 cap0.fUp, .int .i64 cap0.fDown, .slice A100_4 cap0.fLooks.length c100_4] ag_24 (Nat.succ_pos _) (RdL.arg hcap0) rfl (gets_all rfl)) ?_
    refine ox_nil ?_
    exact ex_capG (fun _ => (none, 0, 0)) rfl (List.append_nil _)
  dsimp only [aftL, List.set_cons_zero, List.set_cons_succ, List.nil_append, List.cons_append, List.append_nil]
  refine gx_o rfl (fun L2 => ?_) ?_
  · dsimp only [maskL, List.cons_append, List.nil_append]
    refine ox_y rfl (y_move_int rfl) ?_
    refine ox_nil ?_
    exact ex_capG (fun _ => (none, 0, 0)) rfl (List.append_nil _)
  dsimp only [aftL, List.set_cons_zero, List.set_cons_succ, List.nil_append, List.cons_append, List.append_nil]
  refine gx_o rfl (fun L2 => ?_) ?_
  · dsimp only [maskL, List.cons_append, List.nil_append]
    refine ox_buildSliceE 1 (encL cI [p0_id]) _ mc_3_1 us_41 ze_3 by_3 (by decide) (by decide) (by kernel_rfl) (encL_len cI_len rfl) rfl (fun b2 => ?_)
    refine ox_nil ?_
    exact ex_capG (fun _ => (none, b2, 0)) rfl rfl
  dsimp only [aftL, List.set_cons_zero, List.set_cons_succ, List.nil_append, List.cons_append, List.append_nil]
  refine gx_o rfl (fun L2 => ?_) ?_
  · dsimp only [maskL, List.cons_append, List.nil_append]
    refine ox_call [.agg #[.int .i64 cap0.fRise, .int .i64 cap0.fFall, .int .i64 cap0.fUp, .int .i64 cap0.fDown, .slice A100_4 cap0.fLooks.length c100_4], .slice (some ⟨(ξ1 2 0).2.1, 0, none⟩) 1 1] _ _ _ rfl go_62 rfl (fun W2 hW2 => fire_without_ok cap0 [p0_id] y3 hy4 W2 A100_4 cap0.fLooks.length c100_4 rfl ((RdL.arg hr100_4) W2 hW2) (some ⟨(ξ1 2 0).2.1, 0, none⟩) 1 1 rfl ((RdL.row 0 rfl) W2 hW2)) ?_
    rintro ⟨A5, n7, c6⟩ hn8
    replace hn8 : n7 = y3.fLooks.length := hn8; subst hn8
    refine ox_nil ?_
    exact ex_capG (fun _ => (A5, 0, c6)) rfl rfl
  dsimp only [aftL, List.set_cons_zero, List.set_cons_succ, List.nil_append, List.cons_append, List.append_nil]
  refine gx_o rfl (fun L2 => ?_) ?_
  · dsimp only [maskL, List.cons_append, List.nil_append]
    refine ox_y rfl (y_loadRN (A := (some ⟨bc1, 0, none⟩)) (j := 0) [.int .i64 cap1.fFoot, .int .i64 cap1.fHour] ag_26 (Nat.succ_pos _) (RdL.arg hcap1) rfl (gets_all rfl)) ?_
    refine ox_nil ?_
    exact ex_capG (fun _ => (none, 0, 0)) rfl (List.append_nil _)
  dsimp only [aftL, List.set_cons_zero, List.set_cons_succ, List.nil_append, List.cons_append, List.append_nil]
  refine gx_o rfl (fun L2 => ?_) ?_
  · dsimp only [maskL, List.cons_append, List.nil_append]
    refine ox_y rfl (y_call [.agg #[.int .i64 y3.fRise, .int .i64 y3.fFall, .int .i64 y3.fUp, .int .i64 y3.fDown, .slice (ξ1 3 0).1 y3.fLooks.length (ξ1 3 0).2.2], .agg #[.int .i64 cap1.fFoot, .int .i64 cap1.fHour]] go_57 rfl (fun W2 hW2 => fire_ends_ok y3 cap1 y9 hy10 W2 (ξ1 3 0).1 y3.fLooks.length (ξ1 3 0).2.2 rfl ((RdL.row 1 rfl) W2 hW2)) rfl) ?_
    refine ox_nil ?_
    exact ex_capG (fun _ => (none, 0, 0)) rfl (List.append_nil _)
  dsimp only [aftL, List.set_cons_zero, List.set_cons_succ, List.nil_append, List.cons_append, List.append_nil]
  refine gx_o rfl (fun L2 => ?_) ?_
  · dsimp only [maskL, List.cons_append, List.nil_append]
    refine ox_y rfl (y_fieldN [.int .i64 y9.fSpan.fLo, .int .i64 y9.fSpan.fHi, .int .i64 y9.fLow, .int .i64 y9.fHigh] [.int .i64 y9.fSpan.fLo, .int .i64 y9.fSpan.fHi] fd_36_0 ag_32 rfl rfl) ?_
    refine ox_nil ?_
    exact ex_capG (fun _ => (none, 0, 0)) rfl (List.append_nil _)
  dsimp only [aftL, List.set_cons_zero, List.set_cons_succ, List.nil_append, List.cons_append, List.append_nil]
  refine gx_o rfl (fun L2 => ?_) ?_
  · dsimp only [maskL, List.cons_append, List.nil_append]
    refine ox_y rfl (y_loadRN (A := (some ⟨bc2, 0, none⟩)) (j := 0) [.int .i64 cap2.fLo, .int .i64 cap2.fHi] ag_32 (Nat.succ_pos _) (RdL.arg hcap2) rfl (gets_all rfl)) ?_
    refine ox_nil ?_
    exact ex_capG (fun _ => (none, 0, 0)) rfl (List.append_nil _)
  dsimp only [aftL, List.set_cons_zero, List.set_cons_succ, List.nil_append, List.cons_append, List.append_nil]
  refine gx_o rfl (fun L2 => ?_) ?_
  · dsimp only [maskL, List.cons_append, List.nil_append]
    refine ox_y rfl (y_neqa (b := ((y9.fSpan.fLo == cap2.fLo) && (y9.fSpan.fHi == cap2.fHi))) eg_32 rfl rfl (fun _ => (eqS2 fl_32 (part1 sc_3 rfl) (part1 sc_3 rfl) (part1 sc_3 rfl) (part1 sc_3 rfl) (run_equalIn_int _ _ _ _ _ _ _ ui_3) (run_equalIn_int _ _ _ _ _ _ _ ui_3)))) ?_
    refine ox_nil ?_
    exact ex_capG (fun _ => (none, 0, 0)) rfl (List.append_nil _)
  dsimp only [aftL, List.set_cons_zero, List.set_cons_succ, List.nil_append, List.cons_append, List.append_nil]
  refine gx_o rfl (fun L2 => ?_) ?_
  · dsimp only [maskL, List.cons_append, List.nil_append]
    refine ox_y rfl (y_assign_bool rfl) ?_
    refine ox_nil ?_
    exact ex_capG (fun _ => (none, 0, 0)) rfl (List.append_nil _)
  dsimp only [aftL, List.set_cons_zero, List.set_cons_succ, List.nil_append, List.cons_append, List.append_nil]
  refine gx_nil ?_
  refine ex_then ?_
  refine cx_ret ?_
  obtain rfl := Option.some.inj h
  exact ex_res1 (.inl rfl) rfl (resV_tmp (v := .bool (!((y9.fSpan.fLo == cap2.fLo) && (y9.fSpan.fHi == cap2.fHi)))) rfl) (fun W2 hW2 => ⟨rfl, hW2.none⟩)

/-! calx/fire.Rests -/
set_option maxRecDepth 100000 in
theorem fire_Rests_ok (p0_f : TFire) (p1_at : TSpot) (res : ((List Int) × Int)) (h : fire_Rests p0_f p1_at = some res) (W : World) (A0_4 : Option Addr) (n0_4 c0_4 : Nat) (hn0_4 : n0_4 = p0_f.fLooks.length) (hr0_4 : Rd W A0_4 n0_4 c0_4 (encL TLook_cells p0_f.fLooks)) :
    Calls Try.prog 39 [.agg #[.int .i64 p0_f.fRise, .int .i64 p0_f.fFall, .int .i64 p0_f.fUp, .int .i64 p0_f.fDown, .slice A0_4 n0_4 c0_4], .agg #[.int .i64 p1_at.fFoot, .int .i64 p1_at.fHour]].toArray W fun e W2 => ∃ x : Option Addr × Nat × Nat, x.2.1 = res.1.length ∧ e = .returned (.tuple #[.slice x.1 x.2.1 x.2.2, .int .i64 res.2]) ∧ Ext W W2 [rowR x.1 x.2.2 3 1 x.2.1 (encL cI res.1)] := by
  subst hn0_4
  unfold fire_Rests at h
  refine calls_enter (m := 24) Try.func39 rfl rfl (Nat.le_of_ble_eq_true rfl) ?_
  refine cx_seq ?_
  refine cx_region ?_
  refine ox_box [.int .i64 p0_f.fRise, .int .i64 p0_f.fFall, .int .i64 p0_f.fUp, .int .i64 p0_f.fDown, .slice A0_4 p0_f.fLooks.length c0_4] rfl rfl rfl (fun b1 => ?_)
  refine ox_box [.int .i64 p1_at.fFoot, .int .i64 p1_at.fHour] rfl rfl rfl (fun b2 => ?_)
  refine ox_y rfl (y_assign_slice rfl) ?_
  refine ox_y rfl (y_assign_int rfl) ?_
  refine ox_nil ?_
  refine ex_then ?_
  refine cx_seq ?_
  refine cx_seq ?_
  obtain ⟨y5, hy6, h⟩ := bind_some h
  obtain ⟨y7, hy8, h⟩ := bind_some h
  refine cx_drawsG [[], [], [], [2], [1, 2, 3], [0, 1, 2, 3, 4], [0, 1, 2, 3, 4, 5]] [(none, 0, [true, true]), (none, 0, [true, true]), (none, 0, [true, true]), (none, 1, [true, true]), (none, 0, [true, true, true]), (none, 0, [true, true, true]), (none, 0, [true, true, true])] [⟨fun _ => .agg #[.int .i64 p0_f.fRise, .int .i64 p0_f.fFall, .int .i64 p0_f.fUp, .int .i64 p0_f.fDown, .slice A0_4 p0_f.fLooks.length c0_4], fun _ => noR, fun _ => []⟩, ⟨fun _ => .agg #[.int .i64 p0_f.fRise, .int .i64 p0_f.fFall, .int .i64 p0_f.fUp, .int .i64 p0_f.fDown, .slice A0_4 p0_f.fLooks.length c0_4], fun _ => noR, fun _ => []⟩, ⟨fun _ => .agg #[.int .i64 p1_at.fFoot, .int .i64 p1_at.fHour], fun _ => noR, fun _ => []⟩, ⟨fun ξ3 => .slice (some ⟨(ξ3 3 0).2.1, 0, none⟩) 1 1, fun _ => noR, fun ξ3 => [rowR (some ⟨(ξ3 3 0).2.1, 0, none⟩) 1 26 2 1 (encL TSpot_cells [p1_at])]⟩, ⟨fun _ => .int .i64 y5, fun _ => noR, fun _ => []⟩, ⟨fun _ => .int .i64 y7, fun _ => noR, fun _ => []⟩, ⟨fun _ => .int .i64 y7, fun _ => noR, fun _ => []⟩] 2 mixed (by kernel_rfl) (by kernel_rfl) ⟨⟨fun ξ3 ξ3' h => ⟨rfl, rfl, rfl⟩, fun _ => rfl⟩, ⟨fun ξ3 ξ3' h => ⟨rfl, rfl, rfl⟩, fun _ => rfl⟩, ⟨fun ξ3 ξ3' h => ⟨rfl, rfl, rfl⟩, fun _ => rfl⟩, ⟨fun ξ3 ξ3' h => ⟨by simp only [h 3 (.inl rfl)], rfl, by simp only [h 3 (.inl rfl)]⟩, fun _ => rfl⟩, ⟨fun ξ3 ξ3' h => ⟨rfl, rfl, rfl⟩, fun _ => rfl⟩, ⟨fun ξ3 ξ3' h => ⟨rfl, rfl, rfl⟩, fun _ => rfl⟩, ⟨fun ξ3 ξ3' h => ⟨rfl, rfl, rfl⟩, fun _ => rfl⟩, trivial⟩ rfl (fun ξ3 => ?_)
  refine gx_o rfl (fun L2 => ?_) ?_
  · dsimp only [maskL, List.cons_append, List.nil_append]
    refine ox_y rfl (y_loadN 0 [.int .i64 p0_f.fRise, .int .i64 p0_f.fFall, .int .i64 p0_f.fUp, .int .i64 p0_f.fDown, .slice A0_4 p0_f.fLooks.length c0_4] ag_24 rfl rfl rfl) ?_
    refine ox_nil ?_
    exact ex_capG (fun _ => (none, 0, 0)) rfl (List.append_nil _)
  dsimp only [aftL, List.set_cons_zero, List.set_cons_succ, List.nil_append, List.cons_append, List.append_nil]
  refine gx_o rfl (fun L2 => ?_) ?_
  · dsimp only [maskL, List.cons_append, List.nil_append]
    refine ox_y rfl (y_loadN 0 [.int .i64 p0_f.fRise, .int .i64 p0_f.fFall, .int .i64 p0_f.fUp, .int .i64 p0_f.fDown, .slice A0_4 p0_f.fLooks.length c0_4] ag_24 rfl rfl rfl) ?_
    refine ox_nil ?_
    exact ex_capG (fun _ => (none, 0, 0)) rfl (List.append_nil _)
  dsimp only [aftL, List.set_cons_zero, List.set_cons_succ, List.nil_append, List.cons_append, List.append_nil]
  refine gx_o rfl (fun L2 => ?_) ?_
  · dsimp only [maskL, List.cons_append, List.nil_append]
    refine ox_y rfl (y_loadN 1 [.int .i64 p1_at.fFoot, .int .i64 p1_at.fHour] ag_26 rfl rfl rfl) ?_
    refine ox_nil ?_
    exact ex_capG (fun _ => (none, 0, 0)) rfl (List.append_nil _)
  dsimp only [aftL, List.set_cons_zero, List.set_cons_succ, List.nil_append, List.cons_append, List.append_nil]
  refine gx_o rfl (fun L2 => ?_) ?_
  · dsimp only [maskL, List.cons_append, List.nil_append]
    refine ox_buildSliceE 1 (encL TSpot_cells [p1_at]) _ mc_26_1 us_46 ze_26 by_26 (by decide) (by decide) (by kernel_rfl) (encL_len TSpot_cells_len rfl) rfl (fun b4 => ?_)
    refine ox_nil ?_
    exact ex_capG (fun _ => (none, b4, 0)) rfl rfl
  dsimp only [aftL, List.set_cons_zero, List.set_cons_succ, List.nil_append, List.cons_append, List.append_nil]
  refine gx_o rfl (fun L2 => ?_) ?_
  · dsimp only [maskL, List.cons_append, List.nil_append]
    refine ox_y rfl (y_call [.agg #[.int .i64 p0_f.fRise, .int .i64 p0_f.fFall, .int .i64 p0_f.fUp, .int .i64 p0_f.fDown, .slice A0_4 p0_f.fLooks.length c0_4], .slice (some ⟨(ξ3 3 0).2.1, 0, none⟩) 1 1] go_56 rfl (fun W2 hW2 => fire_spots_ok p0_f [p1_at] y5 hy6 W2 A0_4 p0_f.fLooks.length c0_4 rfl ((RdL.arg hr0_4) W2 hW2) (some ⟨(ξ3 3 0).2.1, 0, none⟩) 1 1 rfl ((RdL.row 2 rfl) W2 hW2)) rfl) ?_
    refine ox_nil ?_
    exact ex_capG (fun _ => (none, 0, 0)) rfl (List.append_nil _)
  dsimp only [aftL, List.set_cons_zero, List.set_cons_succ, List.nil_append, List.cons_append, List.append_nil]
  refine gx_o rfl (fun L2 => ?_) ?_
  · dsimp only [maskL, List.cons_append, List.nil_append]
    refine ox_y rfl (y_call [.agg #[.int .i64 p0_f.fRise, .int .i64 p0_f.fFall, .int .i64 p0_f.fUp, .int .i64 p0_f.fDown, .slice A0_4 p0_f.fLooks.length c0_4], .int .i64 y5] go_55 rfl (fun W2 hW2 => fire_agreed_ok p0_f y5 y7 hy8 W2 A0_4 p0_f.fLooks.length c0_4 rfl ((RdL.arg hr0_4) W2 hW2)) rfl) ?_
    refine ox_nil ?_
    exact ex_capG (fun _ => (none, 0, 0)) rfl (List.append_nil _)
  dsimp only [aftL, List.set_cons_zero, List.set_cons_succ, List.nil_append, List.cons_append, List.append_nil]
  refine gx_o rfl (fun L2 => ?_) ?_
  · dsimp only [maskL, List.cons_append, List.nil_append]
    refine ox_y rfl (y_assign_int rfl) ?_
    refine ox_nil ?_
    exact ex_capG (fun _ => (none, 0, 0)) rfl (List.append_nil _)
  dsimp only [aftL, List.set_cons_zero, List.set_cons_succ, List.nil_append, List.cons_append, List.append_nil]
  refine gx_nil ?_
  refine ex_then ?_
  refine cx_seq ?_
  refine cx_region ?_
  refine ox_y rfl (y_move_int rfl) ?_
  refine ox_y rfl (y_neq rfl rfl) ?_
  refine ox_nil ?_
  refine ex_then ?_
  rcases ite_some h with ⟨hp9, h⟩ | ⟨hp9, h⟩
  · refine cx_true (congrArg Value.bool hp9) ?_
    refine cx_seq ?_
    refine cx_region ?_
    refine ox_y rfl (y_move_int rfl) ?_
    refine ox_y rfl (y_assign_slice rfl) ?_
    refine ox_y rfl (y_assign_int rfl) ?_
    refine ox_nil ?_
    refine ex_then ?_
    refine cx_ret ?_
    refine ex_then_ret ?_
    obtain rfl := Option.some.inj h
    exact ex_res2 (.inl rfl) rfl (resV_tmp (v := .slice none 0 0) rfl) (resV_tmp (v := .int .i64 y7) rfl) (fun W2 hW2 => ⟨(none, 0, 0), rfl, rfl, ((hW2.nilrow 3 1).pick 3 rfl)⟩)
  · refine cx_false (congrArg Value.bool hp9) ?_
    refine cx_skip ?_
    refine ex_then ?_
    refine cx_seq ?_
    refine cx_region ?_
    refine ox_y rfl (y_loadN 0 [.int .i64 p0_f.fRise, .int .i64 p0_f.fFall, .int .i64 p0_f.fUp, .int .i64 p0_f.fDown, .slice A0_4 p0_f.fLooks.length c0_4] ag_24 rfl rfl rfl) ?_
    refine ox_y rfl (y_loadN 1 [.int .i64 p1_at.fFoot, .int .i64 p1_at.fHour] ag_26 rfl rfl rfl) ?_
    obtain ⟨y10, hy11, h⟩ := bind_some h
    refine ox_y rfl (y_call [.agg #[.int .i64 p0_f.fRise, .int .i64 p0_f.fFall, .int .i64 p0_f.fUp, .int .i64 p0_f.fDown, .slice A0_4 p0_f.fLooks.length c0_4], .agg #[.int .i64 p1_at.fFoot, .int .i64 p1_at.fHour]] go_57 rfl (fun W2 hW2 => fire_ends_ok p0_f p1_at y10 hy11 W2 A0_4 p0_f.fLooks.length c0_4 rfl ((RdL.arg hr0_4) W2 hW2)) rfl) ?_
    refine ox_y rfl (y_fieldN [.int .i64 y10.fSpan.fLo, .int .i64 y10.fSpan.fHi, .int .i64 y10.fLow, .int .i64 y10.fHigh] [.int .i64 y10.fSpan.fLo, .int .i64 y10.fSpan.fHi] fd_36_0 ag_32 rfl rfl) ?_
    refine ox_alloc ze_32 rfl (fun b12 => ?_)
    refine ox_n rfl (y_storeN 3 [.int .i64 y10.fSpan.fLo, .int .i64 y10.fSpan.fHi] sz_32 rfl (Nat.le_of_ble_eq_true rfl) rfl rfl rfl) ?_
    refine ox_nil ?_
    refine ex_then ?_
    refine cx_seq ?_
    refine cx_region ?_
    refine ox_y rfl (y_loadN 0 [.int .i64 p0_f.fRise, .int .i64 p0_f.fFall, .int .i64 p0_f.fUp, .int .i64 p0_f.fDown, .slice A0_4 p0_f.fLooks.length c0_4] ag_24 rfl rfl rfl) ?_
    refine ox_y rfl (y_makeFunc [.pointer (some ⟨b1, 0, none⟩), .pointer (some ⟨b2, 0, none⟩), .pointer (some ⟨b12, 0, none⟩)] rfl rfl) ?_
    obtain ⟨y14, hy15, h⟩ := bind_some h
    refine ox_call [.agg #[.int .i64 p0_f.fRise, .int .i64 p0_f.fFall, .int .i64 p0_f.fUp, .int .i64 p0_f.fDown, .slice A0_4 p0_f.fLooks.length c0_4], .func (.func 83) #[] #[.pointer (some ⟨b1, 0, none⟩), .pointer (some ⟨b2, 0, none⟩), .pointer (some ⟨b12, 0, none⟩)]] _ _ _ rfl go_60 rfl (fun W2 hW2 => fire_named_ok p0_f (fun x13 => fire_Rests_1 x13 p0_f p1_at y10.fSpan) y14 hy15 W2 A0_4 p0_f.fLooks.length c0_4 rfl ((RdL.arg hr0_4) W2 hW2) 83 [.pointer (some ⟨b1, 0, none⟩), .pointer (some ⟨b2, 0, none⟩), .pointer (some ⟨b12, 0, none⟩)] go_83 (fun W3 hb x y hxy => fire_Rests_1_ok x p0_f p1_at y10.fSpan y hxy W3 b1 A0_4 p0_f.fLooks.length c0_4 rfl (((RdL.arg hr0_4) W2 hW2).later hb) (((RdL.cells 0 rfl) W2 hW2).later hb) b2 (((RdL.cells 1 rfl) W2 hW2).later hb) b12 (((RdL.cells 3 rfl) W2 hW2).later hb))) ?_
    rintro ⟨A16, n18, c17⟩ hn19
    replace hn19 : n18 = y14.length := hn19; subst hn19
    refine ox_y rfl (y_assign_slice rfl) ?_
    refine ox_y rfl (y_assign_int rfl) ?_
    refine ox_nil ?_
    refine ex_then ?_
    refine cx_ret ?_
    obtain rfl := Option.some.inj h
    exact ex_res2 (.inl rfl) rfl (resV_tmp (v := .slice A16 y14.length c17) rfl) (resV_tmp (v := .int .i64 0) rfl) (fun W2 hW2 => ⟨(A16, y14.length, c17), rfl, rfl, (hW2.pick 4 rfl)⟩)

/-! calx/fire.needed -/
set_option maxRecDepth 100000 in
theorem fire_needed_ok (p0_f : TFire) (p1_look : TSpot) (p2_at : TSpot) (p3_need : Int) (res : (Int × Bool)) (h : fire_needed p0_f p1_look p2_at p3_need = some res) (W : World) (A0_4 : Option Addr) (n0_4 c0_4 : Nat) (hn0_4 : n0_4 = p0_f.fLooks.length) (hr0_4 : Rd W A0_4 n0_4 c0_4 (encL TLook_cells p0_f.fLooks)) :
    Calls Try.prog 88 [.agg #[.int .i64 p0_f.fRise, .int .i64 p0_f.fFall, .int .i64 p0_f.fUp, .int .i64 p0_f.fDown, .slice A0_4 n0_4 c0_4], .agg #[.int .i64 p1_look.fFoot, .int .i64 p1_look.fHour], .agg #[.int .i64 p2_at.fFoot, .int .i64 p2_at.fHour], .int .i64 p3_need].toArray W fun e W2 => e = .returned (.tuple #[.int .i64 res.1, .bool res.2]) ∧ Ext W W2 [] := by
  subst hn0_4
  unfold fire_needed at h
  refine calls_enter (m := 39) Try.func88 rfl rfl (Nat.le_of_ble_eq_true rfl) ?_
  refine cx_seq ?_
  refine cx_region ?_
  refine ox_box [.int .i64 p0_f.fRise, .int .i64 p0_f.fFall, .int .i64 p0_f.fUp, .int .i64 p0_f.fDown, .slice A0_4 p0_f.fLooks.length c0_4] rfl rfl rfl (fun b1 => ?_)
  refine ox_box [.int .i64 p1_look.fFoot, .int .i64 p1_look.fHour] rfl rfl rfl (fun b2 => ?_)
  refine ox_box [.int .i64 p2_at.fFoot, .int .i64 p2_at.fHour] rfl rfl rfl (fun b3 => ?_)
  refine ox_y rfl (y_assign_int rfl) ?_
  refine ox_y rfl (y_assign_bool rfl) ?_
  refine ox_nil ?_
  refine ex_then ?_
  refine cx_seq ?_
  refine cx_region ?_
  refine ox_y rfl (y_loadN 0 [.int .i64 p0_f.fRise, .int .i64 p0_f.fFall, .int .i64 p0_f.fUp, .int .i64 p0_f.fDown, .slice A0_4 p0_f.fLooks.length c0_4] ag_24 rfl rfl rfl) ?_
  refine ox_y rfl (y_loadN 1 [.int .i64 p1_look.fFoot, .int .i64 p1_look.fHour] ag_26 rfl rfl rfl) ?_
  obtain ⟨y4, hy5, h⟩ := bind_some h
  refine ox_y rfl (y_call [.agg #[.int .i64 p0_f.fRise, .int .i64 p0_f.fFall, .int .i64 p0_f.fUp, .int .i64 p0_f.fDown, .slice A0_4 p0_f.fLooks.length c0_4], .agg #[.int .i64 p1_look.fFoot, .int .i64 p1_look.fHour]] go_57 rfl (fun W2 hW2 => fire_ends_ok p0_f p1_look y4 hy5 W2 A0_4 p0_f.fLooks.length c0_4 rfl ((RdL.arg hr0_4) W2 hW2)) rfl) ?_
  refine ox_y rfl (y_fieldN [.int .i64 y4.fSpan.fLo, .int .i64 y4.fSpan.fHi, .int .i64 y4.fLow, .int .i64 y4.fHigh] [.int .i64 y4.fSpan.fLo, .int .i64 y4.fSpan.fHi] fd_36_0 ag_32 rfl rfl) ?_
  refine ox_alloc ze_32 rfl (fun b6 => ?_)
  refine ox_n rfl (y_storeN 3 [.int .i64 y4.fSpan.fLo, .int .i64 y4.fSpan.fHi] sz_32 rfl (Nat.le_of_ble_eq_true rfl) rfl rfl rfl) ?_
  refine ox_nil ?_
  refine ex_then ?_
  refine cx_seq ?_
  refine cx_seq ?_
  refine cx_region ?_
  refine ox_y rfl (y_loadN 0 [.int .i64 p0_f.fRise, .int .i64 p0_f.fFall, .int .i64 p0_f.fUp, .int .i64 p0_f.fDown, .slice A0_4 p0_f.fLooks.length c0_4] ag_24 rfl rfl rfl) ?_
  refine ox_y rfl (y_loadN 2 [.int .i64 p2_at.fFoot, .int .i64 p2_at.fHour] ag_26 rfl rfl rfl) ?_
  obtain ⟨y7, hy8, h⟩ := bind_some h
  refine ox_y rfl (y_call [.agg #[.int .i64 p0_f.fRise, .int .i64 p0_f.fFall, .int .i64 p0_f.fUp, .int .i64 p0_f.fDown, .slice A0_4 p0_f.fLooks.length c0_4], .agg #[.int .i64 p2_at.fFoot, .int .i64 p2_at.fHour]] go_57 rfl (fun W2 hW2 => fire_ends_ok p0_f p2_at y7 hy8 W2 A0_4 p0_f.fLooks.length c0_4 rfl ((RdL.arg hr0_4) W2 hW2)) rfl) ?_
  refine ox_y rfl (y_fieldN [.int .i64 y7.fSpan.fLo, .int .i64 y7.fSpan.fHi, .int .i64 y7.fLow, .int .i64 y7.fHigh] [.int .i64 y7.fSpan.fLo, .int .i64 y7.fSpan.fHi] fd_36_0 ag_32 rfl rfl) ?_
  refine ox_y rfl (y_field1 [.int .i64 y7.fSpan.fLo, .int .i64 y7.fSpan.fHi] (v := .int .i64 y7.fSpan.fLo) fd_32_0 sc_3 rfl rfl) ?_
  refine ox_y rfl (y_move_int rfl) ?_
  refine ox_y rfl (y_geq rfl rfl) ?_
  refine ox_nil ?_
  refine ex_then ?_
  rcases ite_some h with ⟨hp9, h⟩ | ⟨hp9, h⟩
  · refine cx_true (congrArg Value.bool hp9) ?_
    refine cx_seq ?_
    refine cx_region ?_
    refine ox_y rfl (y_fieldAddr fo_32_0 rfl) ?_
    refine ox_y rfl (y_load1 3 (v := .int .i64 y4.fSpan.fLo) sc_3 rfl rfl rfl) ?_
    refine ox_y rfl (y_assign_int rfl) ?_
    refine ox_y rfl (y_assign_bool rfl) ?_
    refine ox_nil ?_
    refine ex_then ?_
    refine cx_ret ?_
    refine ex_then_ret ?_
    obtain rfl := Option.some.inj h
    exact ex_res2 (.inl rfl) rfl (resV_tmp (v := .int .i64 y4.fSpan.fLo) rfl) (resV_tmp (v := .bool true) rfl) (fun W2 hW2 => ⟨rfl, hW2.none⟩)
  · refine cx_false (congrArg Value.bool hp9) ?_
    refine cx_skip ?_
    refine ex_then ?_
    refine cx_seq ?_
    refine cx_draws 10 mixed (by kernel_rfl) (by kernel_rfl) ?_
    refine qx_y rfl (y_fieldAddr fo_32_0 rfl) ?_
    refine qx_y rfl (y_load1 3 (v := .int .i64 y4.fSpan.fLo) sc_3 rfl rfl rfl) ?_
    refine qx_y rfl (y_move_int rfl) ?_
    refine qx_y rfl (y_loadN 0 [.int .i64 p0_f.fRise, .int .i64 p0_f.fFall, .int .i64 p0_f.fUp, .int .i64 p0_f.fDown, .slice A0_4 p0_f.fLooks.length c0_4] ag_24 rfl rfl rfl) ?_
    refine qx_y rfl (y_loadN 2 [.int .i64 p2_at.fFoot, .int .i64 p2_at.fHour] ag_26 rfl rfl rfl) ?_
    refine qx_y rfl (y_loadN 1 [.int .i64 p1_look.fFoot, .int .i64 p1_look.fHour] ag_26 rfl rfl rfl) ?_
    obtain ⟨y10, hy11, h⟩ := bind_some h
    refine qx_y rfl (y_call [.agg #[.int .i64 p0_f.fRise, .int .i64 p0_f.fFall, .int .i64 p0_f.fUp, .int .i64 p0_f.fDown, .slice A0_4 p0_f.fLooks.length c0_4], .agg #[.int .i64 p2_at.fFoot, .int .i64 p2_at.fHour], .agg #[.int .i64 p1_look.fFoot, .int .i64 p1_look.fHour]] go_73 rfl (fun W2 hW2 => fire_far_ok p0_f p2_at p1_look y10 hy11 W2 A0_4 p0_f.fLooks.length c0_4 rfl ((RdL.arg hr0_4) W2 hW2)) rfl) ?_
    refine qx_y rfl (y_add rfl rfl) ?_
    refine qx_y rfl (y_max rfl rfl) ?_
    refine qx_y rfl (y_assign_int rfl) ?_
    refine qx_nil ?_
    refine ox_nil ?_
    refine ex_then ?_
    refine cx_seq ?_
    refine cx_seq ?_
    refine cx_region ?_
    refine ox_y rfl (y_move_int rfl) ?_
    refine ox_y rfl (y_fieldAddr fo_32_1 rfl) ?_
    refine ox_y rfl (y_load1 3 (v := .int .i64 y4.fSpan.fHi) sc_3 rfl rfl rfl) ?_
    refine ox_y rfl (y_gtr rfl rfl) ?_
    refine ox_nil ?_
    refine ex_then ?_
    rcases ite_some h with ⟨hp12, h⟩ | ⟨hp12, h⟩
    · refine cx_true (congrArg Value.bool hp12) ?_
      refine cx_seq ?_
      refine cx_region ?_
      refine ox_y rfl (y_assign_int rfl) ?_
      refine ox_y rfl (y_assign_bool rfl) ?_
      refine ox_nil ?_
      refine ex_then ?_
      refine cx_ret ?_
      refine ex_then_ret ?_
      obtain rfl := Option.some.inj h
      exact ex_res2 (.inl rfl) rfl (resV_tmp (v := .int .i64 0) rfl) (resV_tmp (v := .bool false) rfl) (fun W2 hW2 => ⟨rfl, hW2.none⟩)
    · refine cx_false (congrArg Value.bool hp12) ?_
      refine cx_skip ?_
      refine ex_then ?_
      refine cx_seq ?_
      refine cx_region ?_
      refine ox_y rfl (y_move_int rfl) ?_
      refine ox_y rfl (y_assign_int rfl) ?_
      refine ox_y rfl (y_assign_bool rfl) ?_
      refine ox_nil ?_
      refine ex_then ?_
      refine cx_ret ?_
      obtain rfl := Option.some.inj h
      exact ex_res2 (.inl rfl) rfl (resV_tmp (v := .int .i64 (max y4.fSpan.fLo (w64 (p3_need + y10)))) rfl) (resV_tmp (v := .bool true) rfl) (fun W2 hW2 => ⟨rfl, hW2.none⟩)

/-! calx/fire.Needed -/
set_option maxRecDepth 100000 in
theorem fire_Needed_ok (p0_f : TFire) (p1_look : TSpot) (p2_at : TSpot) (p3_need : Int) (res : (Int × Bool × Int)) (h : fire_Needed p0_f p1_look p2_at p3_need = some res) (W : World) (A0_4 : Option Addr) (n0_4 c0_4 : Nat) (hn0_4 : n0_4 = p0_f.fLooks.length) (hr0_4 : Rd W A0_4 n0_4 c0_4 (encL TLook_cells p0_f.fLooks)) :
    Calls Try.prog 44 [.agg #[.int .i64 p0_f.fRise, .int .i64 p0_f.fFall, .int .i64 p0_f.fUp, .int .i64 p0_f.fDown, .slice A0_4 n0_4 c0_4], .agg #[.int .i64 p1_look.fFoot, .int .i64 p1_look.fHour], .agg #[.int .i64 p2_at.fFoot, .int .i64 p2_at.fHour], .int .i64 p3_need].toArray W fun e W2 => e = .returned (.tuple #[.int .i64 res.1, .bool res.2.1, .int .i64 res.2.2]) ∧ Ext W W2 [] := by
  subst hn0_4
  unfold fire_Needed at h
  refine calls_enter (m := 42) Try.func44 rfl rfl (Nat.le_of_ble_eq_true rfl) ?_
  refine cx_seq ?_
  refine cx_region ?_
  refine ox_box [.int .i64 p0_f.fRise, .int .i64 p0_f.fFall, .int .i64 p0_f.fUp, .int .i64 p0_f.fDown, .slice A0_4 p0_f.fLooks.length c0_4] rfl rfl rfl (fun b1 => ?_)
  refine ox_box [.int .i64 p1_look.fFoot, .int .i64 p1_look.fHour] rfl rfl rfl (fun b2 => ?_)
  refine ox_box [.int .i64 p2_at.fFoot, .int .i64 p2_at.fHour] rfl rfl rfl (fun b3 => ?_)
  refine ox_y rfl (y_assign_int rfl) ?_
  refine ox_y rfl (y_assign_bool rfl) ?_
  refine ox_y rfl (y_assign_int rfl) ?_
  refine ox_nil ?_
  refine ex_then ?_
  refine cx_seq ?_
  refine cx_region ?_
  refine ox_y rfl (y_loadN 0 [.int .i64 p0_f.fRise, .int .i64 p0_f.fFall, .int .i64 p0_f.fUp, .int .i64 p0_f.fDown, .slice A0_4 p0_f.fLooks.length c0_4] ag_24 rfl rfl rfl) ?_
  refine ox_y rfl (y_loadN 1 [.int .i64 p1_look.fFoot, .int .i64 p1_look.fHour] ag_26 rfl rfl rfl) ?_
  refine ox_y rfl (y_loadN 2 [.int .i64 p2_at.fFoot, .int .i64 p2_at.fHour] ag_26 rfl rfl rfl) ?_
  refine ox_buildSliceE 2 (encL TSpot_cells [p1_look, p2_at]) _ mc_26_2 us_46 ze_26 by_26 (by decide) (by decide) (by kernel_rfl) (encL_len TSpot_cells_len rfl) rfl (fun b4 => ?_)
  obtain ⟨y5, hy6, h⟩ := bind_some h
  refine ox_y rfl (y_call [.agg #[.int .i64 p0_f.fRise, .int .i64 p0_f.fFall, .int .i64 p0_f.fUp, .int .i64 p0_f.fDown, .slice A0_4 p0_f.fLooks.length c0_4], .slice (some ⟨b4, 0, none⟩) 2 2] go_56 rfl (fun W2 hW2 => fire_spots_ok p0_f [p1_look, p2_at] y5 hy6 W2 A0_4 p0_f.fLooks.length c0_4 rfl ((RdL.arg hr0_4) W2 hW2) (some ⟨b4, 0, none⟩) 2 2 rfl ((RdL.row 3 rfl) W2 hW2)) rfl) ?_
  refine ox_y rfl (y_assign_int rfl) ?_
  refine ox_nil ?_
  refine ex_then ?_
  refine cx_seq ?_
  refine cx_seq ?_
  refine cx_region ?_
  refine ox_y rfl (y_move_int rfl) ?_
  refine ox_y rfl (y_eql rfl rfl) ?_
  refine ox_y rfl (y_move_bool rfl) ?_
  obtain ⟨b8, hb9, h⟩ := bind_some h
  refine ox_join 4 (fun tm0 => (upd (upd (upd (upd (upd (upd (upd (upd (upd tm0 3 (.int .i64 p3_need)) 4 (.pointer (some ⟨b1, 0, none⟩))) 5 (.pointer (some ⟨b2, 0, none⟩))) 6 (.pointer (some ⟨b3, 0, none⟩))) 8 (.int .i64 0)) 9 (.bool false)) 10 (.int .i64 0)) 11 (.int .i64 y5)) 25 (.bool b8))) (fun tm0 => ?_) (fun key => ?_)
  · refine ox_nil ?_
    refine ex_then ?_
    rcases ite_some h with ⟨hp10, h⟩ | ⟨hp10, h⟩
    · refine cx_true (congrArg Value.bool hp10) ?_
      refine cx_region ?_
      refine ox_y rfl (y_assign_int rfl) ?_
      refine ox_nil ?_
      refine ex_then ?_
      refine cx_seq ?_
      refine cx_seq ?_
      refine cx_region ?_
      refine ox_y rfl (y_loadN 0 [.int .i64 p0_f.fRise, .int .i64 p0_f.fFall, .int .i64 p0_f.fUp, .int .i64 p0_f.fDown, .slice A0_4 p0_f.fLooks.length c0_4] ag_24 rfl rfl rfl) ?_
      refine ox_y rfl (y_move_int rfl) ?_
      obtain ⟨y11, hy12, h⟩ := bind_some h
      refine ox_y rfl (y_call [.agg #[.int .i64 p0_f.fRise, .int .i64 p0_f.fFall, .int .i64 p0_f.fUp, .int .i64 p0_f.fDown, .slice A0_4 p0_f.fLooks.length c0_4], .int .i64 1] go_55 rfl (fun W2 hW2 => fire_agreed_ok p0_f 1 y11 hy12 W2 A0_4 p0_f.fLooks.length c0_4 rfl ((RdL.arg hr0_4) W2 hW2)) rfl) ?_
      refine ox_y rfl (y_assign_int rfl) ?_
      refine ox_nil ?_
      refine ex_then ?_
      refine cx_seq ?_
      refine cx_region ?_
      refine ox_y rfl (y_move_int rfl) ?_
      refine ox_y rfl (y_neq rfl rfl) ?_
      refine ox_nil ?_
      refine ex_then ?_
      rcases ite_some h with ⟨hp13, h⟩ | ⟨hp13, h⟩
      · refine cx_true (congrArg Value.bool hp13) ?_
        refine cx_seq ?_
        refine cx_region ?_
        refine ox_y rfl (y_move_int rfl) ?_
        refine ox_y rfl (y_assign_int rfl) ?_
        refine ox_y rfl (y_assign_bool rfl) ?_
        refine ox_y rfl (y_assign_int rfl) ?_
        refine ox_nil ?_
        refine ex_then ?_
        refine cx_ret ?_
        refine ex_then_ret ?_
        obtain rfl := Option.some.inj h
        exact ex_res3 (.inl rfl) rfl (resV_tmp (v := .int .i64 0) rfl) (resV_tmp (v := .bool false) rfl) (resV_tmp (v := .int .i64 y11) rfl) (fun W2 hW2 => ⟨rfl, hW2.none⟩)
      · refine cx_false (congrArg Value.bool hp13) ?_
        refine cx_skip ?_
        refine ex_then ?_
        refine cx_seq ?_
        refine cx_region ?_
        refine ox_y rfl (y_loadN 0 [.int .i64 p0_f.fRise, .int .i64 p0_f.fFall, .int .i64 p0_f.fUp, .int .i64 p0_f.fDown, .slice A0_4 p0_f.fLooks.length c0_4] ag_24 rfl rfl rfl) ?_
        refine ox_y rfl (y_loadN 1 [.int .i64 p1_look.fFoot, .int .i64 p1_look.fHour] ag_26 rfl rfl rfl) ?_
        refine ox_y rfl (y_loadN 2 [.int .i64 p2_at.fFoot, .int .i64 p2_at.fHour] ag_26 rfl rfl rfl) ?_
        refine ox_y rfl (y_move_int rfl) ?_
        obtain ⟨y14, hy15, h⟩ := bind_some h
        refine ox_y rfl (y_call [.agg #[.int .i64 p0_f.fRise, .int .i64 p0_f.fFall, .int .i64 p0_f.fUp, .int .i64 p0_f.fDown, .slice A0_4 p0_f.fLooks.length c0_4], .agg #[.int .i64 p1_look.fFoot, .int .i64 p1_look.fHour], .agg #[.int .i64 p2_at.fFoot, .int .i64 p2_at.fHour], .int .i64 p3_need] go_88 rfl (fun W2 hW2 => fire_needed_ok p0_f p1_look p2_at p3_need y14 hy15 W2 A0_4 p0_f.fLooks.length c0_4 rfl ((RdL.arg hr0_4) W2 hW2)) rfl) ?_
        refine ox_y rfl (y_move_tuple rfl) ?_
        refine ox_y rfl (y_extract (vs := [.int .i64 y14.1, .bool y14.2]) (v := .int .i64 y14.1) rfl rfl) ?_
        refine ox_y rfl (y_extract (vs := [.int .i64 y14.1, .bool y14.2]) (v := .bool y14.2) rfl rfl) ?_
        refine ox_y rfl (y_assign_int rfl) ?_
        refine ox_y rfl (y_assign_bool rfl) ?_
        refine ox_nil ?_
        refine ex_then ?_
        refine cx_seq ?_
        refine cx_region ?_
        refine ox_y rfl (y_move_int rfl) ?_
        refine ox_y rfl (y_move_bool rfl) ?_
        refine ox_y rfl (y_assign_int rfl) ?_
        refine ox_y rfl (y_assign_bool rfl) ?_
        refine ox_y rfl (y_assign_int rfl) ?_
        refine ox_nil ?_
        refine ex_then ?_
        refine cx_ret ?_
        obtain rfl := Option.some.inj h
        exact ex_res3 (.inl rfl) rfl (resV_tmp (v := .int .i64 y14.1) rfl) (resV_tmp (v := .bool y14.2) rfl) (resV_tmp (v := .int .i64 0) rfl) (fun W2 hW2 => ⟨rfl, hW2.none⟩)
    · refine cx_false (congrArg Value.bool hp10) ?_
      refine cx_skip ?_
      refine ex_then ?_
      refine cx_seq ?_
      refine cx_seq ?_
      refine cx_region ?_
      refine ox_y rfl (y_loadN 0 [.int .i64 p0_f.fRise, .int .i64 p0_f.fFall, .int .i64 p0_f.fUp, .int .i64 p0_f.fDown, .slice A0_4 p0_f.fLooks.length c0_4] ag_24 rfl rfl rfl) ?_
      refine ox_y rfl (y_move_int rfl) ?_
      obtain ⟨y16, hy17, h⟩ := bind_some h
      refine ox_y rfl (y_call [.agg #[.int .i64 p0_f.fRise, .int .i64 p0_f.fFall, .int .i64 p0_f.fUp, .int .i64 p0_f.fDown, .slice A0_4 p0_f.fLooks.length c0_4], .int .i64 y5] go_55 rfl (fun W2 hW2 => fire_agreed_ok p0_f y5 y16 hy17 W2 A0_4 p0_f.fLooks.length c0_4 rfl ((RdL.arg hr0_4) W2 hW2)) rfl) ?_
      refine ox_y rfl (y_assign_int rfl) ?_
      refine ox_nil ?_
      refine ex_then ?_
      refine cx_seq ?_
      refine cx_region ?_
      refine ox_y rfl (y_move_int rfl) ?_
      refine ox_y rfl (y_neq rfl rfl) ?_
      refine ox_nil ?_
      refine ex_then ?_
      rcases ite_some h with ⟨hp18, h⟩ | ⟨hp18, h⟩
      · refine cx_true (congrArg Value.bool hp18) ?_
        refine cx_seq ?_
        refine cx_region ?_
        refine ox_y rfl (y_move_int rfl) ?_
        refine ox_y rfl (y_assign_int rfl) ?_
        refine ox_y rfl (y_assign_bool rfl) ?_
        refine ox_y rfl (y_assign_int rfl) ?_
        refine ox_nil ?_
        refine ex_then ?_
        refine cx_ret ?_
        refine ex_then_ret ?_
        obtain rfl := Option.some.inj h
        exact ex_res3 (.inl rfl) rfl (resV_tmp (v := .int .i64 0) rfl) (resV_tmp (v := .bool false) rfl) (resV_tmp (v := .int .i64 y16) rfl) (fun W2 hW2 => ⟨rfl, hW2.none⟩)
      · refine cx_false (congrArg Value.bool hp18) ?_
        refine cx_skip ?_
        refine ex_then ?_
        refine cx_seq ?_
        refine cx_region ?_
        refine ox_y rfl (y_loadN 0 [.int .i64 p0_f.fRise, .int .i64 p0_f.fFall, .int .i64 p0_f.fUp, .int .i64 p0_f.fDown, .slice A0_4 p0_f.fLooks.length c0_4] ag_24 rfl rfl rfl) ?_
        refine ox_y rfl (y_loadN 1 [.int .i64 p1_look.fFoot, .int .i64 p1_look.fHour] ag_26 rfl rfl rfl) ?_
        refine ox_y rfl (y_loadN 2 [.int .i64 p2_at.fFoot, .int .i64 p2_at.fHour] ag_26 rfl rfl rfl) ?_
        refine ox_y rfl (y_move_int rfl) ?_
        obtain ⟨y19, hy20, h⟩ := bind_some h
        refine ox_y rfl (y_call [.agg #[.int .i64 p0_f.fRise, .int .i64 p0_f.fFall, .int .i64 p0_f.fUp, .int .i64 p0_f.fDown, .slice A0_4 p0_f.fLooks.length c0_4], .agg #[.int .i64 p1_look.fFoot, .int .i64 p1_look.fHour], .agg #[.int .i64 p2_at.fFoot, .int .i64 p2_at.fHour], .int .i64 p3_need] go_88 rfl (fun W2 hW2 => fire_needed_ok p0_f p1_look p2_at p3_need y19 hy20 W2 A0_4 p0_f.fLooks.length c0_4 rfl ((RdL.arg hr0_4) W2 hW2)) rfl) ?_
        refine ox_y rfl (y_move_tuple rfl) ?_
        refine ox_y rfl (y_extract (vs := [.int .i64 y19.1, .bool y19.2]) (v := .int .i64 y19.1) rfl rfl) ?_
        refine ox_y rfl (y_extract (vs := [.int .i64 y19.1, .bool y19.2]) (v := .bool y19.2) rfl rfl) ?_
        refine ox_y rfl (y_assign_int rfl) ?_
        refine ox_y rfl (y_assign_bool rfl) ?_
        refine ox_nil ?_
        refine ex_then ?_
        refine cx_seq ?_
        refine cx_region ?_
        refine ox_y rfl (y_move_int rfl) ?_
        refine ox_y rfl (y_move_bool rfl) ?_
        refine ox_y rfl (y_assign_int rfl) ?_
        refine ox_y rfl (y_assign_bool rfl) ?_
        refine ox_y rfl (y_assign_int rfl) ?_
        refine ox_nil ?_
        refine ex_then ?_
        refine cx_ret ?_
        obtain rfl := Option.some.inj h
        exact ex_res3 (.inl rfl) rfl (resV_tmp (v := .int .i64 y19.1) rfl) (resV_tmp (v := .bool y19.2) rfl) (resV_tmp (v := .int .i64 0) rfl) (fun W2 hW2 => ⟨rfl, hW2.none⟩)
  · clear h; rcases ite_some hb9 with ⟨hp7, h⟩ | ⟨hp7, h⟩
    · refine ox_y (sees_t rfl rfl rfl rfl hp7) (y_move_int rfl) ?_
      obtain ⟨y21, hy22, h⟩ := bind_some h
      refine ox_y (sees_t rfl rfl rfl rfl hp7) (y_call [.int .i64 p3_need] go_87 rfl (fun W2 hW2 => fire_heat_ok p3_need y21 hy22 W2 ) rfl) ?_
      refine ox_y (sees_t rfl rfl rfl rfl hp7) (y_not rfl) ?_
      refine ox_y rfl (y_pick_tb (congrArg Value.bool hp7) rfl) ?_
      obtain rfl := Option.some.inj h
      exact key _ _ (keep (keep (keep (keep (keep (keep (keep (keep (keep rfl rfl) rfl) rfl) rfl) rfl) rfl) rfl) rfl) rfl)
    · refine ox_skip (sees_f rfl rfl rfl rfl hp7) ?_
      refine ox_skip (sees_f rfl rfl rfl rfl hp7) ?_
      refine ox_skip (sees_f rfl rfl rfl rfl hp7) ?_
      refine ox_y rfl (y_pick_fb (congrArg Value.bool hp7) rfl) ?_
      obtain rfl := Option.some.inj h
      exact key _ _ (keep (keep (keep (keep (keep (keep (keep (keep (keep rfl rfl) rfl) rfl) rfl) rfl) rfl) rfl) rfl) rfl)

/-! calx/calxlaw02.Kiln -/
set_option maxRecDepth 100000 in
theorem calxlaw02_Kiln_ok  (res : TFire) (h : calxlaw02_Kiln = some res) (W : World)  :
    Calls Try.prog 53 [].toArray W fun e W2 => ∃ x : Option Addr × Nat × Nat, x.2.1 = res.fLooks.length ∧ e = .returned (.agg #[.int .i64 res.fRise, .int .i64 res.fFall, .int .i64 res.fUp, .int .i64 res.fDown, .slice x.1 x.2.1 x.2.2]) ∧ Ext W W2 [rowR x.1 x.2.2 34 5 x.2.1 (encL TLook_cells res.fLooks)] := by
  unfold calxlaw02_Kiln at h
  refine calls_enter (m := 12) Try.func53 rfl rfl (Nat.le_of_ble_eq_true rfl) ?_
  refine cx_seq ?_
  refine cx_region ?_
  refine ox_alloc ze_24 rfl (fun b1 => ?_)
  refine ox_nil ?_
  refine ex_then ?_
  refine cx_seq ?_
  refine cx_region ?_
  refine ox_y rfl (y_buildS [.int .i64 10, .int .i64 5] [(0, 1), (1, 1)] ust_26 ze_26 (by kernel_rfl)) ?_
  refine ox_y rfl (y_buildS [.int .i64 800, .int .i64 900] [(0, 1), (1, 1)] ust_32 ze_32 (by kernel_rfl)) ?_
  refine ox_y rfl (y_buildS [.int .i64 1, .int .i64 10, .int .i64 5, .int .i64 800, .int .i64 900] [(0, 1), (1, 2), (3, 2)] ust_34 ze_34 (by kernel_rfl)) ?_
  refine ox_y rfl (y_buildS [.int .i64 12, .int .i64 8] [(0, 1), (1, 1)] ust_26 ze_26 (by kernel_rfl)) ?_
  refine ox_y rfl (y_buildS [.int .i64 700, .int .i64 850] [(0, 1), (1, 1)] ust_32 ze_32 (by kernel_rfl)) ?_
  refine ox_y rfl (y_buildS [.int .i64 2, .int .i64 12, .int .i64 8, .int .i64 700, .int .i64 850] [(0, 1), (1, 2), (3, 2)] ust_34 ze_34 (by kernel_rfl)) ?_
  refine ox_y rfl (y_buildS [.int .i64 10, .int .i64 20] [(0, 1), (1, 1)] ust_26 ze_26 (by kernel_rfl)) ?_
  refine ox_y rfl (y_buildS [.int .i64 950, .int .i64 1000] [(0, 1), (1, 1)] ust_32 ze_32 (by kernel_rfl)) ?_
  refine ox_y rfl (y_buildS [.int .i64 3, .int .i64 10, .int .i64 20, .int .i64 950, .int .i64 1000] [(0, 1), (1, 2), (3, 2)] ust_34 ze_34 (by kernel_rfl)) ?_
  refine ox_buildSliceE 3 (encL TLook_cells [(TLook.mk 1 (TSpot.mk 10 5) (TSpan.mk 800 900)), (TLook.mk 2 (TSpot.mk 12 8) (TSpan.mk 700 850)), (TLook.mk 3 (TSpot.mk 10 20) (TSpan.mk 950 1000))]) _ mc_34_3 us_22 ze_34 by_34 (by decide) (by decide) (by kernel_rfl) (encL_len TLook_cells_len rfl) rfl (fun b2 => ?_)
  refine ox_y rfl (y_buildS [.int .i64 20, .int .i64 10, .int .i64 5, .int .i64 30, .slice (some ⟨b2, 0, none⟩) 3 3] [(0, 1), (1, 1), (2, 1), (3, 1), (4, 1)] ust_24 ze_24 (by kernel_rfl)) ?_
  refine ox_n rfl (y_storeN 0 [.int .i64 20, .int .i64 10, .int .i64 5, .int .i64 30, .slice (some ⟨b2, 0, none⟩) 3 3] sz_24 rfl (Nat.le_of_ble_eq_true rfl) rfl rfl rfl) ?_
  refine ox_nil ?_
  refine ex_then ?_
  refine cx_ret ?_
  obtain rfl := Option.some.inj h
  exact ex_res1 (.inl rfl) rfl (resV_cellN 0 [.int .i64 20, .int .i64 10, .int .i64 5, .int .i64 30, .slice (some ⟨b2, 0, none⟩) 3 3] ag_24 rfl rfl rfl) (fun W2 hW2 => ⟨((some ⟨b2, 0, none⟩), 3, 3), rfl, rfl, (hW2.pick 1 rfl)⟩)

/-! calx/calxlaw02.at -/
set_option maxRecDepth 100000 in
theorem calxlaw02_at_ok (p0_foot : Int) (p1_hour : Int) (res : TSpot) (h : calxlaw02_at p0_foot p1_hour = some res) (W : World)  :
    Calls Try.prog 54 [.int .i64 p0_foot, .int .i64 p1_hour].toArray W fun e W2 => e = .returned (.agg #[.int .i64 res.fFoot, .int .i64 res.fHour]) ∧ Ext W W2 [] := by
  unfold calxlaw02_at at h
  refine calls_enter (m := 8) Try.func54 rfl rfl (Nat.le_of_ble_eq_true rfl) ?_
  refine cx_seq ?_
  refine cx_region ?_
  refine ox_alloc ze_26 rfl (fun b1 => ?_)
  refine ox_nil ?_
  refine ex_then ?_
  refine cx_seq ?_
  refine cx_region ?_
  refine ox_y rfl (y_move_int rfl) ?_
  refine ox_y rfl (y_move_int rfl) ?_
  refine ox_y rfl (y_buildS [.int .i64 p0_foot, .int .i64 p1_hour] [(0, 1), (1, 1)] ust_26 ze_26 (by kernel_rfl)) ?_
  refine ox_n rfl (y_storeN 0 [.int .i64 p0_foot, .int .i64 p1_hour] sz_26 rfl (Nat.le_of_ble_eq_true rfl) rfl rfl rfl) ?_
  refine ox_nil ?_
  refine ex_then ?_
  refine cx_ret ?_
  obtain rfl := Option.some.inj h
  exact ex_res1 (.inl rfl) rfl (resV_cellN 0 [.int .i64 p0_foot, .int .i64 p1_hour] ag_26 rfl rfl rfl) (fun W2 hW2 => ⟨rfl, hW2.none⟩)

end Go.Proofs.Ytndajeiecdmhnaa
