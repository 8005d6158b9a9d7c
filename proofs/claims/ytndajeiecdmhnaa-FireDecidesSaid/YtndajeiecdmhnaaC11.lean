/- The calls hand back what the plain functions say. -/
import Derived.Test.YtndajeiecdmhnaaF
import Derived.Test.YtndajeiecdmhnaaGy
import Derived.Test.YtndajeiecdmhnaaC0
import Derived.Test.YtndajeiecdmhnaaC2
import Derived.Test.YtndajeiecdmhnaaC3
set_option linter.unusedVariables false
set_option maxHeartbeats 4000000
namespace Go.Proofs.Ytndajeiecdmhnaa
open Go.RowKit (Below)
attribute [local irreducible] OX QX CX EX OpY Calls CallsIn

/-! calx/fire.with -/
set_option maxRecDepth 100000 in
theorem fire_with_ok (p0_f : TFire) (p1_x : TLook) (res : TFire) (h : fire_with p0_f p1_x = some res) (W : World) (A0_4 : Option Addr) (n0_4 c0_4 : Nat) (hn0_4 : n0_4 = p0_f.fLooks.length) (hr0_4 : Rd W A0_4 n0_4 c0_4 (encL TLook_cells p0_f.fLooks)) :
    Calls Try.prog 82 [.agg #[.int .i64 p0_f.fRise, .int .i64 p0_f.fFall, .int .i64 p0_f.fUp, .int .i64 p0_f.fDown, .slice A0_4 n0_4 c0_4], .agg #[.int .i64 p1_x.fID, .int .i64 p1_x.fAt.fFoot, .int .i64 p1_x.fAt.fHour, .int .i64 p1_x.fHeat.fLo, .int .i64 p1_x.fHeat.fHi]].toArray W fun e W2 => ∃ x : Option Addr × Nat × Nat, x.2.1 = res.fLooks.length ∧ e = .returned (.agg #[.int .i64 res.fRise, .int .i64 res.fFall, .int .i64 res.fUp, .int .i64 res.fDown, .slice x.1 x.2.1 x.2.2]) ∧ Ext W W2 [rowR x.1 x.2.2 34 5 x.2.1 (encL TLook_cells res.fLooks)] := by
  subst hn0_4
  unfold fire_with at h
  refine calls_enter (m := 13) Try.func82 rfl rfl (Nat.le_of_ble_eq_true rfl) ?_
  refine cx_seq ?_
  refine cx_region ?_
  refine ox_box [.int .i64 p0_f.fRise, .int .i64 p0_f.fFall, .int .i64 p0_f.fUp, .int .i64 p0_f.fDown, .slice A0_4 p0_f.fLooks.length c0_4] rfl rfl rfl (fun b1 => ?_)
  refine ox_box [.int .i64 p1_x.fID, .int .i64 p1_x.fAt.fFoot, .int .i64 p1_x.fAt.fHour, .int .i64 p1_x.fHeat.fLo, .int .i64 p1_x.fHeat.fHi] rfl rfl rfl (fun b2 => ?_)
  refine ox_alloc ze_24 rfl (fun b3 => ?_)
  refine ox_nil ?_
  refine ex_then ?_
  refine cx_seq ?_
  obtain ⟨y5, hy6, h⟩ := bind_some h
  obtain ⟨hg14, h⟩ := guardO_some h
  refine cx_drawsG [[], [0], [0, 1], [], [3], [0, 1, 2, 3, 4], [0, 1, 2, 3, 4, 5], [0, 1, 2, 3, 4, 5, 6]] [(none, 0, [true, true, true]), (none, 0, [true, true, true]), (none, 1, [true, true, true]), (none, 0, [true, true, true, false]), (none, 1, [true, true, true, false]), (some 3, 0, [true, true, true, true, true]), (none, 0, [true, true, true, true, true]), (some 0, 0, [true, true, true, true, true])] [⟨fun _ => .pointer (some ⟨b1, 0 + 4, none⟩), fun _ => noR, fun _ => []⟩, ⟨fun _ => .slice A0_4 p0_f.fLooks.length c0_4, fun _ => noR, fun _ => []⟩, ⟨fun ξ4 => .slice (ξ4 2 0).1 y5.length (ξ4 2 0).2.2, fun _ => noR, fun ξ4 => [rowR (ξ4 2 0).1 (ξ4 2 0).2.2 34 5 y5.length (encL TLook_cells y5)]⟩, ⟨fun _ => .agg #[.int .i64 p1_x.fID, .int .i64 p1_x.fAt.fFoot, .int .i64 p1_x.fAt.fHour, .int .i64 p1_x.fHeat.fLo, .int .i64 p1_x.fHeat.fHi], fun _ => noR, fun _ => []⟩, ⟨fun ξ4 => .slice (some ⟨(ξ4 4 0).2.1, 0, none⟩) 1 1, fun _ => noR, fun ξ4 => [rowR (some ⟨(ξ4 4 0).2.1, 0, none⟩) 1 34 5 1 (encL TLook_cells [p1_x])]⟩, ⟨fun ξ4 => .slice (ξ4 5 0).1 (y5.length + 1) (ξ4 5 0).2.2, fun ξ4 => rowR (ξ4 5 0).1 (ξ4 5 0).2.2 34 5 (y5.length + 1) (encL TLook_cells (y5 ++ [p1_x])), fun _ => []⟩, ⟨fun _ => .pointer (some ⟨b1, 0 + 4, none⟩), fun _ => noR, fun _ => []⟩, ⟨fun _ => undef, fun ξ4 => cellsR b1 24 [.int .i64 p0_f.fRise, .int .i64 p0_f.fFall, .int .i64 p0_f.fUp, .int .i64 p0_f.fDown, .slice (ξ4 5 0).1 (y5.length + 1) (ξ4 5 0).2.2], fun _ => []⟩] 3 mixed (by kernel_rfl) (by kernel_rfl) ⟨⟨fun ξ4 ξ4' h => ⟨rfl, rfl, rfl⟩, fun _ => rfl⟩, ⟨fun ξ4 ξ4' h => ⟨rfl, rfl, rfl⟩, fun _ => rfl⟩, ⟨fun ξ4 ξ4' h => ⟨by simp only [h 2 (.inl rfl)], rfl, by simp only [h 2 (.inl rfl)]⟩, fun _ => rfl⟩, ⟨fun ξ4 ξ4' h => ⟨rfl, rfl, rfl⟩, fun _ => rfl⟩, ⟨fun ξ4 ξ4' h => ⟨by simp only [h 4 (.inl rfl)], rfl, by simp only [h 4 (.inl rfl)]⟩, fun _ => rfl⟩, ⟨fun ξ4 ξ4' h => ⟨by simp only [h 5 (.inl rfl)], by simp only [h 5 (.inl rfl)], rfl⟩, fun _ => rfl⟩, ⟨fun ξ4 ξ4' h => ⟨rfl, rfl, rfl⟩, fun _ => rfl⟩, ⟨fun ξ4 ξ4' h => ⟨rfl, by simp only [h 5 (.inr rfl)], rfl⟩, fun _ => rfl⟩, trivial⟩ rfl (fun ξ4 => ?_)
  refine gx_o rfl (fun L2 => ?_) ?_
  · dsimp only [maskL, List.cons_append, List.nil_append]
    refine ox_y rfl (y_fieldAddr fo_24_4 rfl) ?_
    refine ox_nil ?_
    exact ex_capG (fun _ => (none, 0, 0)) rfl (List.append_nil _)
  dsimp only [aftL, List.set_cons_zero, List.set_cons_succ, List.nil_append, List.cons_append, List.append_nil]
  refine gx_o rfl (fun L2 => ?_) ?_
  · dsimp only [maskL, List.cons_append, List.nil_append]
    refine ox_y rfl (y_load1 0 (v := .slice A0_4 p0_f.fLooks.length c0_4) sc_22 rfl rfl rfl) ?_
    refine ox_nil ?_
    exact ex_capG (fun _ => (none, 0, 0)) rfl (List.append_nil _)
  dsimp only [aftL, List.set_cons_zero, List.set_cons_succ, List.nil_append, List.cons_append, List.append_nil]
  refine gx_o rfl (fun L2 => ?_) ?_
  · dsimp only [maskL, List.cons_append, List.nil_append]
    refine ox_call [.slice A0_4 p0_f.fLooks.length c0_4] _ _ _ rfl go_104 rfl (fun W2 hW2 => slices_Clone_calx_api_Look_calx_api_Look_ok p0_f.fLooks y5 hy6 W2 A0_4 p0_f.fLooks.length c0_4 rfl ((RdL.arg hr0_4) W2 hW2)) ?_
    rintro ⟨A7, n9, c8⟩ hn10
    replace hn10 : n9 = y5.length := hn10; subst hn10
    refine ox_nil ?_
    exact ex_capG (fun _ => (A7, 0, c8)) rfl rfl
  dsimp only [aftL, List.set_cons_zero, List.set_cons_succ, List.nil_append, List.cons_append, List.append_nil]
  refine gx_o rfl (fun L2 => ?_) ?_
  · dsimp only [maskL, List.cons_append, List.nil_append]
    refine ox_y rfl (y_loadN 1 [.int .i64 p1_x.fID, .int .i64 p1_x.fAt.fFoot, .int .i64 p1_x.fAt.fHour, .int .i64 p1_x.fHeat.fLo, .int .i64 p1_x.fHeat.fHi] ag_34 rfl rfl rfl) ?_
    refine ox_nil ?_
    exact ex_capG (fun _ => (none, 0, 0)) rfl (List.append_nil _)
  dsimp only [aftL, List.set_cons_zero, List.set_cons_succ, List.nil_append, List.cons_append, List.append_nil]
  refine gx_o rfl (fun L2 => ?_) ?_
  · dsimp only [maskL, List.cons_append, List.nil_append]
    refine ox_buildSliceE 1 (encL TLook_cells [p1_x]) _ mc_34_1 us_22 ze_34 by_34 (by decide) (by decide) (by kernel_rfl) (encL_len TLook_cells_len rfl) rfl (fun b11 => ?_)
    refine ox_nil ?_
    exact ex_capG (fun _ => (none, b11, 0)) rfl rfl
  dsimp only [aftL, List.set_cons_zero, List.set_cons_succ, List.nil_append, List.cons_append, List.append_nil]
  refine gx_o rfl (fun L2 => ?_) ?_
  · dsimp only [maskL, List.cons_append, List.nil_append]
    refine ox_append0 3 us_22 ze_34 by_34 rfl rfl rfl (RdL.row 4 rfl) (encL_len TLook_cells_len rfl) (encL_one TLook_cells_one _) (app_room hg14 (by decide)) rfl (fun A12 c13 => ?_)
    refine ox_nil ?_
    exact ex_capG (fun _ => (A12, 0, c13)) rfl (List.append_nil _)
  dsimp only [aftL, List.set_cons_zero, List.set_cons_succ, List.nil_append, List.cons_append, List.append_nil]
  refine gx_o rfl (fun L2 => ?_) ?_
  · dsimp only [maskL, List.cons_append, List.nil_append]
    refine ox_y rfl (y_fieldAddr fo_24_4 rfl) ?_
    refine ox_nil ?_
    exact ex_capG (fun _ => (none, 0, 0)) rfl (List.append_nil _)
  dsimp only [aftL, List.set_cons_zero, List.set_cons_succ, List.nil_append, List.cons_append, List.append_nil]
  refine gx_n rfl (fun L2 => ?_) ?_
  · dsimp only [maskL, List.cons_append, List.nil_append]
    refine ox_n rfl (y_store1 0 (v := .slice (ξ4 5 0).1 (y5.length + 1) (ξ4 5 0).2.2) sz_22 rfl (Nat.lt_of_lt_of_le (Nat.lt_succ_self _) (Nat.le_of_ble_eq_true rfl)) rfl rfl rfl) ?_
    refine ox_nil ?_
    exact ex_capGn (fun _ => (none, 0, 0)) (List.append_nil _)
  dsimp only [aftL, List.set_cons_zero, List.set_cons_succ, List.nil_append, List.cons_append, List.append_nil]
  refine gx_nil ?_
  refine ex_then ?_
  refine cx_seq ?_
  refine cx_region ?_
  refine ox_y rfl (y_loadN 0 [.int .i64 p0_f.fRise, .int .i64 p0_f.fFall, .int .i64 p0_f.fUp, .int .i64 p0_f.fDown, .slice (ξ4 5 0).1 (y5.length + 1) (ξ4 5 0).2.2] ag_24 rfl rfl rfl) ?_
  refine ox_n rfl (y_storeN 2 [.int .i64 p0_f.fRise, .int .i64 p0_f.fFall, .int .i64 p0_f.fUp, .int .i64 p0_f.fDown, .slice (ξ4 5 0).1 (y5.length + 1) (ξ4 5 0).2.2] sz_24 rfl (Nat.le_of_ble_eq_true rfl) rfl rfl rfl) ?_
  refine ox_nil ?_
  refine ex_then ?_
  refine cx_ret ?_
  obtain rfl := Option.some.inj h
  exact ex_res1 (.inl rfl) rfl (resV_cellN 2 [.int .i64 p0_f.fRise, .int .i64 p0_f.fFall, .int .i64 p0_f.fUp, .int .i64 p0_f.fDown, .slice (ξ4 5 0).1 (y5.length + 1) (ξ4 5 0).2.2] ag_24 rfl rfl rfl) (fun W2 hW2 => ⟨((ξ4 5 0).1, (y5.length + 1), (ξ4 5 0).2.2), (hn_app rfl rfl), rfl, (hW2.pick 3 rfl)⟩)

/-! calx/fire.Would -/
set_option maxRecDepth 100000 in
theorem fire_Would_ok (p0_f : TFire) (p1_x : TLook) (p2_at : TSpot) (res : (TBounds × Int)) (h : fire_Would p0_f p1_x p2_at = some res) (W : World) (A0_4 : Option Addr) (n0_4 c0_4 : Nat) (hn0_4 : n0_4 = p0_f.fLooks.length) (hr0_4 : Rd W A0_4 n0_4 c0_4 (encL TLook_cells p0_f.fLooks)) :
    Calls Try.prog 38 [.agg #[.int .i64 p0_f.fRise, .int .i64 p0_f.fFall, .int .i64 p0_f.fUp, .int .i64 p0_f.fDown, .slice A0_4 n0_4 c0_4], .agg #[.int .i64 p1_x.fID, .int .i64 p1_x.fAt.fFoot, .int .i64 p1_x.fAt.fHour, .int .i64 p1_x.fHeat.fLo, .int .i64 p1_x.fHeat.fHi], .agg #[.int .i64 p2_at.fFoot, .int .i64 p2_at.fHour]].toArray W fun e W2 => e = .returned (.tuple #[.agg #[.int .i64 res.1.fSpan.fLo, .int .i64 res.1.fSpan.fHi, .int .i64 res.1.fLow, .int .i64 res.1.fHigh], .int .i64 res.2]) ∧ Ext W W2 [] := by
  subst hn0_4
  unfold fire_Would at h
  refine calls_enter (m := 32) Try.func38 rfl rfl (Nat.le_of_ble_eq_true rfl) ?_
  refine cx_seq ?_
  refine cx_region ?_
  refine ox_box [.int .i64 p0_f.fRise, .int .i64 p0_f.fFall, .int .i64 p0_f.fUp, .int .i64 p0_f.fDown, .slice A0_4 p0_f.fLooks.length c0_4] rfl rfl rfl (fun b1 => ?_)
  refine ox_box [.int .i64 p1_x.fID, .int .i64 p1_x.fAt.fFoot, .int .i64 p1_x.fAt.fHour, .int .i64 p1_x.fHeat.fLo, .int .i64 p1_x.fHeat.fHi] rfl rfl rfl (fun b2 => ?_)
  refine ox_box [.int .i64 p2_at.fFoot, .int .i64 p2_at.fHour] rfl rfl rfl (fun b3 => ?_)
  refine ox_alloc ze_36 rfl (fun b4 => ?_)
  refine ox_y rfl (y_assign_int rfl) ?_
  refine ox_nil ?_
  refine ex_then ?_
  refine cx_seq ?_
  refine cx_seq ?_
  refine cx_region ?_
  refine ox_y rfl (y_loadN 0 [.int .i64 p0_f.fRise, .int .i64 p0_f.fFall, .int .i64 p0_f.fUp, .int .i64 p0_f.fDown, .slice A0_4 p0_f.fLooks.length c0_4] ag_24 rfl rfl rfl) ?_
  refine ox_y rfl (y_loadN 2 [.int .i64 p2_at.fFoot, .int .i64 p2_at.fHour] ag_26 rfl rfl rfl) ?_
  refine ox_buildSliceE 1 (encL TSpot_cells [p2_at]) _ mc_26_1 us_46 ze_26 by_26 (by decide) (by decide) (by kernel_rfl) (encL_len TSpot_cells_len rfl) rfl (fun b5 => ?_)
  obtain ⟨y6, hy7, h⟩ := bind_some h
  refine ox_y rfl (y_call [.agg #[.int .i64 p0_f.fRise, .int .i64 p0_f.fFall, .int .i64 p0_f.fUp, .int .i64 p0_f.fDown, .slice A0_4 p0_f.fLooks.length c0_4], .slice (some ⟨b5, 0, none⟩) 1 1] go_56 rfl (fun W2 hW2 => fire_spots_ok p0_f [p2_at] y6 hy7 W2 A0_4 p0_f.fLooks.length c0_4 rfl ((RdL.arg hr0_4) W2 hW2) (some ⟨b5, 0, none⟩) 1 1 rfl ((RdL.row 4 rfl) W2 hW2)) rfl) ?_
  refine ox_y rfl (y_assign_int rfl) ?_
  refine ox_nil ?_
  refine ex_then ?_
  refine cx_seq ?_
  refine cx_region ?_
  refine ox_y rfl (y_move_int rfl) ?_
  refine ox_y rfl (y_neq rfl rfl) ?_
  refine ox_nil ?_
  refine ex_then ?_
  rcases ite_some h with ⟨hp8, h⟩ | ⟨hp8, h⟩
  · refine cx_true (congrArg Value.bool hp8) ?_
    refine cx_seq ?_
    refine cx_region ?_
    refine ox_y rfl (y_buildS [.int .i64 0, .int .i64 0, .int .i64 0, .int .i64 0] [(0, 2), (2, 1), (3, 1)] ust_36 ze_36 (by kernel_rfl)) ?_
    refine ox_y rfl (y_move_int rfl) ?_
    refine ox_n rfl (y_storeN 3 [.int .i64 0, .int .i64 0, .int .i64 0, .int .i64 0] sz_36 rfl (Nat.le_of_ble_eq_true rfl) rfl rfl rfl) ?_
    refine ox_y rfl (y_assign_int rfl) ?_
    refine ox_nil ?_
    refine ex_then ?_
    refine cx_ret ?_
    refine ex_then_ret ?_
    obtain rfl := Option.some.inj h
    exact ex_res2 (.inl rfl) rfl (resV_cellN 3 [.int .i64 0, .int .i64 0, .int .i64 0, .int .i64 0] ag_36 rfl rfl rfl) (resV_tmp (v := .int .i64 y6) rfl) (fun W2 hW2 => ⟨rfl, hW2.none⟩)
  · refine cx_false (congrArg Value.bool hp8) ?_
    refine cx_skip ?_
    refine ex_then ?_
    refine cx_seq ?_
    refine cx_region ?_
    refine ox_y rfl (y_loadN 0 [.int .i64 p0_f.fRise, .int .i64 p0_f.fFall, .int .i64 p0_f.fUp, .int .i64 p0_f.fDown, .slice A0_4 p0_f.fLooks.length c0_4] ag_24 rfl rfl rfl) ?_
    refine ox_y rfl (y_loadN 1 [.int .i64 p1_x.fID, .int .i64 p1_x.fAt.fFoot, .int .i64 p1_x.fAt.fHour, .int .i64 p1_x.fHeat.fLo, .int .i64 p1_x.fHeat.fHi] ag_34 rfl rfl rfl) ?_
    obtain ⟨y9, hy10, h⟩ := bind_some h
    refine ox_call [.agg #[.int .i64 p0_f.fRise, .int .i64 p0_f.fFall, .int .i64 p0_f.fUp, .int .i64 p0_f.fDown, .slice A0_4 p0_f.fLooks.length c0_4], .agg #[.int .i64 p1_x.fID, .int .i64 p1_x.fAt.fFoot, .int .i64 p1_x.fAt.fHour, .int .i64 p1_x.fHeat.fLo, .int .i64 p1_x.fHeat.fHi]] _ _ _ rfl go_82 rfl (fun W2 hW2 => fire_with_ok p0_f p1_x y9 hy10 W2 A0_4 p0_f.fLooks.length c0_4 rfl ((RdL.arg hr0_4) W2 hW2)) ?_
    rintro ⟨A11, n13, c12⟩ hn14
    replace hn14 : n13 = y9.fLooks.length := hn14; subst hn14
    try dsimp only [List.nil_append, List.cons_append, List.set_cons_zero, List.set_cons_succ]
    refine ox_n rfl (y_storeN 0 [.int .i64 y9.fRise, .int .i64 y9.fFall, .int .i64 y9.fUp, .int .i64 y9.fDown, .slice A11 y9.fLooks.length c12] sz_24 rfl (Nat.le_of_ble_eq_true rfl) rfl rfl rfl) ?_
    refine ox_nil ?_
    refine ex_then ?_
    refine cx_seq ?_
    refine cx_seq ?_
    refine cx_draws 5 mixed (by kernel_rfl) (by kernel_rfl) ?_
    refine qx_y rfl (y_loadN 0 [.int .i64 y9.fRise, .int .i64 y9.fFall, .int .i64 y9.fUp, .int .i64 y9.fDown, .slice A11 y9.fLooks.length c12] ag_24 rfl rfl rfl) ?_
    refine qx_y rfl (y_loadN 0 [.int .i64 y9.fRise, .int .i64 y9.fFall, .int .i64 y9.fUp, .int .i64 y9.fDown, .slice A11 y9.fLooks.length c12] ag_24 rfl rfl rfl) ?_
    obtain ⟨y15, hy16, h⟩ := bind_some h
    refine qx_y rfl (y_call [.agg #[.int .i64 y9.fRise, .int .i64 y9.fFall, .int .i64 y9.fUp, .int .i64 y9.fDown, .slice A11 y9.fLooks.length c12]] go_12 rfl (fun W2 hW2 => fire_Check_ok y9 y15 hy16 W2 A11 y9.fLooks.length c12 rfl ((RdL.row 5 rfl) W2 hW2)) rfl) ?_
    obtain ⟨y17, hy18, h⟩ := bind_some h
    refine qx_y rfl (y_call [.agg #[.int .i64 y9.fRise, .int .i64 y9.fFall, .int .i64 y9.fUp, .int .i64 y9.fDown, .slice A11 y9.fLooks.length c12], .int .i64 y15] go_55 rfl (fun W2 hW2 => fire_agreed_ok y9 y15 y17 hy18 W2 A11 y9.fLooks.length c12 rfl ((RdL.row 5 rfl) W2 hW2)) rfl) ?_
    refine qx_y rfl (y_assign_int rfl) ?_
    refine qx_nil ?_
    refine ox_nil ?_
    refine ex_then ?_
    refine cx_seq ?_
    refine cx_region ?_
    refine ox_y rfl (y_move_int rfl) ?_
    refine ox_y rfl (y_neq rfl rfl) ?_
    refine ox_nil ?_
    refine ex_then ?_
    rcases ite_some h with ⟨hp19, h⟩ | ⟨hp19, h⟩
    · refine cx_true (congrArg Value.bool hp19) ?_
      refine cx_seq ?_
      refine cx_region ?_
      refine ox_y rfl (y_buildS [.int .i64 0, .int .i64 0, .int .i64 0, .int .i64 0] [(0, 2), (2, 1), (3, 1)] ust_36 ze_36 (by kernel_rfl)) ?_
      refine ox_y rfl (y_move_int rfl) ?_
      refine ox_n rfl (y_storeN 3 [.int .i64 0, .int .i64 0, .int .i64 0, .int .i64 0] sz_36 rfl (Nat.le_of_ble_eq_true rfl) rfl rfl rfl) ?_
      refine ox_y rfl (y_assign_int rfl) ?_
      refine ox_nil ?_
      refine ex_then ?_
      refine cx_ret ?_
      refine ex_then_ret ?_
      obtain rfl := Option.some.inj h
      exact ex_res2 (.inl rfl) rfl (resV_cellN 3 [.int .i64 0, .int .i64 0, .int .i64 0, .int .i64 0] ag_36 rfl rfl rfl) (resV_tmp (v := .int .i64 y17) rfl) (fun W2 hW2 => ⟨rfl, hW2.none⟩)
    · refine cx_false (congrArg Value.bool hp19) ?_
      refine cx_skip ?_
      refine ex_then ?_
      refine cx_seq ?_
      refine cx_region ?_
      refine ox_y rfl (y_loadN 0 [.int .i64 y9.fRise, .int .i64 y9.fFall, .int .i64 y9.fUp, .int .i64 y9.fDown, .slice A11 y9.fLooks.length c12] ag_24 rfl rfl rfl) ?_
      refine ox_y rfl (y_loadN 2 [.int .i64 p2_at.fFoot, .int .i64 p2_at.fHour] ag_26 rfl rfl rfl) ?_
      obtain ⟨y20, hy21, h⟩ := bind_some h
      refine ox_y rfl (y_call [.agg #[.int .i64 y9.fRise, .int .i64 y9.fFall, .int .i64 y9.fUp, .int .i64 y9.fDown, .slice A11 y9.fLooks.length c12], .agg #[.int .i64 p2_at.fFoot, .int .i64 p2_at.fHour]] go_57 rfl (fun W2 hW2 => fire_ends_ok y9 p2_at y20 hy21 W2 A11 y9.fLooks.length c12 rfl ((RdL.row 5 rfl) W2 hW2)) rfl) ?_
      refine ox_n rfl (y_storeN 3 [.int .i64 y20.fSpan.fLo, .int .i64 y20.fSpan.fHi, .int .i64 y20.fLow, .int .i64 y20.fHigh] sz_36 rfl (Nat.le_of_ble_eq_true rfl) rfl rfl rfl) ?_
      refine ox_y rfl (y_assign_int rfl) ?_
      refine ox_nil ?_
      refine ex_then ?_
      refine cx_ret ?_
      obtain rfl := Option.some.inj h
      exact ex_res2 (.inl rfl) rfl (resV_cellN 3 [.int .i64 y20.fSpan.fLo, .int .i64 y20.fSpan.fHi, .int .i64 y20.fLow, .int .i64 y20.fHigh] ag_36 rfl rfl rfl) (resV_tmp (v := .int .i64 0) rfl) (fun W2 hW2 => ⟨rfl, hW2.none⟩)

end Go.Proofs.Ytndajeiecdmhnaa
