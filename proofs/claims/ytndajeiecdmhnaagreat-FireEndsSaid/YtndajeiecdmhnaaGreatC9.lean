/- The calls hand back what the plain functions say. -/
import Derived.Test.YtndajeiecdmhnaaGreatF
import Derived.Test.YtndajeiecdmhnaaGreatGy
import Derived.Test.YtndajeiecdmhnaaGreatC0
import Derived.Test.YtndajeiecdmhnaaGreatC1
import Derived.Test.YtndajeiecdmhnaaGreatC2
import Derived.Test.YtndajeiecdmhnaaGreatC4
import Derived.Test.YtndajeiecdmhnaaGreatC5
import Derived.Test.YtndajeiecdmhnaaGreatC6
import Derived.Test.YtndajeiecdmhnaaGreatC8
set_option linter.unusedVariables false
set_option maxHeartbeats 4000000
namespace Go.Proofs.YtndajeiecdmhnaaGreat
open Go.RowKit (Below)
attribute [local irreducible] OX QX CX EX OpY Calls CallsIn

/-! calx/fire.CheckEnds -/
set_option maxRecDepth 100000 in
theorem fire_CheckEnds_ok (p0_f : TFire) (p1_at : TSpot) (p2_b : TBounds) (res : Int) (h : fire_CheckEnds p0_f p1_at p2_b = some res) (W : World) (A0_4 : Option Addr) (n0_4 c0_4 : Nat) (hn0_4 : n0_4 = p0_f.fLooks.length) (hr0_4 : Rd W A0_4 n0_4 c0_4 (encL TLook_cells p0_f.fLooks)) :
    Calls Tryz.prog 12 [.agg #[.int .i64 p0_f.fRise, .int .i64 p0_f.fFall, .int .i64 p0_f.fUp, .int .i64 p0_f.fDown, .slice A0_4 n0_4 c0_4], .agg #[.int .i64 p1_at.fFoot, .int .i64 p1_at.fHour], .agg #[.int .i64 p2_b.fSpan.fLo, .int .i64 p2_b.fSpan.fHi, .int .i64 p2_b.fLow, .int .i64 p2_b.fHigh]].toArray W fun e W2 => e = .returned (.int .i64 res) ∧ Ext W W2 [] := by
  subst hn0_4
  unfold fire_CheckEnds at h
  refine calls_enter (m := 52) Tryz.func12 rfl rfl (Nat.le_of_ble_eq_true rfl) ?_
  refine cx_seq ?_
  refine cx_region ?_
  refine ox_box [.int .i64 p0_f.fRise, .int .i64 p0_f.fFall, .int .i64 p0_f.fUp, .int .i64 p0_f.fDown, .slice A0_4 p0_f.fLooks.length c0_4] rfl rfl rfl (fun b1 => ?_)
  refine ox_box [.int .i64 p1_at.fFoot, .int .i64 p1_at.fHour] rfl rfl rfl (fun b2 => ?_)
  refine ox_box [.int .i64 p2_b.fSpan.fLo, .int .i64 p2_b.fSpan.fHi, .int .i64 p2_b.fLow, .int .i64 p2_b.fHigh] rfl rfl rfl (fun b3 => ?_)
  refine ox_y rfl (y_assign_int rfl) ?_
  refine ox_nil ?_
  refine ex_then ?_
  refine cx_seq ?_
  refine cx_seq ?_
  obtain ⟨y6, hy7, h⟩ := bind_some h
  obtain ⟨y8, hy9, h⟩ := bind_some h
  refine cx_drawsG [[], [], [], [2], [1, 2, 3], [0, 1, 2, 3, 4], [0, 1, 2, 3, 4, 5]] [(none, 0, [true, true, true]), (none, 0, [true, true, true]), (none, 0, [true, true, true]), (none, 1, [true, true, true]), (none, 0, [true, true, true, true]), (none, 0, [true, true, true, true]), (none, 0, [true, true, true, true])] [⟨fun _ => .agg #[.int .i64 p0_f.fRise, .int .i64 p0_f.fFall, .int .i64 p0_f.fUp, .int .i64 p0_f.fDown, .slice A0_4 p0_f.fLooks.length c0_4], fun _ => noR, fun _ => []⟩, ⟨fun _ => .agg #[.int .i64 p0_f.fRise, .int .i64 p0_f.fFall, .int .i64 p0_f.fUp, .int .i64 p0_f.fDown, .slice A0_4 p0_f.fLooks.length c0_4], fun _ => noR, fun _ => []⟩, ⟨fun _ => .agg #[.int .i64 p1_at.fFoot, .int .i64 p1_at.fHour], fun _ => noR, fun _ => []⟩, ⟨fun ξ4 => .slice (some ⟨(ξ4 3 0).2.1, 0, none⟩) 1 1, fun _ => noR, fun ξ4 => [rowR (some ⟨(ξ4 3 0).2.1, 0, none⟩) 1 26 2 1 (encL TSpot_cells [p1_at])]⟩, ⟨fun _ => .int .i64 y6, fun _ => noR, fun _ => []⟩, ⟨fun _ => .int .i64 y8, fun _ => noR, fun _ => []⟩, ⟨fun _ => .int .i64 y8, fun _ => noR, fun _ => []⟩] 3 mixed (by kernel_rfl) (by kernel_rfl) ⟨⟨fun ξ4 ξ4' h => ⟨rfl, rfl, rfl⟩, fun _ => rfl⟩, ⟨fun ξ4 ξ4' h => ⟨rfl, rfl, rfl⟩, fun _ => rfl⟩, ⟨fun ξ4 ξ4' h => ⟨rfl, rfl, rfl⟩, fun _ => rfl⟩, ⟨fun ξ4 ξ4' h => ⟨by simp only [h 3 (.inl rfl)], rfl, by simp only [h 3 (.inl rfl)]⟩, fun _ => rfl⟩, ⟨fun ξ4 ξ4' h => ⟨rfl, rfl, rfl⟩, fun _ => rfl⟩, ⟨fun ξ4 ξ4' h => ⟨rfl, rfl, rfl⟩, fun _ => rfl⟩, ⟨fun ξ4 ξ4' h => ⟨rfl, rfl, rfl⟩, fun _ => rfl⟩, trivial⟩ rfl (fun ξ4 => ?_)
  refine gx_o rfl (fun L2 => ?_) ?_
  · dsimp only [maskL, List.cons_append, List.nil_append]
    refine ox_y rfl (y_loadN 0 [.int .i64 p0_f.fRise, .int .i64 p0_f.fFall, .int .i64 p0_f.fUp, .int .i64 p0_f.fDown, .slice A0_4 p0_f.fLooks.length c0_4] ag_24 rfl rfl rfl) ?_
    refine ox_nil ?_
    exact ex_capG (fun _ => (none, 0, 0)) rfl (List.append_nil _)
  dsimp only [aftL, List.set_cons_zero, List.set_cons_succ, List.nil_append, List.cons_append, List.append_nil]
  refine gx_o rfl (fun L2 => ?_) ?_
  · dsimp only [maskL, List.cons_append, List.nil_append]
    refine ox_y rfl (y_loadN 0 [.int .i64 p0_f.fRise, .int .i64 p0_f.fFall, .int .i64 p0_f.fUp, .int .i64 p0_f.fDown, .slice A0_4 p0_f.fLooks.length c0_4] ag_24 rfl rfl rfl) ?_
    refine ox_nil ?_
    exact ex_capG (fun _ => (none, 0, 0)) rfl (List.append_nil _)
  dsimp only [aftL, List.set_cons_zero, List.set_cons_succ, List.nil_append, List.cons_append, List.append_nil]
  refine gx_o rfl (fun L2 => ?_) ?_
  · dsimp only [maskL, List.cons_append, List.nil_append]
    refine ox_y rfl (y_loadN 1 [.int .i64 p1_at.fFoot, .int .i64 p1_at.fHour] ag_26 rfl rfl rfl) ?_
    refine ox_nil ?_
    exact ex_capG (fun _ => (none, 0, 0)) rfl (List.append_nil _)
  dsimp only [aftL, List.set_cons_zero, List.set_cons_succ, List.nil_append, List.cons_append, List.append_nil]
  refine gx_o rfl (fun L2 => ?_) ?_
  · dsimp only [maskL, List.cons_append, List.nil_append]
    refine ox_buildSliceE 1 (encL TSpot_cells [p1_at]) _ mc_26_1 us_50 ze_26 by_26 (by decide) (by decide) (by kernel_rfl) (encL_len TSpot_cells_len rfl) rfl (fun b5 => ?_)
    refine ox_nil ?_
    exact ex_capG (fun _ => (none, b5, 0)) rfl rfl
  dsimp only [aftL, List.set_cons_zero, List.set_cons_succ, List.nil_append, List.cons_append, List.append_nil]
  refine gx_o rfl (fun L2 => ?_) ?_
  · dsimp only [maskL, List.cons_append, List.nil_append]
    refine ox_y rfl (y_call [.agg #[.int .i64 p0_f.fRise, .int .i64 p0_f.fFall, .int .i64 p0_f.fUp, .int .i64 p0_f.fDown, .slice A0_4 p0_f.fLooks.length c0_4], .slice (some ⟨(ξ4 3 0).2.1, 0, none⟩) 1 1] go_38 rfl (fun W2 hW2 => fire_spots_ok p0_f [p1_at] y6 hy7 W2 A0_4 p0_f.fLooks.length c0_4 rfl ((RdL.arg hr0_4) W2 hW2) (some ⟨(ξ4 3 0).2.1, 0, none⟩) 1 1 rfl ((RdL.row 3 rfl) W2 hW2)) rfl) ?_
    refine ox_nil ?_
    exact ex_capG (fun _ => (none, 0, 0)) rfl (List.append_nil _)
  dsimp only [aftL, List.set_cons_zero, List.set_cons_succ, List.nil_append, List.cons_append, List.append_nil]
  refine gx_o rfl (fun L2 => ?_) ?_
  · dsimp only [maskL, List.cons_append, List.nil_append]
    refine ox_y rfl (y_call [.agg #[.int .i64 p0_f.fRise, .int .i64 p0_f.fFall, .int .i64 p0_f.fUp, .int .i64 p0_f.fDown, .slice A0_4 p0_f.fLooks.length c0_4], .int .i64 y6] go_37 rfl (fun W2 hW2 => fire_agreed_ok p0_f y6 y8 hy9 W2 A0_4 p0_f.fLooks.length c0_4 rfl ((RdL.arg hr0_4) W2 hW2)) rfl) ?_
    refine ox_nil ?_
    exact ex_capG (fun _ => (none, 0, 0)) rfl (List.append_nil _)
  dsimp only [aftL, List.set_cons_zero, List.set_cons_succ, List.nil_append, List.cons_append, List.append_nil]
  refine gx_o rfl (fun L2 => ?_) ?_
  · dsimp only [maskL, List.cons_append, List.nil_append]
    refine ox_y rfl (y_assign_int rfl) ?_
    refine ox_nil ?_
    exact ex_capG (fun _ => (none, 0, 0)) rfl (List.append_nil _)
  dsimp only [aftL, List.set_cons_zero, List.set_cons_succ, List.nil_append, List.cons_append, List.append_nil]
  refine gx_nil ?_
  refine ex_then ?_
  refine cx_seq ?_
  refine cx_region ?_
  refine ox_y rfl (y_move_int rfl) ?_
  refine ox_y rfl (y_neq rfl rfl) ?_
  refine ox_nil ?_
  refine ex_then ?_
  rcases ite_some h with ⟨hp10, h⟩ | ⟨hp10, h⟩
  · refine cx_true (congrArg Value.bool hp10) ?_
    refine cx_seq ?_
    refine cx_region ?_
    refine ox_y rfl (y_move_int rfl) ?_
    refine ox_y rfl (y_assign_int rfl) ?_
    refine ox_nil ?_
    refine ex_then ?_
    refine cx_ret ?_
    refine ex_then_ret ?_
    obtain rfl := Option.some.inj h
    exact ex_res1 (.inl rfl) rfl (resV_tmp (v := .int .i64 y8) rfl) (fun W2 hW2 => ⟨rfl, hW2.none⟩)
  · refine cx_false (congrArg Value.bool hp10) ?_
    refine cx_skip ?_
    refine ex_then ?_
    refine cx_seq ?_
    refine cx_region ?_
    refine ox_y rfl (y_makeFunc [.pointer (some ⟨b1, 0, none⟩)] rfl rfl) ?_
    refine ox_y rfl (y_assign_func rfl) ?_
    refine ox_nil ?_
    refine ex_then ?_
    refine cx_seq ?_
    refine cx_seq ?_
    obtain ⟨y12, hy13, h⟩ := bind_some h
    rcases ite_some h with ⟨hq10_8, h⟩ | ⟨hq10_8, h⟩
    · refine cx_drawsG [[], [], [0, 1], [0, 1, 2], [], [4], [0, 1, 2, 3, 4, 5], [0, 1, 2, 3, 4, 5, 6], [0, 1, 2, 3, 4, 5, 6, 7], [0, 1, 2, 3, 4, 5, 6, 7], [0, 1, 2, 3, 4, 5, 6, 7, 9], [0, 1, 2, 3, 4, 5, 6, 7], [0, 1, 2, 3, 4, 5, 6, 7, 11], [0, 1, 2, 3, 4, 5, 6, 7, 11, 12], [0, 1, 2, 3, 4, 5, 6, 7], [0, 1, 2, 3, 4, 5, 6, 7], [0, 1, 2, 3, 4, 5, 6, 7, 14, 15], [0, 1, 2, 3, 4, 5, 6, 7, 8, 9, 10, 11, 12, 13, 14, 15, 16], [0, 1, 2, 3, 4, 5, 6, 7, 8, 9, 10, 11, 12, 13, 14, 15, 16, 17], [0, 1, 2, 3, 4, 5, 6, 7, 8, 9, 10, 11, 12, 13, 14, 15, 16, 17, 18], [0, 1, 2, 3, 4, 5, 6, 7, 8, 9, 10, 11, 12, 13, 14, 15, 16, 17, 18, 19], [0, 1, 2, 3, 4, 5, 6, 7, 8, 9, 10, 11, 12, 13, 14, 15, 16, 17, 18, 19, 20], [0, 1, 2, 3, 4, 5, 6, 7, 8, 9, 10, 11, 12, 13, 14, 15, 16, 17, 18, 19, 20], [0, 1, 2, 3, 4, 5, 6, 7, 8, 9, 10, 11, 12, 13, 14, 15, 16, 17, 18, 19, 20, 22], [0, 1, 2, 3, 4, 5, 6, 7, 8, 9, 10, 11, 12, 13, 14, 15, 16, 17, 18, 19, 20], [0, 1, 2, 3, 4, 5, 6, 7, 8, 9, 10, 11, 12, 13, 14, 15, 16, 17, 18, 19, 20, 24], [0, 1, 2, 3, 4, 5, 6, 7, 8, 9, 10, 11, 12, 13, 14, 15, 16, 17, 18, 19, 20, 24, 25], [0, 1, 2, 3, 4, 5, 6, 7, 8, 9, 10, 11, 12, 13, 14, 15, 16, 17, 18, 19, 20], [0, 1, 2, 3, 4, 5, 6, 7, 8, 9, 10, 11, 12, 13, 14, 15, 16, 17, 18, 19, 20], [0, 1, 2, 3, 4, 5, 6, 7, 8, 9, 10, 11, 12, 13, 14, 15, 16, 17, 18, 19, 20, 27, 28], [0, 1, 2, 3, 4, 5, 6, 7, 8, 9, 10, 11, 12, 13, 14, 15, 16, 17, 18, 19, 20, 21, 22, 23, 24, 25, 26, 27, 28, 29], [0, 1, 2, 3, 4, 5, 6, 7, 8, 9, 10, 11, 12, 13, 14, 15, 16, 17, 18, 19, 20, 21, 22, 23, 24, 25, 26, 27, 28, 29, 30], [0, 1, 2, 3, 4, 5, 6, 7, 8, 9, 10, 11, 12, 13, 14, 15, 16, 17, 18, 19, 20, 21, 22, 23, 24, 25, 26, 27, 28, 29, 30, 31]] [(none, 0, [true, true, true, true]), (none, 0, [true, true, true, true]), (none, 0, [true, true, true, true]), (none, 0, [true, true, true, true]), (none, 0, [true, true, true, true]), (none, 0, [true, true, true, true]), (none, 0, [true, true, true, true]), (none, 0, [true, true, true, true]), (none, 0, [true, true, true, true]), (none, 0, [true, true, true, true]), (none, 0, [true, true, true, true]), (none, 0, [true, true, true, true]), (none, 0, [true, true, true, true]), (none, 0, [true, true, true, true]), (none, 0, [true, true, true, true]), (none, 0, [true, true, true, true]), (none, 0, [true, true, true, true]), (none, 0, [true, true, true, true]), (none, 0, [true, true, true, true]), (none, 0, [true, true, true, true]), (none, 0, [true, true, true, true]), (none, 0, [true, true, true, true]), (none, 0, [true, true, true, true]), (none, 0, [true, true, true, true]), (none, 0, [true, true, true, true]), (none, 0, [true, true, true, true]), (none, 0, [true, true, true, true]), (none, 0, [true, true, true, true]), (none, 0, [true, true, true, true]), (none, 0, [true, true, true, true]), (none, 0, [true, true, true, true]), (none, 0, [true, true, true, true]), (none, 0, [true, true, true, true])] [⟨fun _ => .agg #[.int .i64 p0_f.fRise, .int .i64 p0_f.fFall, .int .i64 p0_f.fUp, .int .i64 p0_f.fDown, .slice A0_4 p0_f.fLooks.length c0_4], fun _ => noR, fun _ => []⟩, ⟨fun _ => .agg #[.int .i64 p1_at.fFoot, .int .i64 p1_at.fHour], fun _ => noR, fun _ => []⟩, ⟨fun _ => .agg #[.int .i64 y12.fSpan.fLo, .int .i64 y12.fSpan.fHi, .int .i64 y12.fLow, .int .i64 y12.fHigh], fun _ => noR, fun _ => []⟩, ⟨fun _ => .agg #[.int .i64 y12.fSpan.fLo, .int .i64 y12.fSpan.fHi], fun _ => noR, fun _ => []⟩, ⟨fun _ => .pointer (some ⟨b3, 0 + 0, none⟩), fun _ => noR, fun _ => []⟩, ⟨fun _ => .agg #[.int .i64 p2_b.fSpan.fLo, .int .i64 p2_b.fSpan.fHi], fun _ => noR, fun _ => []⟩, ⟨fun _ => .bool (!((y12.fSpan.fLo == p2_b.fSpan.fLo) && (y12.fSpan.fHi == p2_b.fSpan.fHi))), fun _ => noR, fun _ => []⟩, ⟨fun _ => .bool (!((y12.fSpan.fLo == p2_b.fSpan.fLo) && (y12.fSpan.fHi == p2_b.fSpan.fHi))), fun _ => noR, fun _ => []⟩, ⟨fun _ => undef, fun _ => noR, fun _ => []⟩, ⟨fun _ => undef, fun _ => noR, fun _ => []⟩, ⟨fun _ => undef, fun _ => noR, fun _ => []⟩, ⟨fun _ => undef, fun _ => noR, fun _ => []⟩, ⟨fun _ => undef, fun _ => noR, fun _ => []⟩, ⟨fun _ => undef, fun _ => noR, fun _ => []⟩, ⟨fun _ => undef, fun _ => noR, fun _ => []⟩, ⟨fun _ => undef, fun _ => noR, fun _ => []⟩, ⟨fun _ => undef, fun _ => noR, fun _ => []⟩, ⟨fun _ => undef, fun _ => noR, fun _ => []⟩, ⟨fun _ => undef, fun _ => noR, fun _ => []⟩, ⟨fun _ => .bool true, fun _ => noR, fun _ => []⟩, ⟨fun _ => .bool true, fun _ => noR, fun _ => []⟩, ⟨fun _ => undef, fun _ => noR, fun _ => []⟩, ⟨fun _ => undef, fun _ => noR, fun _ => []⟩, ⟨fun _ => undef, fun _ => noR, fun _ => []⟩, ⟨fun _ => undef, fun _ => noR, fun _ => []⟩, ⟨fun _ => undef, fun _ => noR, fun _ => []⟩, ⟨fun _ => undef, fun _ => noR, fun _ => []⟩, ⟨fun _ => undef, fun _ => noR, fun _ => []⟩, ⟨fun _ => undef, fun _ => noR, fun _ => []⟩, ⟨fun _ => undef, fun _ => noR, fun _ => []⟩, ⟨fun _ => undef, fun _ => noR, fun _ => []⟩, ⟨fun _ => undef, fun _ => noR, fun _ => []⟩, ⟨fun _ => .bool true, fun _ => noR, fun _ => []⟩] 4 mixed (by kernel_rfl) (by kernel_rfl) ⟨⟨fun ξ11 ξ11' h => ⟨rfl, rfl, rfl⟩, fun _ => rfl⟩, ⟨fun ξ11 ξ11' h => ⟨rfl, rfl, rfl⟩, fun _ => rfl⟩, ⟨fun ξ11 ξ11' h => ⟨rfl, rfl, rfl⟩, fun _ => rfl⟩, ⟨fun ξ11 ξ11' h => ⟨rfl, rfl, rfl⟩, fun _ => rfl⟩, ⟨fun ξ11 ξ11' h => ⟨rfl, rfl, rfl⟩, fun _ => rfl⟩, ⟨fun ξ11 ξ11' h => ⟨rfl, rfl, rfl⟩, fun _ => rfl⟩, ⟨fun ξ11 ξ11' h => ⟨rfl, rfl, rfl⟩, fun _ => rfl⟩, ⟨fun ξ11 ξ11' h => ⟨rfl, rfl, rfl⟩, fun _ => rfl⟩, ⟨fun ξ11 ξ11' h => ⟨rfl, rfl, rfl⟩, fun _ => rfl⟩, ⟨fun ξ11 ξ11' h => ⟨rfl, rfl, rfl⟩, fun _ => rfl⟩, ⟨fun ξ11 ξ11' h => ⟨rfl, rfl, rfl⟩, fun _ => rfl⟩, ⟨fun ξ11 ξ11' h => ⟨rfl, rfl, rfl⟩, fun _ => rfl⟩, ⟨fun ξ11 ξ11' h => ⟨rfl, rfl, rfl⟩, fun _ => rfl⟩, ⟨fun ξ11 ξ11' h => ⟨rfl, rfl, rfl⟩, fun _ => rfl⟩, ⟨fun ξ11 ξ11' h => ⟨rfl, rfl, rfl⟩, fun _ => rfl⟩, ⟨fun ξ11 ξ11' h => ⟨rfl, rfl, rfl⟩, fun _ => rfl⟩, ⟨fun ξ11 ξ11' h => ⟨rfl, rfl, rfl⟩, fun _ => rfl⟩, ⟨fun ξ11 ξ11' h => ⟨rfl, rfl, rfl⟩, fun _ => rfl⟩, ⟨fun ξ11 ξ11' h => ⟨rfl, rfl, rfl⟩, fun _ => rfl⟩, ⟨fun ξ11 ξ11' h => ⟨rfl, rfl, rfl⟩, fun _ => rfl⟩, ⟨fun ξ11 ξ11' h => ⟨rfl, rfl, rfl⟩, fun _ => rfl⟩, ⟨fun ξ11 ξ11' h => ⟨rfl, rfl, rfl⟩, fun _ => rfl⟩, ⟨fun ξ11 ξ11' h => ⟨rfl, rfl, rfl⟩, fun _ => rfl⟩, ⟨fun ξ11 ξ11' h => ⟨rfl, rfl, rfl⟩, fun _ => rfl⟩, ⟨fun ξ11 ξ11' h => ⟨rfl, rfl, rfl⟩, fun _ => rfl⟩, ⟨fun ξ11 ξ11' h => ⟨rfl, rfl, rfl⟩, fun _ => rfl⟩, ⟨fun ξ11 ξ11' h => ⟨rfl, rfl, rfl⟩, fun _ => rfl⟩, ⟨fun ξ11 ξ11' h => ⟨rfl, rfl, rfl⟩, fun _ => rfl⟩, ⟨fun ξ11 ξ11' h => ⟨rfl, rfl, rfl⟩, fun _ => rfl⟩, ⟨fun ξ11 ξ11' h => ⟨rfl, rfl, rfl⟩, fun _ => rfl⟩, ⟨fun ξ11 ξ11' h => ⟨rfl, rfl, rfl⟩, fun _ => rfl⟩, ⟨fun ξ11 ξ11' h => ⟨rfl, rfl, rfl⟩, fun _ => rfl⟩, ⟨fun ξ11 ξ11' h => ⟨rfl, rfl, rfl⟩, fun _ => rfl⟩, trivial⟩ rfl (fun ξ11 => ?_)
      refine gx_o rfl (fun L2 => ?_) ?_
      · dsimp only [maskL, List.cons_append, List.nil_append]
        refine ox_y rfl (y_loadN 0 [.int .i64 p0_f.fRise, .int .i64 p0_f.fFall, .int .i64 p0_f.fUp, .int .i64 p0_f.fDown, .slice A0_4 p0_f.fLooks.length c0_4] ag_24 rfl rfl rfl) ?_
        refine ox_nil ?_
        exact ex_capG (fun _ => (none, 0, 0)) rfl (List.append_nil _)
      dsimp only [aftL, List.set_cons_zero, List.set_cons_succ, List.nil_append, List.cons_append, List.append_nil]
      refine gx_o rfl (fun L2 => ?_) ?_
      · dsimp only [maskL, List.cons_append, List.nil_append]
        refine ox_y rfl (y_loadN 1 [.int .i64 p1_at.fFoot, .int .i64 p1_at.fHour] ag_26 rfl rfl rfl) ?_
        refine ox_nil ?_
        exact ex_capG (fun _ => (none, 0, 0)) rfl (List.append_nil _)
      dsimp only [aftL, List.set_cons_zero, List.set_cons_succ, List.nil_append, List.cons_append, List.append_nil]
      refine gx_o rfl (fun L2 => ?_) ?_
      · dsimp only [maskL, List.cons_append, List.nil_append]
        refine ox_y rfl (y_call [.agg #[.int .i64 p0_f.fRise, .int .i64 p0_f.fFall, .int .i64 p0_f.fUp, .int .i64 p0_f.fDown, .slice A0_4 p0_f.fLooks.length c0_4], .agg #[.int .i64 p1_at.fFoot, .int .i64 p1_at.fHour]] go_39 rfl (fun W2 hW2 => fire_ends_ok p0_f p1_at y12 hy13 W2 A0_4 p0_f.fLooks.length c0_4 rfl ((RdL.arg hr0_4) W2 hW2)) rfl) ?_
        refine ox_nil ?_
        exact ex_capG (fun _ => (none, 0, 0)) rfl (List.append_nil _)
      dsimp only [aftL, List.set_cons_zero, List.set_cons_succ, List.nil_append, List.cons_append, List.append_nil]
      refine gx_o rfl (fun L2 => ?_) ?_
      · dsimp only [maskL, List.cons_append, List.nil_append]
        refine ox_y rfl (y_fieldN [.int .i64 y12.fSpan.fLo, .int .i64 y12.fSpan.fHi, .int .i64 y12.fLow, .int .i64 y12.fHigh] [.int .i64 y12.fSpan.fLo, .int .i64 y12.fSpan.fHi] fd_30_0 ag_28 rfl rfl) ?_
        refine ox_nil ?_
        exact ex_capG (fun _ => (none, 0, 0)) rfl (List.append_nil _)
      dsimp only [aftL, List.set_cons_zero, List.set_cons_succ, List.nil_append, List.cons_append, List.append_nil]
      refine gx_o rfl (fun L2 => ?_) ?_
      · dsimp only [maskL, List.cons_append, List.nil_append]
        refine ox_y rfl (y_fieldAddr fo_30_0 rfl) ?_
        refine ox_nil ?_
        exact ex_capG (fun _ => (none, 0, 0)) rfl (List.append_nil _)
      dsimp only [aftL, List.set_cons_zero, List.set_cons_succ, List.nil_append, List.cons_append, List.append_nil]
      refine gx_o rfl (fun L2 => ?_) ?_
      · dsimp only [maskL, List.cons_append, List.nil_append]
        refine ox_y rfl (y_loadN 2 [.int .i64 p2_b.fSpan.fLo, .int .i64 p2_b.fSpan.fHi] ag_28 rfl rfl rfl) ?_
        refine ox_nil ?_
        exact ex_capG (fun _ => (none, 0, 0)) rfl (List.append_nil _)
      dsimp only [aftL, List.set_cons_zero, List.set_cons_succ, List.nil_append, List.cons_append, List.append_nil]
      refine gx_o rfl (fun L2 => ?_) ?_
      · dsimp only [maskL, List.cons_append, List.nil_append]
        refine ox_y rfl (y_neqa (b := ((y12.fSpan.fLo == p2_b.fSpan.fLo) && (y12.fSpan.fHi == p2_b.fSpan.fHi))) eg_28 rfl rfl (fun _ => (eqS2 fl_28 (part1 sc_3 rfl) (part1 sc_3 rfl) (part1 sc_3 rfl) (part1 sc_3 rfl) (run_equalIn_int _ _ _ _ _ _ _ ui_3) (run_equalIn_int _ _ _ _ _ _ _ ui_3)))) ?_
        refine ox_nil ?_
        exact ex_capG (fun _ => (none, 0, 0)) rfl (List.append_nil _)
      dsimp only [aftL, List.set_cons_zero, List.set_cons_succ, List.nil_append, List.cons_append, List.append_nil]
      refine gx_o rfl (fun L2 => ?_) ?_
      · dsimp only [maskL, List.cons_append, List.nil_append]
        refine ox_y rfl (y_move_bool rfl) ?_
        refine ox_nil ?_
        exact ex_capG (fun _ => (none, 0, 0)) rfl (List.append_nil _)
      dsimp only [aftL, List.set_cons_zero, List.set_cons_succ, List.nil_append, List.cons_append, List.append_nil]
      refine gx_skip (sees_f rfl rfl rfl rfl hq10_8) ?_
      dsimp only [aftL, List.set_cons_zero, List.set_cons_succ, List.nil_append, List.cons_append, List.append_nil]
      refine gx_skip (sees_f rfl rfl rfl rfl hq10_8) ?_
      dsimp only [aftL, List.set_cons_zero, List.set_cons_succ, List.nil_append, List.cons_append, List.append_nil]
      refine gx_skip (sees_f rfl rfl rfl rfl hq10_8) ?_
      dsimp only [aftL, List.set_cons_zero, List.set_cons_succ, List.nil_append, List.cons_append, List.append_nil]
      refine gx_skip (sees_f rfl rfl rfl rfl hq10_8) ?_
      dsimp only [aftL, List.set_cons_zero, List.set_cons_succ, List.nil_append, List.cons_append, List.append_nil]
      refine gx_skip (sees_f rfl rfl rfl rfl hq10_8) ?_
      dsimp only [aftL, List.set_cons_zero, List.set_cons_succ, List.nil_append, List.cons_append, List.append_nil]
      refine gx_skip (sees_f rfl rfl rfl rfl hq10_8) ?_
      dsimp only [aftL, List.set_cons_zero, List.set_cons_succ, List.nil_append, List.cons_append, List.append_nil]
      refine gx_skip (sees_f rfl rfl rfl rfl hq10_8) ?_
      dsimp only [aftL, List.set_cons_zero, List.set_cons_succ, List.nil_append, List.cons_append, List.append_nil]
      refine gx_skip (sees_f rfl rfl rfl rfl hq10_8) ?_
      dsimp only [aftL, List.set_cons_zero, List.set_cons_succ, List.nil_append, List.cons_append, List.append_nil]
      refine gx_skip (sees_f rfl rfl rfl rfl hq10_8) ?_
      dsimp only [aftL, List.set_cons_zero, List.set_cons_succ, List.nil_append, List.cons_append, List.append_nil]
      refine gx_skip (sees_f rfl rfl rfl rfl hq10_8) ?_
      dsimp only [aftL, List.set_cons_zero, List.set_cons_succ, List.nil_append, List.cons_append, List.append_nil]
      refine gx_skip (sees_f rfl rfl rfl rfl hq10_8) ?_
      dsimp only [aftL, List.set_cons_zero, List.set_cons_succ, List.nil_append, List.cons_append, List.append_nil]
      refine gx_o rfl (fun L2 => ?_) ?_
      · dsimp only [maskL, List.cons_append, List.nil_append]
        refine ox_y rfl (y_pick_tb (congrArg Value.bool hq10_8) rfl) ?_
        refine ox_nil ?_
        exact ex_capG (fun _ => (none, 0, 0)) rfl (List.append_nil _)
      dsimp only [aftL, List.set_cons_zero, List.set_cons_succ, List.nil_append, List.cons_append, List.append_nil]
      refine gx_o rfl (fun L2 => ?_) ?_
      · dsimp only [maskL, List.cons_append, List.nil_append]
        refine ox_y rfl (y_move_bool rfl) ?_
        refine ox_nil ?_
        exact ex_capG (fun _ => (none, 0, 0)) rfl (List.append_nil _)
      dsimp only [aftL, List.set_cons_zero, List.set_cons_succ, List.nil_append, List.cons_append, List.append_nil]
      refine gx_skip rfl ?_
      dsimp only [aftL, List.set_cons_zero, List.set_cons_succ, List.nil_append, List.cons_append, List.append_nil]
      refine gx_skip rfl ?_
      dsimp only [aftL, List.set_cons_zero, List.set_cons_succ, List.nil_append, List.cons_append, List.append_nil]
      refine gx_skip rfl ?_
      dsimp only [aftL, List.set_cons_zero, List.set_cons_succ, List.nil_append, List.cons_append, List.append_nil]
      refine gx_skip rfl ?_
      dsimp only [aftL, List.set_cons_zero, List.set_cons_succ, List.nil_append, List.cons_append, List.append_nil]
      refine gx_skip rfl ?_
      dsimp only [aftL, List.set_cons_zero, List.set_cons_succ, List.nil_append, List.cons_append, List.append_nil]
      refine gx_skip rfl ?_
      dsimp only [aftL, List.set_cons_zero, List.set_cons_succ, List.nil_append, List.cons_append, List.append_nil]
      refine gx_skip rfl ?_
      dsimp only [aftL, List.set_cons_zero, List.set_cons_succ, List.nil_append, List.cons_append, List.append_nil]
      refine gx_skip rfl ?_
      dsimp only [aftL, List.set_cons_zero, List.set_cons_succ, List.nil_append, List.cons_append, List.append_nil]
      refine gx_skip rfl ?_
      dsimp only [aftL, List.set_cons_zero, List.set_cons_succ, List.nil_append, List.cons_append, List.append_nil]
      refine gx_skip rfl ?_
      dsimp only [aftL, List.set_cons_zero, List.set_cons_succ, List.nil_append, List.cons_append, List.append_nil]
      refine gx_skip rfl ?_
      dsimp only [aftL, List.set_cons_zero, List.set_cons_succ, List.nil_append, List.cons_append, List.append_nil]
      refine gx_o rfl (fun L2 => ?_) ?_
      · dsimp only [maskL, List.cons_append, List.nil_append]
        refine ox_y rfl (y_pick_tb rfl rfl) ?_
        refine ox_nil ?_
        exact ex_capG (fun _ => (none, 0, 0)) rfl (List.append_nil _)
      dsimp only [aftL, List.set_cons_zero, List.set_cons_succ, List.nil_append, List.cons_append, List.append_nil]
      refine gx_nil ?_
      refine ex_then ?_
      refine cx_true rfl ?_
      refine cx_seq ?_
      refine cx_region ?_
      refine ox_y rfl (y_assign_int rfl) ?_
      refine ox_nil ?_
      refine ex_then ?_
      refine cx_ret ?_
      refine ex_then_ret ?_
      obtain rfl := Option.some.inj h
      exact ex_res1 (.inl rfl) rfl (resV_tmp (v := .int .i64 8) rfl) (fun W2 hW2 => ⟨rfl, hW2.none⟩)
    · obtain ⟨y14, hy15, h⟩ := bind_some h
      obtain ⟨y19, hy20, h⟩ := bind_some h
      rcases ite_some h with ⟨hq10_21, h⟩ | ⟨hq10_21, h⟩
      · refine cx_drawsG [[], [], [0, 1], [0, 1, 2], [], [4], [0, 1, 2, 3, 4, 5], [0, 1, 2, 3, 4, 5, 6], [0, 1, 2, 3, 4, 5, 6, 7], [0, 1, 2, 3, 4, 5, 6, 7], [0, 1, 2, 3, 4, 5, 6, 7, 9], [0, 1, 2, 3, 4, 5, 6, 7], [0, 1, 2, 3, 4, 5, 6, 7, 11], [0, 1, 2, 3, 4, 5, 6, 7, 11, 12], [0, 1, 2, 3, 4, 5, 6, 7], [0, 1, 2, 3, 4, 5, 6, 7], [0, 1, 2, 3, 4, 5, 6, 7, 14, 15], [0, 1, 2, 3, 4, 5, 6, 7, 8, 9, 10, 11, 12, 13, 14, 15, 16], [0, 1, 2, 3, 4, 5, 6, 7, 8, 9, 10, 11, 12, 13, 14, 15, 16, 17], [0, 1, 2, 3, 4, 5, 6, 7, 8, 9, 10, 11, 12, 13, 14, 15, 16, 17, 18], [0, 1, 2, 3, 4, 5, 6, 7, 8, 9, 10, 11, 12, 13, 14, 15, 16, 17, 18, 19], [0, 1, 2, 3, 4, 5, 6, 7, 8, 9, 10, 11, 12, 13, 14, 15, 16, 17, 18, 19, 20], [0, 1, 2, 3, 4, 5, 6, 7, 8, 9, 10, 11, 12, 13, 14, 15, 16, 17, 18, 19, 20], [0, 1, 2, 3, 4, 5, 6, 7, 8, 9, 10, 11, 12, 13, 14, 15, 16, 17, 18, 19, 20, 22], [0, 1, 2, 3, 4, 5, 6, 7, 8, 9, 10, 11, 12, 13, 14, 15, 16, 17, 18, 19, 20], [0, 1, 2, 3, 4, 5, 6, 7, 8, 9, 10, 11, 12, 13, 14, 15, 16, 17, 18, 19, 20, 24], [0, 1, 2, 3, 4, 5, 6, 7, 8, 9, 10, 11, 12, 13, 14, 15, 16, 17, 18, 19, 20, 24, 25], [0, 1, 2, 3, 4, 5, 6, 7, 8, 9, 10, 11, 12, 13, 14, 15, 16, 17, 18, 19, 20], [0, 1, 2, 3, 4, 5, 6, 7, 8, 9, 10, 11, 12, 13, 14, 15, 16, 17, 18, 19, 20], [0, 1, 2, 3, 4, 5, 6, 7, 8, 9, 10, 11, 12, 13, 14, 15, 16, 17, 18, 19, 20, 27, 28], [0, 1, 2, 3, 4, 5, 6, 7, 8, 9, 10, 11, 12, 13, 14, 15, 16, 17, 18, 19, 20, 21, 22, 23, 24, 25, 26, 27, 28, 29], [0, 1, 2, 3, 4, 5, 6, 7, 8, 9, 10, 11, 12, 13, 14, 15, 16, 17, 18, 19, 20, 21, 22, 23, 24, 25, 26, 27, 28, 29, 30], [0, 1, 2, 3, 4, 5, 6, 7, 8, 9, 10, 11, 12, 13, 14, 15, 16, 17, 18, 19, 20, 21, 22, 23, 24, 25, 26, 27, 28, 29, 30, 31]] [(none, 0, [true, true, true, true]), (none, 0, [true, true, true, true]), (none, 0, [true, true, true, true]), (none, 0, [true, true, true, true]), (none, 0, [true, true, true, true]), (none, 0, [true, true, true, true]), (none, 0, [true, true, true, true]), (none, 0, [true, true, true, true]), (none, 0, [true, true, true, true]), (none, 0, [true, true, true, true]), (none, 0, [true, true, true, true]), (none, 0, [true, true, true, true]), (none, 0, [true, true, true, true]), (none, 0, [true, true, true, true]), (none, 0, [true, true, true, true]), (none, 0, [true, true, true, true]), (none, 2, [true, true, true, true]), (none, 0, [true, true, true, true, true, true]), (none, 0, [true, true, true, true, true, true]), (none, 0, [true, true, true, true, true, true]), (none, 0, [true, true, true, true, true, true]), (none, 0, [true, true, true, true, true, true]), (none, 0, [true, true, true, true, true, true]), (none, 0, [true, true, true, true, true, true]), (none, 0, [true, true, true, true, true, true]), (none, 0, [true, true, true, true, true, true]), (none, 0, [true, true, true, true, true, true]), (none, 0, [true, true, true, true, true, true]), (none, 0, [true, true, true, true, true, true]), (none, 0, [true, true, true, true, true, true]), (none, 0, [true, true, true, true, true, true]), (none, 0, [true, true, true, true, true, true]), (none, 0, [true, true, true, true, true, true])] [⟨fun _ => .agg #[.int .i64 p0_f.fRise, .int .i64 p0_f.fFall, .int .i64 p0_f.fUp, .int .i64 p0_f.fDown, .slice A0_4 p0_f.fLooks.length c0_4], fun _ => noR, fun _ => []⟩, ⟨fun _ => .agg #[.int .i64 p1_at.fFoot, .int .i64 p1_at.fHour], fun _ => noR, fun _ => []⟩, ⟨fun _ => .agg #[.int .i64 y12.fSpan.fLo, .int .i64 y12.fSpan.fHi, .int .i64 y12.fLow, .int .i64 y12.fHigh], fun _ => noR, fun _ => []⟩, ⟨fun _ => .agg #[.int .i64 y12.fSpan.fLo, .int .i64 y12.fSpan.fHi], fun _ => noR, fun _ => []⟩, ⟨fun _ => .pointer (some ⟨b3, 0 + 0, none⟩), fun _ => noR, fun _ => []⟩, ⟨fun _ => .agg #[.int .i64 p2_b.fSpan.fLo, .int .i64 p2_b.fSpan.fHi], fun _ => noR, fun _ => []⟩, ⟨fun _ => .bool (!((y12.fSpan.fLo == p2_b.fSpan.fLo) && (y12.fSpan.fHi == p2_b.fSpan.fHi))), fun _ => noR, fun _ => []⟩, ⟨fun _ => .bool (!((y12.fSpan.fLo == p2_b.fSpan.fLo) && (y12.fSpan.fHi == p2_b.fSpan.fHi))), fun _ => noR, fun _ => []⟩, ⟨fun _ => .func (.func 48) #[] #[.pointer (some ⟨b1, 0, none⟩)], fun _ => noR, fun _ => []⟩, ⟨fun _ => .pointer (some ⟨b3, 0 + 2, none⟩), fun _ => noR, fun _ => []⟩, ⟨fun _ => .int .i64 p2_b.fLow, fun _ => noR, fun _ => []⟩, ⟨fun _ => .pointer (some ⟨b3, 0 + 0, none⟩), fun _ => noR, fun _ => []⟩, ⟨fun _ => .pointer (some ⟨b3, 0 + 0 + 0, none⟩), fun _ => noR, fun _ => []⟩, ⟨fun _ => .int .i64 p2_b.fSpan.fLo, fun _ => noR, fun _ => []⟩, ⟨fun _ => .agg #[.int .i64 p0_f.fRise, .int .i64 p0_f.fFall, .int .i64 p0_f.fUp, .int .i64 p0_f.fDown, .slice A0_4 p0_f.fLooks.length c0_4], fun _ => noR, fun _ => []⟩, ⟨fun _ => .agg #[.int .i64 p1_at.fFoot, .int .i64 p1_at.fHour], fun _ => noR, fun _ => []⟩, ⟨fun ξ11 => .func (.func 93) #[] #[.pointer (some ⟨(ξ11 16 0).2.1, 0, none⟩), .pointer (some ⟨(ξ11 16 1).2.1, 0, none⟩)], fun _ => noR, fun ξ11 => [cellsR (ξ11 16 0).2.1 24 [.int .i64 p0_f.fRise, .int .i64 p0_f.fFall, .int .i64 p0_f.fUp, .int .i64 p0_f.fDown, .slice A0_4 p0_f.fLooks.length c0_4], cellsR (ξ11 16 1).2.1 26 [.int .i64 p1_at.fFoot, .int .i64 p1_at.fHour]]⟩, ⟨fun _ => .bool y19, fun _ => noR, fun _ => []⟩, ⟨fun _ => .bool (!y19), fun _ => noR, fun _ => []⟩, ⟨fun _ => .bool (!y19), fun _ => noR, fun _ => []⟩, ⟨fun _ => .bool (!y19), fun _ => noR, fun _ => []⟩, ⟨fun _ => undef, fun _ => noR, fun _ => []⟩, ⟨fun _ => undef, fun _ => noR, fun _ => []⟩, ⟨fun _ => undef, fun _ => noR, fun _ => []⟩, ⟨fun _ => undef, fun _ => noR, fun _ => []⟩, ⟨fun _ => undef, fun _ => noR, fun _ => []⟩, ⟨fun _ => undef, fun _ => noR, fun _ => []⟩, ⟨fun _ => undef, fun _ => noR, fun _ => []⟩, ⟨fun _ => undef, fun _ => noR, fun _ => []⟩, ⟨fun _ => undef, fun _ => noR, fun _ => []⟩, ⟨fun _ => undef, fun _ => noR, fun _ => []⟩, ⟨fun _ => undef, fun _ => noR, fun _ => []⟩, ⟨fun _ => .bool true, fun _ => noR, fun _ => []⟩] 4 mixed (by kernel_rfl) (by kernel_rfl) ⟨⟨fun ξ11 ξ11' h => ⟨rfl, rfl, rfl⟩, fun _ => rfl⟩, ⟨fun ξ11 ξ11' h => ⟨rfl, rfl, rfl⟩, fun _ => rfl⟩, ⟨fun ξ11 ξ11' h => ⟨rfl, rfl, rfl⟩, fun _ => rfl⟩, ⟨fun ξ11 ξ11' h => ⟨rfl, rfl, rfl⟩, fun _ => rfl⟩, ⟨fun ξ11 ξ11' h => ⟨rfl, rfl, rfl⟩, fun _ => rfl⟩, ⟨fun ξ11 ξ11' h => ⟨rfl, rfl, rfl⟩, fun _ => rfl⟩, ⟨fun ξ11 ξ11' h => ⟨rfl, rfl, rfl⟩, fun _ => rfl⟩, ⟨fun ξ11 ξ11' h => ⟨rfl, rfl, rfl⟩, fun _ => rfl⟩, ⟨fun ξ11 ξ11' h => ⟨rfl, rfl, rfl⟩, fun _ => rfl⟩, ⟨fun ξ11 ξ11' h => ⟨rfl, rfl, rfl⟩, fun _ => rfl⟩, ⟨fun ξ11 ξ11' h => ⟨rfl, rfl, rfl⟩, fun _ => rfl⟩, ⟨fun ξ11 ξ11' h => ⟨rfl, rfl, rfl⟩, fun _ => rfl⟩, ⟨fun ξ11 ξ11' h => ⟨rfl, rfl, rfl⟩, fun _ => rfl⟩, ⟨fun ξ11 ξ11' h => ⟨rfl, rfl, rfl⟩, fun _ => rfl⟩, ⟨fun ξ11 ξ11' h => ⟨rfl, rfl, rfl⟩, fun _ => rfl⟩, ⟨fun ξ11 ξ11' h => ⟨rfl, rfl, rfl⟩, fun _ => rfl⟩, ⟨fun ξ11 ξ11' h => ⟨by simp only [h 16 (.inl rfl)], rfl, by simp only [h 16 (.inl rfl)]⟩, fun _ => rfl⟩, ⟨fun ξ11 ξ11' h => ⟨rfl, rfl, rfl⟩, fun _ => rfl⟩, ⟨fun ξ11 ξ11' h => ⟨rfl, rfl, rfl⟩, fun _ => rfl⟩, ⟨fun ξ11 ξ11' h => ⟨rfl, rfl, rfl⟩, fun _ => rfl⟩, ⟨fun ξ11 ξ11' h => ⟨rfl, rfl, rfl⟩, fun _ => rfl⟩, ⟨fun ξ11 ξ11' h => ⟨rfl, rfl, rfl⟩, fun _ => rfl⟩, ⟨fun ξ11 ξ11' h => ⟨rfl, rfl, rfl⟩, fun _ => rfl⟩, ⟨fun ξ11 ξ11' h => ⟨rfl, rfl, rfl⟩, fun _ => rfl⟩, ⟨fun ξ11 ξ11' h => ⟨rfl, rfl, rfl⟩, fun _ => rfl⟩, ⟨fun ξ11 ξ11' h => ⟨rfl, rfl, rfl⟩, fun _ => rfl⟩, ⟨fun ξ11 ξ11' h => ⟨rfl, rfl, rfl⟩, fun _ => rfl⟩, ⟨fun ξ11 ξ11' h => ⟨rfl, rfl, rfl⟩, fun _ => rfl⟩, ⟨fun ξ11 ξ11' h => ⟨rfl, rfl, rfl⟩, fun _ => rfl⟩, ⟨fun ξ11 ξ11' h => ⟨rfl, rfl, rfl⟩, fun _ => rfl⟩, ⟨fun ξ11 ξ11' h => ⟨rfl, rfl, rfl⟩, fun _ => rfl⟩, ⟨fun ξ11 ξ11' h => ⟨rfl, rfl, rfl⟩, fun _ => rfl⟩, ⟨fun ξ11 ξ11' h => ⟨rfl, rfl, rfl⟩, fun _ => rfl⟩, trivial⟩ rfl (fun ξ11 => ?_)
        refine gx_o rfl (fun L2 => ?_) ?_
        · dsimp only [maskL, List.cons_append, List.nil_append]
          refine ox_y rfl (y_loadN 0 [.int .i64 p0_f.fRise, .int .i64 p0_f.fFall, .int .i64 p0_f.fUp, .int .i64 p0_f.fDown, .slice A0_4 p0_f.fLooks.length c0_4] ag_24 rfl rfl rfl) ?_
          refine ox_nil ?_
          exact ex_capG (fun _ => (none, 0, 0)) rfl (List.append_nil _)
        dsimp only [aftL, List.set_cons_zero, List.set_cons_succ, List.nil_append, List.cons_append, List.append_nil]
        refine gx_o rfl (fun L2 => ?_) ?_
        · dsimp only [maskL, List.cons_append, List.nil_append]
          refine ox_y rfl (y_loadN 1 [.int .i64 p1_at.fFoot, .int .i64 p1_at.fHour] ag_26 rfl rfl rfl) ?_
          refine ox_nil ?_
          exact ex_capG (fun _ => (none, 0, 0)) rfl (List.append_nil _)
        dsimp only [aftL, List.set_cons_zero, List.set_cons_succ, List.nil_append, List.cons_append, List.append_nil]
        refine gx_o rfl (fun L2 => ?_) ?_
        · dsimp only [maskL, List.cons_append, List.nil_append]
          refine ox_y rfl (y_call [.agg #[.int .i64 p0_f.fRise, .int .i64 p0_f.fFall, .int .i64 p0_f.fUp, .int .i64 p0_f.fDown, .slice A0_4 p0_f.fLooks.length c0_4], .agg #[.int .i64 p1_at.fFoot, .int .i64 p1_at.fHour]] go_39 rfl (fun W2 hW2 => fire_ends_ok p0_f p1_at y12 hy13 W2 A0_4 p0_f.fLooks.length c0_4 rfl ((RdL.arg hr0_4) W2 hW2)) rfl) ?_
          refine ox_nil ?_
          exact ex_capG (fun _ => (none, 0, 0)) rfl (List.append_nil _)
        dsimp only [aftL, List.set_cons_zero, List.set_cons_succ, List.nil_append, List.cons_append, List.append_nil]
        refine gx_o rfl (fun L2 => ?_) ?_
        · dsimp only [maskL, List.cons_append, List.nil_append]
          refine ox_y rfl (y_fieldN [.int .i64 y12.fSpan.fLo, .int .i64 y12.fSpan.fHi, .int .i64 y12.fLow, .int .i64 y12.fHigh] [.int .i64 y12.fSpan.fLo, .int .i64 y12.fSpan.fHi] fd_30_0 ag_28 rfl rfl) ?_
          refine ox_nil ?_
          exact ex_capG (fun _ => (none, 0, 0)) rfl (List.append_nil _)
        dsimp only [aftL, List.set_cons_zero, List.set_cons_succ, List.nil_append, List.cons_append, List.append_nil]
        refine gx_o rfl (fun L2 => ?_) ?_
        · dsimp only [maskL, List.cons_append, List.nil_append]
          refine ox_y rfl (y_fieldAddr fo_30_0 rfl) ?_
          refine ox_nil ?_
          exact ex_capG (fun _ => (none, 0, 0)) rfl (List.append_nil _)
        dsimp only [aftL, List.set_cons_zero, List.set_cons_succ, List.nil_append, List.cons_append, List.append_nil]
        refine gx_o rfl (fun L2 => ?_) ?_
        · dsimp only [maskL, List.cons_append, List.nil_append]
          refine ox_y rfl (y_loadN 2 [.int .i64 p2_b.fSpan.fLo, .int .i64 p2_b.fSpan.fHi] ag_28 rfl rfl rfl) ?_
          refine ox_nil ?_
          exact ex_capG (fun _ => (none, 0, 0)) rfl (List.append_nil _)
        dsimp only [aftL, List.set_cons_zero, List.set_cons_succ, List.nil_append, List.cons_append, List.append_nil]
        refine gx_o rfl (fun L2 => ?_) ?_
        · dsimp only [maskL, List.cons_append, List.nil_append]
          refine ox_y rfl (y_neqa (b := ((y12.fSpan.fLo == p2_b.fSpan.fLo) && (y12.fSpan.fHi == p2_b.fSpan.fHi))) eg_28 rfl rfl (fun _ => (eqS2 fl_28 (part1 sc_3 rfl) (part1 sc_3 rfl) (part1 sc_3 rfl) (part1 sc_3 rfl) (run_equalIn_int _ _ _ _ _ _ _ ui_3) (run_equalIn_int _ _ _ _ _ _ _ ui_3)))) ?_
          refine ox_nil ?_
          exact ex_capG (fun _ => (none, 0, 0)) rfl (List.append_nil _)
        dsimp only [aftL, List.set_cons_zero, List.set_cons_succ, List.nil_append, List.cons_append, List.append_nil]
        refine gx_o rfl (fun L2 => ?_) ?_
        · dsimp only [maskL, List.cons_append, List.nil_append]
          refine ox_y rfl (y_move_bool rfl) ?_
          refine ox_nil ?_
          exact ex_capG (fun _ => (none, 0, 0)) rfl (List.append_nil _)
        dsimp only [aftL, List.set_cons_zero, List.set_cons_succ, List.nil_append, List.cons_append, List.append_nil]
        refine gx_o (sees_t rfl rfl rfl rfl hq10_8) (fun L2 => ?_) ?_
        · dsimp only [maskL, List.cons_append, List.nil_append]
          refine ox_y (sees_t rfl rfl rfl rfl hq10_8) (y_move_func rfl) ?_
          refine ox_nil ?_
          exact ex_capG (fun _ => (none, 0, 0)) rfl (List.append_nil _)
        dsimp only [aftL, List.set_cons_zero, List.set_cons_succ, List.nil_append, List.cons_append, List.append_nil]
        refine gx_o (sees_t rfl rfl rfl rfl hq10_8) (fun L2 => ?_) ?_
        · dsimp only [maskL, List.cons_append, List.nil_append]
          refine ox_y (sees_t rfl rfl rfl rfl hq10_8) (y_fieldAddr fo_30_1 rfl) ?_
          refine ox_nil ?_
          exact ex_capG (fun _ => (none, 0, 0)) rfl (List.append_nil _)
        dsimp only [aftL, List.set_cons_zero, List.set_cons_succ, List.nil_append, List.cons_append, List.append_nil]
        refine gx_o (sees_t rfl rfl rfl rfl hq10_8) (fun L2 => ?_) ?_
        · dsimp only [maskL, List.cons_append, List.nil_append]
          refine ox_y (sees_t rfl rfl rfl rfl hq10_8) (y_load1 2 (v := .int .i64 p2_b.fLow) sc_3 rfl rfl rfl) ?_
          refine ox_nil ?_
          exact ex_capG (fun _ => (none, 0, 0)) rfl (List.append_nil _)
        dsimp only [aftL, List.set_cons_zero, List.set_cons_succ, List.nil_append, List.cons_append, List.append_nil]
        refine gx_o (sees_t rfl rfl rfl rfl hq10_8) (fun L2 => ?_) ?_
        · dsimp only [maskL, List.cons_append, List.nil_append]
          refine ox_y (sees_t rfl rfl rfl rfl hq10_8) (y_fieldAddr fo_30_0 rfl) ?_
          refine ox_nil ?_
          exact ex_capG (fun _ => (none, 0, 0)) rfl (List.append_nil _)
        dsimp only [aftL, List.set_cons_zero, List.set_cons_succ, List.nil_append, List.cons_append, List.append_nil]
        refine gx_o (sees_t rfl rfl rfl rfl hq10_8) (fun L2 => ?_) ?_
        · dsimp only [maskL, List.cons_append, List.nil_append]
          refine ox_y (sees_t rfl rfl rfl rfl hq10_8) (y_fieldAddr fo_28_0 rfl) ?_
          refine ox_nil ?_
          exact ex_capG (fun _ => (none, 0, 0)) rfl (List.append_nil _)
        dsimp only [aftL, List.set_cons_zero, List.set_cons_succ, List.nil_append, List.cons_append, List.append_nil]
        refine gx_o (sees_t rfl rfl rfl rfl hq10_8) (fun L2 => ?_) ?_
        · dsimp only [maskL, List.cons_append, List.nil_append]
          refine ox_y (sees_t rfl rfl rfl rfl hq10_8) (y_load1 2 (v := .int .i64 p2_b.fSpan.fLo) sc_3 rfl rfl rfl) ?_
          refine ox_nil ?_
          exact ex_capG (fun _ => (none, 0, 0)) rfl (List.append_nil _)
        dsimp only [aftL, List.set_cons_zero, List.set_cons_succ, List.nil_append, List.cons_append, List.append_nil]
        refine gx_o (sees_t rfl rfl rfl rfl hq10_8) (fun L2 => ?_) ?_
        · dsimp only [maskL, List.cons_append, List.nil_append]
          refine ox_y (sees_t rfl rfl rfl rfl hq10_8) (y_loadN 0 [.int .i64 p0_f.fRise, .int .i64 p0_f.fFall, .int .i64 p0_f.fUp, .int .i64 p0_f.fDown, .slice A0_4 p0_f.fLooks.length c0_4] ag_24 rfl rfl rfl) ?_
          refine ox_nil ?_
          exact ex_capG (fun _ => (none, 0, 0)) rfl (List.append_nil _)
        dsimp only [aftL, List.set_cons_zero, List.set_cons_succ, List.nil_append, List.cons_append, List.append_nil]
        refine gx_o (sees_t rfl rfl rfl rfl hq10_8) (fun L2 => ?_) ?_
        · dsimp only [maskL, List.cons_append, List.nil_append]
          refine ox_y (sees_t rfl rfl rfl rfl hq10_8) (y_loadN 1 [.int .i64 p1_at.fFoot, .int .i64 p1_at.fHour] ag_26 rfl rfl rfl) ?_
          refine ox_nil ?_
          exact ex_capG (fun _ => (none, 0, 0)) rfl (List.append_nil _)
        dsimp only [aftL, List.set_cons_zero, List.set_cons_succ, List.nil_append, List.cons_append, List.append_nil]
        refine gx_o (sees_t rfl rfl rfl rfl hq10_8) (fun L2 => ?_) ?_
        · dsimp only [maskL, List.cons_append, List.nil_append]
          refine ox_call1 [.agg #[.int .i64 p0_f.fRise, .int .i64 p0_f.fFall, .int .i64 p0_f.fUp, .int .i64 p0_f.fDown, .slice A0_4 p0_f.fLooks.length c0_4], .agg #[.int .i64 p1_at.fFoot, .int .i64 p1_at.fHour]] _ _ (sees_t rfl rfl rfl rfl hq10_8) go_50 rfl (fun W2 hW2 => fire_low_ok p0_f p1_at y14 hy15 W2 A0_4 p0_f.fLooks.length c0_4 rfl ((RdL.arg hr0_4) W2 hW2)) ?_
          rintro ⟨b16, b17⟩
          refine ox_nil ?_
          exact ex_capG (fun q => if q = 0 then (none, b16, 0) else (none, b17, 0)) rfl rfl
        dsimp only [aftL, List.set_cons_zero, List.set_cons_succ, List.nil_append, List.cons_append, List.append_nil]
        refine gx_o (sees_t rfl rfl rfl rfl hq10_8) (fun L2 => ?_) ?_
        · dsimp only [maskL, List.cons_append, List.nil_append]
          refine ox_y (sees_t rfl rfl rfl rfl hq10_8) (y_callv (caps := [.pointer (some ⟨b1, 0, none⟩)]) [.int .i64 p2_b.fLow, .int .i64 p2_b.fSpan.fLo, .int .i64 0, .func (.func 93) #[] #[.pointer (some ⟨(ξ11 16 0).2.1, 0, none⟩), .pointer (some ⟨(ξ11 16 1).2.1, 0, none⟩)]] go_48 rfl rfl (fun W2 hW2 => fire_CheckEnds_1_ok p2_b.fLow p2_b.fSpan.fLo 0 (fun x18 => fire_low_1 x18 p0_f p1_at) p0_f y19 hy20 W2 93 [.pointer (some ⟨(ξ11 16 0).2.1, 0, none⟩), .pointer (some ⟨(ξ11 16 1).2.1, 0, none⟩)] go_93 (fun W3 hb x y hxy => fire_low_1_ok x p0_f p1_at y hxy W3 (ξ11 16 0).2.1 A0_4 p0_f.fLooks.length c0_4 rfl (((RdL.arg hr0_4) W2 hW2).later hb) (((RdL.cells 4 rfl) W2 hW2).later hb) (ξ11 16 1).2.1 (((RdL.cells 5 rfl) W2 hW2).later hb)) b1 A0_4 p0_f.fLooks.length c0_4 rfl ((RdL.arg hr0_4) W2 hW2) ((RdL.cells 0 rfl) W2 hW2))) ?_
          refine ox_nil ?_
          exact ex_capG (fun _ => (none, 0, 0)) rfl (List.append_nil _)
        dsimp only [aftL, List.set_cons_zero, List.set_cons_succ, List.nil_append, List.cons_append, List.append_nil]
        refine gx_o (sees_t rfl rfl rfl rfl hq10_8) (fun L2 => ?_) ?_
        · dsimp only [maskL, List.cons_append, List.nil_append]
          refine ox_y (sees_t rfl rfl rfl rfl hq10_8) (y_not rfl) ?_
          refine ox_nil ?_
          exact ex_capG (fun _ => (none, 0, 0)) rfl (List.append_nil _)
        dsimp only [aftL, List.set_cons_zero, List.set_cons_succ, List.nil_append, List.cons_append, List.append_nil]
        refine gx_o rfl (fun L2 => ?_) ?_
        · dsimp only [maskL, List.cons_append, List.nil_append]
          refine ox_y rfl (y_pick_fb (congrArg Value.bool hq10_8) rfl) ?_
          refine ox_nil ?_
          exact ex_capG (fun _ => (none, 0, 0)) rfl (List.append_nil _)
        dsimp only [aftL, List.set_cons_zero, List.set_cons_succ, List.nil_append, List.cons_append, List.append_nil]
        refine gx_o rfl (fun L2 => ?_) ?_
        · dsimp only [maskL, List.cons_append, List.nil_append]
          refine ox_y rfl (y_move_bool rfl) ?_
          refine ox_nil ?_
          exact ex_capG (fun _ => (none, 0, 0)) rfl (List.append_nil _)
        dsimp only [aftL, List.set_cons_zero, List.set_cons_succ, List.nil_append, List.cons_append, List.append_nil]
        refine gx_skip (sees_f rfl rfl rfl rfl hq10_21) ?_
        dsimp only [aftL, List.set_cons_zero, List.set_cons_succ, List.nil_append, List.cons_append, List.append_nil]
        refine gx_skip (sees_f rfl rfl rfl rfl hq10_21) ?_
        dsimp only [aftL, List.set_cons_zero, List.set_cons_succ, List.nil_append, List.cons_append, List.append_nil]
        refine gx_skip (sees_f rfl rfl rfl rfl hq10_21) ?_
        dsimp only [aftL, List.set_cons_zero, List.set_cons_succ, List.nil_append, List.cons_append, List.append_nil]
        refine gx_skip (sees_f rfl rfl rfl rfl hq10_21) ?_
        dsimp only [aftL, List.set_cons_zero, List.set_cons_succ, List.nil_append, List.cons_append, List.append_nil]
        refine gx_skip (sees_f rfl rfl rfl rfl hq10_21) ?_
        dsimp only [aftL, List.set_cons_zero, List.set_cons_succ, List.nil_append, List.cons_append, List.append_nil]
        refine gx_skip (sees_f rfl rfl rfl rfl hq10_21) ?_
        dsimp only [aftL, List.set_cons_zero, List.set_cons_succ, List.nil_append, List.cons_append, List.append_nil]
        refine gx_skip (sees_f rfl rfl rfl rfl hq10_21) ?_
        dsimp only [aftL, List.set_cons_zero, List.set_cons_succ, List.nil_append, List.cons_append, List.append_nil]
        refine gx_skip (sees_f rfl rfl rfl rfl hq10_21) ?_
        dsimp only [aftL, List.set_cons_zero, List.set_cons_succ, List.nil_append, List.cons_append, List.append_nil]
        refine gx_skip (sees_f rfl rfl rfl rfl hq10_21) ?_
        dsimp only [aftL, List.set_cons_zero, List.set_cons_succ, List.nil_append, List.cons_append, List.append_nil]
        refine gx_skip (sees_f rfl rfl rfl rfl hq10_21) ?_
        dsimp only [aftL, List.set_cons_zero, List.set_cons_succ, List.nil_append, List.cons_append, List.append_nil]
        refine gx_skip (sees_f rfl rfl rfl rfl hq10_21) ?_
        dsimp only [aftL, List.set_cons_zero, List.set_cons_succ, List.nil_append, List.cons_append, List.append_nil]
        refine gx_o rfl (fun L2 => ?_) ?_
        · dsimp only [maskL, List.cons_append, List.nil_append]
          refine ox_y rfl (y_pick_tb (congrArg Value.bool hq10_21) rfl) ?_
          refine ox_nil ?_
          exact ex_capG (fun _ => (none, 0, 0)) rfl (List.append_nil _)
        dsimp only [aftL, List.set_cons_zero, List.set_cons_succ, List.nil_append, List.cons_append, List.append_nil]
        refine gx_nil ?_
        refine ex_then ?_
        refine cx_true rfl ?_
        refine cx_seq ?_
        refine cx_region ?_
        try dsimp only [List.nil_append, List.cons_append, List.set_cons_zero, List.set_cons_succ]
        refine ox_y rfl (y_assign_int rfl) ?_
        refine ox_nil ?_
        refine ex_then ?_
        refine cx_ret ?_
        refine ex_then_ret ?_
        obtain rfl := Option.some.inj h
        exact ex_res1 (.inl rfl) rfl (resV_tmp (v := .int .i64 8) rfl) (fun W2 hW2 => ⟨rfl, hW2.none⟩)
      · obtain ⟨y21, hy22, h⟩ := bind_some h
        obtain ⟨y26, hy27, h⟩ := bind_some h
        refine cx_drawsG [[], [], [0, 1], [0, 1, 2], [], [4], [0, 1, 2, 3, 4, 5], [0, 1, 2, 3, 4, 5, 6], [0, 1, 2, 3, 4, 5, 6, 7], [0, 1, 2, 3, 4, 5, 6, 7], [0, 1, 2, 3, 4, 5, 6, 7, 9], [0, 1, 2, 3, 4, 5, 6, 7], [0, 1, 2, 3, 4, 5, 6, 7, 11], [0, 1, 2, 3, 4, 5, 6, 7, 11, 12], [0, 1, 2, 3, 4, 5, 6, 7], [0, 1, 2, 3, 4, 5, 6, 7], [0, 1, 2, 3, 4, 5, 6, 7, 14, 15], [0, 1, 2, 3, 4, 5, 6, 7, 8, 9, 10, 11, 12, 13, 14, 15, 16], [0, 1, 2, 3, 4, 5, 6, 7, 8, 9, 10, 11, 12, 13, 14, 15, 16, 17], [0, 1, 2, 3, 4, 5, 6, 7, 8, 9, 10, 11, 12, 13, 14, 15, 16, 17, 18], [0, 1, 2, 3, 4, 5, 6, 7, 8, 9, 10, 11, 12, 13, 14, 15, 16, 17, 18, 19], [0, 1, 2, 3, 4, 5, 6, 7, 8, 9, 10, 11, 12, 13, 14, 15, 16, 17, 18, 19, 20], [0, 1, 2, 3, 4, 5, 6, 7, 8, 9, 10, 11, 12, 13, 14, 15, 16, 17, 18, 19, 20], [0, 1, 2, 3, 4, 5, 6, 7, 8, 9, 10, 11, 12, 13, 14, 15, 16, 17, 18, 19, 20, 22], [0, 1, 2, 3, 4, 5, 6, 7, 8, 9, 10, 11, 12, 13, 14, 15, 16, 17, 18, 19, 20], [0, 1, 2, 3, 4, 5, 6, 7, 8, 9, 10, 11, 12, 13, 14, 15, 16, 17, 18, 19, 20, 24], [0, 1, 2, 3, 4, 5, 6, 7, 8, 9, 10, 11, 12, 13, 14, 15, 16, 17, 18, 19, 20, 24, 25], [0, 1, 2, 3, 4, 5, 6, 7, 8, 9, 10, 11, 12, 13, 14, 15, 16, 17, 18, 19, 20], [0, 1, 2, 3, 4, 5, 6, 7, 8, 9, 10, 11, 12, 13, 14, 15, 16, 17, 18, 19, 20], [0, 1, 2, 3, 4, 5, 6, 7, 8, 9, 10, 11, 12, 13, 14, 15, 16, 17, 18, 19, 20, 27, 28], [0, 1, 2, 3, 4, 5, 6, 7, 8, 9, 10, 11, 12, 13, 14, 15, 16, 17, 18, 19, 20, 21, 22, 23, 24, 25, 26, 27, 28, 29], [0, 1, 2, 3, 4, 5, 6, 7, 8, 9, 10, 11, 12, 13, 14, 15, 16, 17, 18, 19, 20, 21, 22, 23, 24, 25, 26, 27, 28, 29, 30], [0, 1, 2, 3, 4, 5, 6, 7, 8, 9, 10, 11, 12, 13, 14, 15, 16, 17, 18, 19, 20, 21, 22, 23, 24, 25, 26, 27, 28, 29, 30, 31]] [(none, 0, [true, true, true, true]), (none, 0, [true, true, true, true]), (none, 0, [true, true, true, true]), (none, 0, [true, true, true, true]), (none, 0, [true, true, true, true]), (none, 0, [true, true, true, true]), (none, 0, [true, true, true, true]), (none, 0, [true, true, true, true]), (none, 0, [true, true, true, true]), (none, 0, [true, true, true, true]), (none, 0, [true, true, true, true]), (none, 0, [true, true, true, true]), (none, 0, [true, true, true, true]), (none, 0, [true, true, true, true]), (none, 0, [true, true, true, true]), (none, 0, [true, true, true, true]), (none, 2, [true, true, true, true]), (none, 0, [true, true, true, true, true, true]), (none, 0, [true, true, true, true, true, true]), (none, 0, [true, true, true, true, true, true]), (none, 0, [true, true, true, true, true, true]), (none, 0, [true, true, true, true, true, true]), (none, 0, [true, true, true, true, true, true]), (none, 0, [true, true, true, true, true, true]), (none, 0, [true, true, true, true, true, true]), (none, 0, [true, true, true, true, true, true]), (none, 0, [true, true, true, true, true, true]), (none, 0, [true, true, true, true, true, true]), (none, 0, [true, true, true, true, true, true]), (none, 2, [true, true, true, true, true, true]), (none, 0, [true, true, true, true, true, true, true, true]), (none, 0, [true, true, true, true, true, true, true, true]), (none, 0, [true, true, true, true, true, true, true, true])] [⟨fun _ => .agg #[.int .i64 p0_f.fRise, .int .i64 p0_f.fFall, .int .i64 p0_f.fUp, .int .i64 p0_f.fDown, .slice A0_4 p0_f.fLooks.length c0_4], fun _ => noR, fun _ => []⟩, ⟨fun _ => .agg #[.int .i64 p1_at.fFoot, .int .i64 p1_at.fHour], fun _ => noR, fun _ => []⟩, ⟨fun _ => .agg #[.int .i64 y12.fSpan.fLo, .int .i64 y12.fSpan.fHi, .int .i64 y12.fLow, .int .i64 y12.fHigh], fun _ => noR, fun _ => []⟩, ⟨fun _ => .agg #[.int .i64 y12.fSpan.fLo, .int .i64 y12.fSpan.fHi], fun _ => noR, fun _ => []⟩, ⟨fun _ => .pointer (some ⟨b3, 0 + 0, none⟩), fun _ => noR, fun _ => []⟩, ⟨fun _ => .agg #[.int .i64 p2_b.fSpan.fLo, .int .i64 p2_b.fSpan.fHi], fun _ => noR, fun _ => []⟩, ⟨fun _ => .bool (!((y12.fSpan.fLo == p2_b.fSpan.fLo) && (y12.fSpan.fHi == p2_b.fSpan.fHi))), fun _ => noR, fun _ => []⟩, ⟨fun _ => .bool (!((y12.fSpan.fLo == p2_b.fSpan.fLo) && (y12.fSpan.fHi == p2_b.fSpan.fHi))), fun _ => noR, fun _ => []⟩, ⟨fun _ => .func (.func 48) #[] #[.pointer (some ⟨b1, 0, none⟩)], fun _ => noR, fun _ => []⟩, ⟨fun _ => .pointer (some ⟨b3, 0 + 2, none⟩), fun _ => noR, fun _ => []⟩, ⟨fun _ => .int .i64 p2_b.fLow, fun _ => noR, fun _ => []⟩, ⟨fun _ => .pointer (some ⟨b3, 0 + 0, none⟩), fun _ => noR, fun _ => []⟩, ⟨fun _ => .pointer (some ⟨b3, 0 + 0 + 0, none⟩), fun _ => noR, fun _ => []⟩, ⟨fun _ => .int .i64 p2_b.fSpan.fLo, fun _ => noR, fun _ => []⟩, ⟨fun _ => .agg #[.int .i64 p0_f.fRise, .int .i64 p0_f.fFall, .int .i64 p0_f.fUp, .int .i64 p0_f.fDown, .slice A0_4 p0_f.fLooks.length c0_4], fun _ => noR, fun _ => []⟩, ⟨fun _ => .agg #[.int .i64 p1_at.fFoot, .int .i64 p1_at.fHour], fun _ => noR, fun _ => []⟩, ⟨fun ξ11 => .func (.func 93) #[] #[.pointer (some ⟨(ξ11 16 0).2.1, 0, none⟩), .pointer (some ⟨(ξ11 16 1).2.1, 0, none⟩)], fun _ => noR, fun ξ11 => [cellsR (ξ11 16 0).2.1 24 [.int .i64 p0_f.fRise, .int .i64 p0_f.fFall, .int .i64 p0_f.fUp, .int .i64 p0_f.fDown, .slice A0_4 p0_f.fLooks.length c0_4], cellsR (ξ11 16 1).2.1 26 [.int .i64 p1_at.fFoot, .int .i64 p1_at.fHour]]⟩, ⟨fun _ => .bool y19, fun _ => noR, fun _ => []⟩, ⟨fun _ => .bool (!y19), fun _ => noR, fun _ => []⟩, ⟨fun _ => .bool (!y19), fun _ => noR, fun _ => []⟩, ⟨fun _ => .bool (!y19), fun _ => noR, fun _ => []⟩, ⟨fun _ => .func (.func 48) #[] #[.pointer (some ⟨b1, 0, none⟩)], fun _ => noR, fun _ => []⟩, ⟨fun _ => .pointer (some ⟨b3, 0 + 3, none⟩), fun _ => noR, fun _ => []⟩, ⟨fun _ => .int .i64 p2_b.fHigh, fun _ => noR, fun _ => []⟩, ⟨fun _ => .pointer (some ⟨b3, 0 + 0, none⟩), fun _ => noR, fun _ => []⟩, ⟨fun _ => .pointer (some ⟨b3, 0 + 0 + 1, none⟩), fun _ => noR, fun _ => []⟩, ⟨fun _ => .int .i64 p2_b.fSpan.fHi, fun _ => noR, fun _ => []⟩, ⟨fun _ => .agg #[.int .i64 p0_f.fRise, .int .i64 p0_f.fFall, .int .i64 p0_f.fUp, .int .i64 p0_f.fDown, .slice A0_4 p0_f.fLooks.length c0_4], fun _ => noR, fun _ => []⟩, ⟨fun _ => .agg #[.int .i64 p1_at.fFoot, .int .i64 p1_at.fHour], fun _ => noR, fun _ => []⟩, ⟨fun ξ11 => .func (.func 94) #[] #[.pointer (some ⟨(ξ11 29 0).2.1, 0, none⟩), .pointer (some ⟨(ξ11 29 1).2.1, 0, none⟩)], fun _ => noR, fun ξ11 => [cellsR (ξ11 29 0).2.1 24 [.int .i64 p0_f.fRise, .int .i64 p0_f.fFall, .int .i64 p0_f.fUp, .int .i64 p0_f.fDown, .slice A0_4 p0_f.fLooks.length c0_4], cellsR (ξ11 29 1).2.1 26 [.int .i64 p1_at.fFoot, .int .i64 p1_at.fHour]]⟩, ⟨fun _ => .bool y26, fun _ => noR, fun _ => []⟩, ⟨fun _ => .bool (!y26), fun _ => noR, fun _ => []⟩, ⟨fun _ => .bool (!y26), fun _ => noR, fun _ => []⟩] 4 mixed (by kernel_rfl) (by kernel_rfl) ⟨⟨fun ξ11 ξ11' h => ⟨rfl, rfl, rfl⟩, fun _ => rfl⟩, ⟨fun ξ11 ξ11' h => ⟨rfl, rfl, rfl⟩, fun _ => rfl⟩, ⟨fun ξ11 ξ11' h => ⟨rfl, rfl, rfl⟩, fun _ => rfl⟩, ⟨fun ξ11 ξ11' h => ⟨rfl, rfl, rfl⟩, fun _ => rfl⟩, ⟨fun ξ11 ξ11' h => ⟨rfl, rfl, rfl⟩, fun _ => rfl⟩, ⟨fun ξ11 ξ11' h => ⟨rfl, rfl, rfl⟩, fun _ => rfl⟩, ⟨fun ξ11 ξ11' h => ⟨rfl, rfl, rfl⟩, fun _ => rfl⟩, ⟨fun ξ11 ξ11' h => ⟨rfl, rfl, rfl⟩, fun _ => rfl⟩, ⟨fun ξ11 ξ11' h => ⟨rfl, rfl, rfl⟩, fun _ => rfl⟩, ⟨fun ξ11 ξ11' h => ⟨rfl, rfl, rfl⟩, fun _ => rfl⟩, ⟨fun ξ11 ξ11' h => ⟨rfl, rfl, rfl⟩, fun _ => rfl⟩, ⟨fun ξ11 ξ11' h => ⟨rfl, rfl, rfl⟩, fun _ => rfl⟩, ⟨fun ξ11 ξ11' h => ⟨rfl, rfl, rfl⟩, fun _ => rfl⟩, ⟨fun ξ11 ξ11' h => ⟨rfl, rfl, rfl⟩, fun _ => rfl⟩, ⟨fun ξ11 ξ11' h => ⟨rfl, rfl, rfl⟩, fun _ => rfl⟩, ⟨fun ξ11 ξ11' h => ⟨rfl, rfl, rfl⟩, fun _ => rfl⟩, ⟨fun ξ11 ξ11' h => ⟨by simp only [h 16 (.inl rfl)], rfl, by simp only [h 16 (.inl rfl)]⟩, fun _ => rfl⟩, ⟨fun ξ11 ξ11' h => ⟨rfl, rfl, rfl⟩, fun _ => rfl⟩, ⟨fun ξ11 ξ11' h => ⟨rfl, rfl, rfl⟩, fun _ => rfl⟩, ⟨fun ξ11 ξ11' h => ⟨rfl, rfl, rfl⟩, fun _ => rfl⟩, ⟨fun ξ11 ξ11' h => ⟨rfl, rfl, rfl⟩, fun _ => rfl⟩, ⟨fun ξ11 ξ11' h => ⟨rfl, rfl, rfl⟩, fun _ => rfl⟩, ⟨fun ξ11 ξ11' h => ⟨rfl, rfl, rfl⟩, fun _ => rfl⟩, ⟨fun ξ11 ξ11' h => ⟨rfl, rfl, rfl⟩, fun _ => rfl⟩, ⟨fun ξ11 ξ11' h => ⟨rfl, rfl, rfl⟩, fun _ => rfl⟩, ⟨fun ξ11 ξ11' h => ⟨rfl, rfl, rfl⟩, fun _ => rfl⟩, ⟨fun ξ11 ξ11' h => ⟨rfl, rfl, rfl⟩, fun _ => rfl⟩, ⟨fun ξ11 ξ11' h => ⟨rfl, rfl, rfl⟩, fun _ => rfl⟩, ⟨fun ξ11 ξ11' h => ⟨rfl, rfl, rfl⟩, fun _ => rfl⟩, ⟨fun ξ11 ξ11' h => ⟨by simp only [h 29 (.inl rfl)], rfl, by simp only [h 29 (.inl rfl)]⟩, fun _ => rfl⟩, ⟨fun ξ11 ξ11' h => ⟨rfl, rfl, rfl⟩, fun _ => rfl⟩, ⟨fun ξ11 ξ11' h => ⟨rfl, rfl, rfl⟩, fun _ => rfl⟩, ⟨fun ξ11 ξ11' h => ⟨rfl, rfl, rfl⟩, fun _ => rfl⟩, trivial⟩ rfl (fun ξ11 => ?_)
        refine gx_o rfl (fun L2 => ?_) ?_
        · dsimp only [maskL, List.cons_append, List.nil_append]
          refine ox_y rfl (y_loadN 0 [.int .i64 p0_f.fRise, .int .i64 p0_f.fFall, .int .i64 p0_f.fUp, .int .i64 p0_f.fDown, .slice A0_4 p0_f.fLooks.length c0_4] ag_24 rfl rfl rfl) ?_
          refine ox_nil ?_
          exact ex_capG (fun _ => (none, 0, 0)) rfl (List.append_nil _)
        dsimp only [aftL, List.set_cons_zero, List.set_cons_succ, List.nil_append, List.cons_append, List.append_nil]
        refine gx_o rfl (fun L2 => ?_) ?_
        · dsimp only [maskL, List.cons_append, List.nil_append]
          refine ox_y rfl (y_loadN 1 [.int .i64 p1_at.fFoot, .int .i64 p1_at.fHour] ag_26 rfl rfl rfl) ?_
          refine ox_nil ?_
          exact ex_capG (fun _ => (none, 0, 0)) rfl (List.append_nil _)
        dsimp only [aftL, List.set_cons_zero, List.set_cons_succ, List.nil_append, List.cons_append, List.append_nil]
        refine gx_o rfl (fun L2 => ?_) ?_
        · dsimp only [maskL, List.cons_append, List.nil_append]
          refine ox_y rfl (y_call [.agg #[.int .i64 p0_f.fRise, .int .i64 p0_f.fFall, .int .i64 p0_f.fUp, .int .i64 p0_f.fDown, .slice A0_4 p0_f.fLooks.length c0_4], .agg #[.int .i64 p1_at.fFoot, .int .i64 p1_at.fHour]] go_39 rfl (fun W2 hW2 => fire_ends_ok p0_f p1_at y12 hy13 W2 A0_4 p0_f.fLooks.length c0_4 rfl ((RdL.arg hr0_4) W2 hW2)) rfl) ?_
          refine ox_nil ?_
          exact ex_capG (fun _ => (none, 0, 0)) rfl (List.append_nil _)
        dsimp only [aftL, List.set_cons_zero, List.set_cons_succ, List.nil_append, List.cons_append, List.append_nil]
        refine gx_o rfl (fun L2 => ?_) ?_
        · dsimp only [maskL, List.cons_append, List.nil_append]
          refine ox_y rfl (y_fieldN [.int .i64 y12.fSpan.fLo, .int .i64 y12.fSpan.fHi, .int .i64 y12.fLow, .int .i64 y12.fHigh] [.int .i64 y12.fSpan.fLo, .int .i64 y12.fSpan.fHi] fd_30_0 ag_28 rfl rfl) ?_
          refine ox_nil ?_
          exact ex_capG (fun _ => (none, 0, 0)) rfl (List.append_nil _)
        dsimp only [aftL, List.set_cons_zero, List.set_cons_succ, List.nil_append, List.cons_append, List.append_nil]
        refine gx_o rfl (fun L2 => ?_) ?_
        · dsimp only [maskL, List.cons_append, List.nil_append]
          refine ox_y rfl (y_fieldAddr fo_30_0 rfl) ?_
          refine ox_nil ?_
          exact ex_capG (fun _ => (none, 0, 0)) rfl (List.append_nil _)
        dsimp only [aftL, List.set_cons_zero, List.set_cons_succ, List.nil_append, List.cons_append, List.append_nil]
        refine gx_o rfl (fun L2 => ?_) ?_
        · dsimp only [maskL, List.cons_append, List.nil_append]
          refine ox_y rfl (y_loadN 2 [.int .i64 p2_b.fSpan.fLo, .int .i64 p2_b.fSpan.fHi] ag_28 rfl rfl rfl) ?_
          refine ox_nil ?_
          exact ex_capG (fun _ => (none, 0, 0)) rfl (List.append_nil _)
        dsimp only [aftL, List.set_cons_zero, List.set_cons_succ, List.nil_append, List.cons_append, List.append_nil]
        refine gx_o rfl (fun L2 => ?_) ?_
        · dsimp only [maskL, List.cons_append, List.nil_append]
          refine ox_y rfl (y_neqa (b := ((y12.fSpan.fLo == p2_b.fSpan.fLo) && (y12.fSpan.fHi == p2_b.fSpan.fHi))) eg_28 rfl rfl (fun _ => (eqS2 fl_28 (part1 sc_3 rfl) (part1 sc_3 rfl) (part1 sc_3 rfl) (part1 sc_3 rfl) (run_equalIn_int _ _ _ _ _ _ _ ui_3) (run_equalIn_int _ _ _ _ _ _ _ ui_3)))) ?_
          refine ox_nil ?_
          exact ex_capG (fun _ => (none, 0, 0)) rfl (List.append_nil _)
        dsimp only [aftL, List.set_cons_zero, List.set_cons_succ, List.nil_append, List.cons_append, List.append_nil]
        refine gx_o rfl (fun L2 => ?_) ?_
        · dsimp only [maskL, List.cons_append, List.nil_append]
          refine ox_y rfl (y_move_bool rfl) ?_
          refine ox_nil ?_
          exact ex_capG (fun _ => (none, 0, 0)) rfl (List.append_nil _)
        dsimp only [aftL, List.set_cons_zero, List.set_cons_succ, List.nil_append, List.cons_append, List.append_nil]
        refine gx_o (sees_t rfl rfl rfl rfl hq10_8) (fun L2 => ?_) ?_
        · dsimp only [maskL, List.cons_append, List.nil_append]
          refine ox_y (sees_t rfl rfl rfl rfl hq10_8) (y_move_func rfl) ?_
          refine ox_nil ?_
          exact ex_capG (fun _ => (none, 0, 0)) rfl (List.append_nil _)
        dsimp only [aftL, List.set_cons_zero, List.set_cons_succ, List.nil_append, List.cons_append, List.append_nil]
        refine gx_o (sees_t rfl rfl rfl rfl hq10_8) (fun L2 => ?_) ?_
        · dsimp only [maskL, List.cons_append, List.nil_append]
          refine ox_y (sees_t rfl rfl rfl rfl hq10_8) (y_fieldAddr fo_30_1 rfl) ?_
          refine ox_nil ?_
          exact ex_capG (fun _ => (none, 0, 0)) rfl (List.append_nil _)
        dsimp only [aftL, List.set_cons_zero, List.set_cons_succ, List.nil_append, List.cons_append, List.append_nil]
        refine gx_o (sees_t rfl rfl rfl rfl hq10_8) (fun L2 => ?_) ?_
        · dsimp only [maskL, List.cons_append, List.nil_append]
          refine ox_y (sees_t rfl rfl rfl rfl hq10_8) (y_load1 2 (v := .int .i64 p2_b.fLow) sc_3 rfl rfl rfl) ?_
          refine ox_nil ?_
          exact ex_capG (fun _ => (none, 0, 0)) rfl (List.append_nil _)
        dsimp only [aftL, List.set_cons_zero, List.set_cons_succ, List.nil_append, List.cons_append, List.append_nil]
        refine gx_o (sees_t rfl rfl rfl rfl hq10_8) (fun L2 => ?_) ?_
        · dsimp only [maskL, List.cons_append, List.nil_append]
          refine ox_y (sees_t rfl rfl rfl rfl hq10_8) (y_fieldAddr fo_30_0 rfl) ?_
          refine ox_nil ?_
          exact ex_capG (fun _ => (none, 0, 0)) rfl (List.append_nil _)
        dsimp only [aftL, List.set_cons_zero, List.set_cons_succ, List.nil_append, List.cons_append, List.append_nil]
        refine gx_o (sees_t rfl rfl rfl rfl hq10_8) (fun L2 => ?_) ?_
        · dsimp only [maskL, List.cons_append, List.nil_append]
          refine ox_y (sees_t rfl rfl rfl rfl hq10_8) (y_fieldAddr fo_28_0 rfl) ?_
          refine ox_nil ?_
          exact ex_capG (fun _ => (none, 0, 0)) rfl (List.append_nil _)
        dsimp only [aftL, List.set_cons_zero, List.set_cons_succ, List.nil_append, List.cons_append, List.append_nil]
        refine gx_o (sees_t rfl rfl rfl rfl hq10_8) (fun L2 => ?_) ?_
        · dsimp only [maskL, List.cons_append, List.nil_append]
          refine ox_y (sees_t rfl rfl rfl rfl hq10_8) (y_load1 2 (v := .int .i64 p2_b.fSpan.fLo) sc_3 rfl rfl rfl) ?_
          refine ox_nil ?_
          exact ex_capG (fun _ => (none, 0, 0)) rfl (List.append_nil _)
        dsimp only [aftL, List.set_cons_zero, List.set_cons_succ, List.nil_append, List.cons_append, List.append_nil]
        refine gx_o (sees_t rfl rfl rfl rfl hq10_8) (fun L2 => ?_) ?_
        · dsimp only [maskL, List.cons_append, List.nil_append]
          refine ox_y (sees_t rfl rfl rfl rfl hq10_8) (y_loadN 0 [.int .i64 p0_f.fRise, .int .i64 p0_f.fFall, .int .i64 p0_f.fUp, .int .i64 p0_f.fDown, .slice A0_4 p0_f.fLooks.length c0_4] ag_24 rfl rfl rfl) ?_
          refine ox_nil ?_
          exact ex_capG (fun _ => (none, 0, 0)) rfl (List.append_nil _)
        dsimp only [aftL, List.set_cons_zero, List.set_cons_succ, List.nil_append, List.cons_append, List.append_nil]
        refine gx_o (sees_t rfl rfl rfl rfl hq10_8) (fun L2 => ?_) ?_
        · dsimp only [maskL, List.cons_append, List.nil_append]
          refine ox_y (sees_t rfl rfl rfl rfl hq10_8) (y_loadN 1 [.int .i64 p1_at.fFoot, .int .i64 p1_at.fHour] ag_26 rfl rfl rfl) ?_
          refine ox_nil ?_
          exact ex_capG (fun _ => (none, 0, 0)) rfl (List.append_nil _)
        dsimp only [aftL, List.set_cons_zero, List.set_cons_succ, List.nil_append, List.cons_append, List.append_nil]
        refine gx_o (sees_t rfl rfl rfl rfl hq10_8) (fun L2 => ?_) ?_
        · dsimp only [maskL, List.cons_append, List.nil_append]
          refine ox_call1 [.agg #[.int .i64 p0_f.fRise, .int .i64 p0_f.fFall, .int .i64 p0_f.fUp, .int .i64 p0_f.fDown, .slice A0_4 p0_f.fLooks.length c0_4], .agg #[.int .i64 p1_at.fFoot, .int .i64 p1_at.fHour]] _ _ (sees_t rfl rfl rfl rfl hq10_8) go_50 rfl (fun W2 hW2 => fire_low_ok p0_f p1_at y14 hy15 W2 A0_4 p0_f.fLooks.length c0_4 rfl ((RdL.arg hr0_4) W2 hW2)) ?_
          rintro ⟨b16, b17⟩
          refine ox_nil ?_
          exact ex_capG (fun q => if q = 0 then (none, b16, 0) else (none, b17, 0)) rfl rfl
        dsimp only [aftL, List.set_cons_zero, List.set_cons_succ, List.nil_append, List.cons_append, List.append_nil]
        refine gx_o (sees_t rfl rfl rfl rfl hq10_8) (fun L2 => ?_) ?_
        · dsimp only [maskL, List.cons_append, List.nil_append]
          refine ox_y (sees_t rfl rfl rfl rfl hq10_8) (y_callv (caps := [.pointer (some ⟨b1, 0, none⟩)]) [.int .i64 p2_b.fLow, .int .i64 p2_b.fSpan.fLo, .int .i64 0, .func (.func 93) #[] #[.pointer (some ⟨(ξ11 16 0).2.1, 0, none⟩), .pointer (some ⟨(ξ11 16 1).2.1, 0, none⟩)]] go_48 rfl rfl (fun W2 hW2 => fire_CheckEnds_1_ok p2_b.fLow p2_b.fSpan.fLo 0 (fun x18 => fire_low_1 x18 p0_f p1_at) p0_f y19 hy20 W2 93 [.pointer (some ⟨(ξ11 16 0).2.1, 0, none⟩), .pointer (some ⟨(ξ11 16 1).2.1, 0, none⟩)] go_93 (fun W3 hb x y hxy => fire_low_1_ok x p0_f p1_at y hxy W3 (ξ11 16 0).2.1 A0_4 p0_f.fLooks.length c0_4 rfl (((RdL.arg hr0_4) W2 hW2).later hb) (((RdL.cells 4 rfl) W2 hW2).later hb) (ξ11 16 1).2.1 (((RdL.cells 5 rfl) W2 hW2).later hb)) b1 A0_4 p0_f.fLooks.length c0_4 rfl ((RdL.arg hr0_4) W2 hW2) ((RdL.cells 0 rfl) W2 hW2))) ?_
          refine ox_nil ?_
          exact ex_capG (fun _ => (none, 0, 0)) rfl (List.append_nil _)
        dsimp only [aftL, List.set_cons_zero, List.set_cons_succ, List.nil_append, List.cons_append, List.append_nil]
        refine gx_o (sees_t rfl rfl rfl rfl hq10_8) (fun L2 => ?_) ?_
        · dsimp only [maskL, List.cons_append, List.nil_append]
          refine ox_y (sees_t rfl rfl rfl rfl hq10_8) (y_not rfl) ?_
          refine ox_nil ?_
          exact ex_capG (fun _ => (none, 0, 0)) rfl (List.append_nil _)
        dsimp only [aftL, List.set_cons_zero, List.set_cons_succ, List.nil_append, List.cons_append, List.append_nil]
        refine gx_o rfl (fun L2 => ?_) ?_
        · dsimp only [maskL, List.cons_append, List.nil_append]
          refine ox_y rfl (y_pick_fb (congrArg Value.bool hq10_8) rfl) ?_
          refine ox_nil ?_
          exact ex_capG (fun _ => (none, 0, 0)) rfl (List.append_nil _)
        dsimp only [aftL, List.set_cons_zero, List.set_cons_succ, List.nil_append, List.cons_append, List.append_nil]
        refine gx_o rfl (fun L2 => ?_) ?_
        · dsimp only [maskL, List.cons_append, List.nil_append]
          refine ox_y rfl (y_move_bool rfl) ?_
          refine ox_nil ?_
          exact ex_capG (fun _ => (none, 0, 0)) rfl (List.append_nil _)
        dsimp only [aftL, List.set_cons_zero, List.set_cons_succ, List.nil_append, List.cons_append, List.append_nil]
        refine gx_o (sees_t rfl rfl rfl rfl hq10_21) (fun L2 => ?_) ?_
        · dsimp only [maskL, List.cons_append, List.nil_append]
          refine ox_y (sees_t rfl rfl rfl rfl hq10_21) (y_move_func rfl) ?_
          refine ox_nil ?_
          exact ex_capG (fun _ => (none, 0, 0)) rfl (List.append_nil _)
        dsimp only [aftL, List.set_cons_zero, List.set_cons_succ, List.nil_append, List.cons_append, List.append_nil]
        refine gx_o (sees_t rfl rfl rfl rfl hq10_21) (fun L2 => ?_) ?_
        · dsimp only [maskL, List.cons_append, List.nil_append]
          refine ox_y (sees_t rfl rfl rfl rfl hq10_21) (y_fieldAddr fo_30_2 rfl) ?_
          refine ox_nil ?_
          exact ex_capG (fun _ => (none, 0, 0)) rfl (List.append_nil _)
        dsimp only [aftL, List.set_cons_zero, List.set_cons_succ, List.nil_append, List.cons_append, List.append_nil]
        refine gx_o (sees_t rfl rfl rfl rfl hq10_21) (fun L2 => ?_) ?_
        · dsimp only [maskL, List.cons_append, List.nil_append]
          refine ox_y (sees_t rfl rfl rfl rfl hq10_21) (y_load1 2 (v := .int .i64 p2_b.fHigh) sc_3 rfl rfl rfl) ?_
          refine ox_nil ?_
          exact ex_capG (fun _ => (none, 0, 0)) rfl (List.append_nil _)
        dsimp only [aftL, List.set_cons_zero, List.set_cons_succ, List.nil_append, List.cons_append, List.append_nil]
        refine gx_o (sees_t rfl rfl rfl rfl hq10_21) (fun L2 => ?_) ?_
        · dsimp only [maskL, List.cons_append, List.nil_append]
          refine ox_y (sees_t rfl rfl rfl rfl hq10_21) (y_fieldAddr fo_30_0 rfl) ?_
          refine ox_nil ?_
          exact ex_capG (fun _ => (none, 0, 0)) rfl (List.append_nil _)
        dsimp only [aftL, List.set_cons_zero, List.set_cons_succ, List.nil_append, List.cons_append, List.append_nil]
        refine gx_o (sees_t rfl rfl rfl rfl hq10_21) (fun L2 => ?_) ?_
        · dsimp only [maskL, List.cons_append, List.nil_append]
          refine ox_y (sees_t rfl rfl rfl rfl hq10_21) (y_fieldAddr fo_28_1 rfl) ?_
          refine ox_nil ?_
          exact ex_capG (fun _ => (none, 0, 0)) rfl (List.append_nil _)
        dsimp only [aftL, List.set_cons_zero, List.set_cons_succ, List.nil_append, List.cons_append, List.append_nil]
        refine gx_o (sees_t rfl rfl rfl rfl hq10_21) (fun L2 => ?_) ?_
        · dsimp only [maskL, List.cons_append, List.nil_append]
          refine ox_y (sees_t rfl rfl rfl rfl hq10_21) (y_load1 2 (v := .int .i64 p2_b.fSpan.fHi) sc_3 rfl rfl rfl) ?_
          refine ox_nil ?_
          exact ex_capG (fun _ => (none, 0, 0)) rfl (List.append_nil _)
        dsimp only [aftL, List.set_cons_zero, List.set_cons_succ, List.nil_append, List.cons_append, List.append_nil]
        refine gx_o (sees_t rfl rfl rfl rfl hq10_21) (fun L2 => ?_) ?_
        · dsimp only [maskL, List.cons_append, List.nil_append]
          refine ox_y (sees_t rfl rfl rfl rfl hq10_21) (y_loadN 0 [.int .i64 p0_f.fRise, .int .i64 p0_f.fFall, .int .i64 p0_f.fUp, .int .i64 p0_f.fDown, .slice A0_4 p0_f.fLooks.length c0_4] ag_24 rfl rfl rfl) ?_
          refine ox_nil ?_
          exact ex_capG (fun _ => (none, 0, 0)) rfl (List.append_nil _)
        dsimp only [aftL, List.set_cons_zero, List.set_cons_succ, List.nil_append, List.cons_append, List.append_nil]
        refine gx_o (sees_t rfl rfl rfl rfl hq10_21) (fun L2 => ?_) ?_
        · dsimp only [maskL, List.cons_append, List.nil_append]
          refine ox_y (sees_t rfl rfl rfl rfl hq10_21) (y_loadN 1 [.int .i64 p1_at.fFoot, .int .i64 p1_at.fHour] ag_26 rfl rfl rfl) ?_
          refine ox_nil ?_
          exact ex_capG (fun _ => (none, 0, 0)) rfl (List.append_nil _)
        dsimp only [aftL, List.set_cons_zero, List.set_cons_succ, List.nil_append, List.cons_append, List.append_nil]
        refine gx_o (sees_t rfl rfl rfl rfl hq10_21) (fun L2 => ?_) ?_
        · dsimp only [maskL, List.cons_append, List.nil_append]
          refine ox_call1 [.agg #[.int .i64 p0_f.fRise, .int .i64 p0_f.fFall, .int .i64 p0_f.fUp, .int .i64 p0_f.fDown, .slice A0_4 p0_f.fLooks.length c0_4], .agg #[.int .i64 p1_at.fFoot, .int .i64 p1_at.fHour]] _ _ (sees_t rfl rfl rfl rfl hq10_21) go_51 rfl (fun W2 hW2 => fire_high_ok p0_f p1_at y21 hy22 W2 A0_4 p0_f.fLooks.length c0_4 rfl ((RdL.arg hr0_4) W2 hW2)) ?_
          rintro ⟨b23, b24⟩
          refine ox_nil ?_
          exact ex_capG (fun q => if q = 0 then (none, b23, 0) else (none, b24, 0)) rfl rfl
        dsimp only [aftL, List.set_cons_zero, List.set_cons_succ, List.nil_append, List.cons_append, List.append_nil]
        refine gx_o (sees_t rfl rfl rfl rfl hq10_21) (fun L2 => ?_) ?_
        · dsimp only [maskL, List.cons_append, List.nil_append]
          refine ox_y (sees_t rfl rfl rfl rfl hq10_21) (y_callv (caps := [.pointer (some ⟨b1, 0, none⟩)]) [.int .i64 p2_b.fHigh, .int .i64 p2_b.fSpan.fHi, .int .i64 1500, .func (.func 94) #[] #[.pointer (some ⟨(ξ11 29 0).2.1, 0, none⟩), .pointer (some ⟨(ξ11 29 1).2.1, 0, none⟩)]] go_48 rfl rfl (fun W2 hW2 => fire_CheckEnds_1_ok p2_b.fHigh p2_b.fSpan.fHi 1500 (fun x25 => fire_high_1 x25 p0_f p1_at) p0_f y26 hy27 W2 94 [.pointer (some ⟨(ξ11 29 0).2.1, 0, none⟩), .pointer (some ⟨(ξ11 29 1).2.1, 0, none⟩)] go_94 (fun W3 hb x y hxy => fire_high_1_ok x p0_f p1_at y hxy W3 (ξ11 29 0).2.1 A0_4 p0_f.fLooks.length c0_4 rfl (((RdL.arg hr0_4) W2 hW2).later hb) (((RdL.cells 6 rfl) W2 hW2).later hb) (ξ11 29 1).2.1 (((RdL.cells 7 rfl) W2 hW2).later hb)) b1 A0_4 p0_f.fLooks.length c0_4 rfl ((RdL.arg hr0_4) W2 hW2) ((RdL.cells 0 rfl) W2 hW2))) ?_
          refine ox_nil ?_
          exact ex_capG (fun _ => (none, 0, 0)) rfl (List.append_nil _)
        dsimp only [aftL, List.set_cons_zero, List.set_cons_succ, List.nil_append, List.cons_append, List.append_nil]
        refine gx_o (sees_t rfl rfl rfl rfl hq10_21) (fun L2 => ?_) ?_
        · dsimp only [maskL, List.cons_append, List.nil_append]
          refine ox_y (sees_t rfl rfl rfl rfl hq10_21) (y_not rfl) ?_
          refine ox_nil ?_
          exact ex_capG (fun _ => (none, 0, 0)) rfl (List.append_nil _)
        dsimp only [aftL, List.set_cons_zero, List.set_cons_succ, List.nil_append, List.cons_append, List.append_nil]
        refine gx_o rfl (fun L2 => ?_) ?_
        · dsimp only [maskL, List.cons_append, List.nil_append]
          refine ox_y rfl (y_pick_fb (congrArg Value.bool hq10_21) rfl) ?_
          refine ox_nil ?_
          exact ex_capG (fun _ => (none, 0, 0)) rfl (List.append_nil _)
        dsimp only [aftL, List.set_cons_zero, List.set_cons_succ, List.nil_append, List.cons_append, List.append_nil]
        refine gx_nil ?_
        refine ex_then ?_
        rcases ite_some h with ⟨hp28, h⟩ | ⟨hp28, h⟩
        · refine cx_true (congrArg Value.bool hp28) ?_
          refine cx_seq ?_
          refine cx_region ?_
          try dsimp only [List.nil_append, List.cons_append, List.set_cons_zero, List.set_cons_succ]
          refine ox_y rfl (y_assign_int rfl) ?_
          refine ox_nil ?_
          refine ex_then ?_
          refine cx_ret ?_
          refine ex_then_ret ?_
          obtain rfl := Option.some.inj h
          exact ex_res1 (.inl rfl) rfl (resV_tmp (v := .int .i64 8) rfl) (fun W2 hW2 => ⟨rfl, hW2.none⟩)
        · refine cx_false (congrArg Value.bool hp28) ?_
          refine cx_skip ?_
          refine ex_then ?_
          refine cx_seq ?_
          refine cx_region ?_
          try dsimp only [List.nil_append, List.cons_append, List.set_cons_zero, List.set_cons_succ]
          refine ox_y rfl (y_assign_int rfl) ?_
          refine ox_nil ?_
          refine ex_then ?_
          refine cx_ret ?_
          obtain rfl := Option.some.inj h
          exact ex_res1 (.inl rfl) rfl (resV_tmp (v := .int .i64 0) rfl) (fun W2 hW2 => ⟨rfl, hW2.none⟩)

/-! calx/calxref02.CheckEnds -/
set_option maxRecDepth 100000 in
theorem calxref02_CheckEnds_ok (p0 : TFire) (p1 : TSpot) (p2 : TBounds) (res : Int) (h : calxref02_CheckEnds p0 p1 p2 = some res) (W : World) (A0_4 : Option Addr) (n0_4 c0_4 : Nat) (hn0_4 : n0_4 = p0.fLooks.length) (hr0_4 : Rd W A0_4 n0_4 c0_4 (encL TLook_cells p0.fLooks)) :
    Calls Tryz.prog 13 [.agg #[.int .i64 p0.fRise, .int .i64 p0.fFall, .int .i64 p0.fUp, .int .i64 p0.fDown, .slice A0_4 n0_4 c0_4], .agg #[.int .i64 p1.fFoot, .int .i64 p1.fHour], .agg #[.int .i64 p2.fSpan.fLo, .int .i64 p2.fSpan.fHi, .int .i64 p2.fLow, .int .i64 p2.fHigh]].toArray W fun e W2 => e = .returned (.int .i64 res) ∧ Ext W W2 [] := by
  subst hn0_4
  unfold calxref02_CheckEnds at h
  refine calls_enter (m := 67) Tryz.func13 rfl rfl (Nat.le_of_ble_eq_true rfl) ?_
  refine cx_seq ?_
  refine cx_region ?_
  refine ox_box [.int .i64 p0.fRise, .int .i64 p0.fFall, .int .i64 p0.fUp, .int .i64 p0.fDown, .slice A0_4 p0.fLooks.length c0_4] rfl rfl rfl (fun b1 => ?_)
  refine ox_box [.int .i64 p1.fFoot, .int .i64 p1.fHour] rfl rfl rfl (fun b2 => ?_)
  refine ox_box [.int .i64 p2.fSpan.fLo, .int .i64 p2.fSpan.fHi, .int .i64 p2.fLow, .int .i64 p2.fHigh] rfl rfl rfl (fun b3 => ?_)
  refine ox_y rfl (y_assign_int rfl) ?_
  refine ox_nil ?_
  refine ex_then ?_
  refine cx_seq ?_
  refine cx_region ?_
  refine ox_y rfl (y_loadN 0 [.int .i64 p0.fRise, .int .i64 p0.fFall, .int .i64 p0.fUp, .int .i64 p0.fDown, .slice A0_4 p0.fLooks.length c0_4] ag_24 rfl rfl rfl) ?_
  refine ox_y rfl (y_loadN 1 [.int .i64 p1.fFoot, .int .i64 p1.fHour] ag_26 rfl rfl rfl) ?_
  refine ox_buildSliceE 1 (encL TSpot_cells [p1]) _ mc_26_1 us_50 ze_26 by_26 (by decide) (by decide) (by kernel_rfl) (encL_len TSpot_cells_len rfl) rfl (fun b4 => ?_)
  obtain ⟨y5, hy6, h⟩ := bind_some h
  refine ox_y rfl (y_call [.agg #[.int .i64 p0.fRise, .int .i64 p0.fFall, .int .i64 p0.fUp, .int .i64 p0.fDown, .slice A0_4 p0.fLooks.length c0_4], .slice (some ⟨b4, 0, none⟩) 1 1] go_40 rfl (fun W2 hW2 => calxref02_asked_ok p0 [p1] y5 hy6 W2 A0_4 p0.fLooks.length c0_4 rfl ((RdL.arg hr0_4) W2 hW2) (some ⟨b4, 0, none⟩) 1 1 rfl ((RdL.row 3 rfl) W2 hW2)) rfl) ?_
  refine ox_y rfl (y_assign_int rfl) ?_
  refine ox_nil ?_
  refine ex_then ?_
  refine cx_seq ?_
  refine cx_seq ?_
  refine cx_region ?_
  refine ox_y rfl (y_move_int rfl) ?_
  refine ox_y rfl (y_neq rfl rfl) ?_
  refine ox_nil ?_
  refine ex_then ?_
  rcases ite_some h with ⟨hp7, h⟩ | ⟨hp7, h⟩
  · refine cx_true (congrArg Value.bool hp7) ?_
    refine cx_seq ?_
    refine cx_region ?_
    refine ox_y rfl (y_move_int rfl) ?_
    refine ox_y rfl (y_assign_int rfl) ?_
    refine ox_nil ?_
    refine ex_then ?_
    refine cx_ret ?_
    refine ex_then_ret ?_
    obtain rfl := Option.some.inj h
    exact ex_res1 (.inl rfl) rfl (resV_tmp (v := .int .i64 y5) rfl) (fun W2 hW2 => ⟨rfl, hW2.none⟩)
  · refine cx_false (congrArg Value.bool hp7) ?_
    refine cx_skip ?_
    refine ex_then ?_
    refine cx_seq ?_
    refine cx_region ?_
    refine ox_y rfl (y_loadN 0 [.int .i64 p0.fRise, .int .i64 p0.fFall, .int .i64 p0.fUp, .int .i64 p0.fDown, .slice A0_4 p0.fLooks.length c0_4] ag_24 rfl rfl rfl) ?_
    refine ox_y rfl (y_loadN 1 [.int .i64 p1.fFoot, .int .i64 p1.fHour] ag_26 rfl rfl rfl) ?_
    obtain ⟨y8, hy9, h⟩ := bind_some h
    refine ox_y rfl (y_call [.agg #[.int .i64 p0.fRise, .int .i64 p0.fFall, .int .i64 p0.fUp, .int .i64 p0.fDown, .slice A0_4 p0.fLooks.length c0_4], .agg #[.int .i64 p1.fFoot, .int .i64 p1.fHour]] go_45 rfl (fun W2 hW2 => calxref02_ends_ok p0 p1 y8 hy9 W2 A0_4 p0.fLooks.length c0_4 rfl ((RdL.arg hr0_4) W2 hW2)) rfl) ?_
    refine ox_alloc ze_28 rfl (fun b10 => ?_)
    refine ox_n rfl (y_storeN 4 [.int .i64 y8.fLo, .int .i64 y8.fHi] sz_28 rfl (Nat.le_of_ble_eq_true rfl) rfl rfl rfl) ?_
    refine ox_nil ?_
    refine ex_then ?_
    refine cx_seq ?_
    refine cx_region ?_
    refine ox_y rfl (y_loadN 0 [.int .i64 p0.fRise, .int .i64 p0.fFall, .int .i64 p0.fUp, .int .i64 p0.fDown, .slice A0_4 p0.fLooks.length c0_4] ag_24 rfl rfl rfl) ?_
    refine ox_y rfl (y_loadN 1 [.int .i64 p1.fFoot, .int .i64 p1.fHour] ag_26 rfl rfl rfl) ?_
    refine ox_y rfl (y_fieldAddr fo_30_1 rfl) ?_
    refine ox_y rfl (y_load1 2 (v := .int .i64 p2.fLow) sc_3 rfl rfl rfl) ?_
    refine ox_y rfl (y_fieldAddr fo_28_0 rfl) ?_
    refine ox_y rfl (y_load1 4 (v := .int .i64 y8.fLo) sc_3 rfl rfl rfl) ?_
    obtain ⟨y11, hy12, h⟩ := bind_some h
    refine ox_y rfl (y_call [.agg #[.int .i64 p0.fRise, .int .i64 p0.fFall, .int .i64 p0.fUp, .int .i64 p0.fDown, .slice A0_4 p0.fLooks.length c0_4], .agg #[.int .i64 p1.fFoot, .int .i64 p1.fHour], .int .i64 p2.fLow, .int .i64 y8.fLo, .bool false] go_52 rfl (fun W2 hW2 => calxref02_shows_ok p0 p1 p2.fLow y8.fLo false y11 hy12 W2 A0_4 p0.fLooks.length c0_4 rfl ((RdL.arg hr0_4) W2 hW2)) rfl) ?_
    refine ox_y rfl (y_assign_bool rfl) ?_
    refine ox_nil ?_
    refine ex_then ?_
    refine cx_seq ?_
    refine cx_region ?_
    refine ox_y rfl (y_loadN 0 [.int .i64 p0.fRise, .int .i64 p0.fFall, .int .i64 p0.fUp, .int .i64 p0.fDown, .slice A0_4 p0.fLooks.length c0_4] ag_24 rfl rfl rfl) ?_
    refine ox_y rfl (y_loadN 1 [.int .i64 p1.fFoot, .int .i64 p1.fHour] ag_26 rfl rfl rfl) ?_
    refine ox_y rfl (y_fieldAddr fo_30_2 rfl) ?_
    refine ox_y rfl (y_load1 2 (v := .int .i64 p2.fHigh) sc_3 rfl rfl rfl) ?_
    refine ox_y rfl (y_fieldAddr fo_28_1 rfl) ?_
    refine ox_y rfl (y_load1 4 (v := .int .i64 y8.fHi) sc_3 rfl rfl rfl) ?_
    obtain ⟨y13, hy14, h⟩ := bind_some h
    refine ox_y rfl (y_call [.agg #[.int .i64 p0.fRise, .int .i64 p0.fFall, .int .i64 p0.fUp, .int .i64 p0.fDown, .slice A0_4 p0.fLooks.length c0_4], .agg #[.int .i64 p1.fFoot, .int .i64 p1.fHour], .int .i64 p2.fHigh, .int .i64 y8.fHi, .bool true] go_52 rfl (fun W2 hW2 => calxref02_shows_ok p0 p1 p2.fHigh y8.fHi true y13 hy14 W2 A0_4 p0.fLooks.length c0_4 rfl ((RdL.arg hr0_4) W2 hW2)) rfl) ?_
    refine ox_y rfl (y_assign_bool rfl) ?_
    refine ox_nil ?_
    refine ex_then ?_
    refine cx_seq ?_
    refine cx_seq ?_
    refine cx_region ?_
    refine ox_y rfl (y_fieldAddr fo_30_0 rfl) ?_
    refine ox_y rfl (y_loadN 2 [.int .i64 p2.fSpan.fLo, .int .i64 p2.fSpan.fHi] ag_28 rfl rfl rfl) ?_
    refine ox_y rfl (y_loadN 4 [.int .i64 y8.fLo, .int .i64 y8.fHi] ag_28 rfl rfl rfl) ?_
    refine ox_y rfl (y_neqa (b := ((p2.fSpan.fLo == y8.fLo) && (p2.fSpan.fHi == y8.fHi))) eg_28 rfl rfl (fun _ => (eqS2 fl_28 (part1 sc_3 rfl) (part1 sc_3 rfl) (part1 sc_3 rfl) (part1 sc_3 rfl) (run_equalIn_int _ _ _ _ _ _ _ ui_3) (run_equalIn_int _ _ _ _ _ _ _ ui_3)))) ?_
    refine ox_y rfl (y_move_bool rfl) ?_
    refine ox_join 13 (fun tm0 => (upd (upd (upd (upd (upd tm0 5 (.pointer (some ⟨b3, 0, none⟩))) 6 (.int .i64 0)) 8 (.pointer (some ⟨b10, 0, none⟩))) 10 (.bool y13)) 52 (.bool ((!((p2.fSpan.fLo == y8.fLo) && (p2.fSpan.fHi == y8.fHi))) || ((!y11) && ((p2.fLow != 0) || (y8.fLo != 0))))))) (fun tm0 => ?_) (fun key => ?_)
    · refine ox_y rfl (y_move_bool rfl) ?_
      refine ox_join 13 (fun tm0 => (upd (upd tm0 6 (.int .i64 0)) 66 (.bool (((!((p2.fSpan.fLo == y8.fLo) && (p2.fSpan.fHi == y8.fHi))) || ((!y11) && ((p2.fLow != 0) || (y8.fLo != 0)))) || ((!y13) && ((p2.fHigh != 0) || (y8.fHi != 1500))))))) (fun tm0 => ?_) (fun key => ?_)
      · refine ox_nil ?_
        refine ex_then ?_
        rcases ite_some h with ⟨hp17, h⟩ | ⟨hp17, h⟩
        · refine cx_true (congrArg Value.bool hp17) ?_
          refine cx_seq ?_
          refine cx_region ?_
          refine ox_y rfl (y_assign_int rfl) ?_
          refine ox_nil ?_
          refine ex_then ?_
          refine cx_ret ?_
          refine ex_then_ret ?_
          obtain rfl := Option.some.inj h
          exact ex_res1 (.inl rfl) rfl (resV_tmp (v := .int .i64 8) rfl) (fun W2 hW2 => ⟨rfl, hW2.none⟩)
        · refine cx_false (congrArg Value.bool hp17) ?_
          refine cx_skip ?_
          refine ex_then ?_
          refine cx_seq ?_
          refine cx_region ?_
          refine ox_y rfl (y_assign_int rfl) ?_
          refine ox_nil ?_
          refine ex_then ?_
          refine cx_ret ?_
          obtain rfl := Option.some.inj h
          exact ex_res1 (.inl rfl) rfl (resV_tmp (v := .int .i64 0) rfl) (fun W2 hW2 => ⟨rfl, hW2.none⟩)
      · rcases bool_cases ((!((p2.fSpan.fLo == y8.fLo) && (p2.fSpan.fHi == y8.fHi))) || ((!y11) && ((p2.fLow != 0) || (y8.fLo != 0)))) with hp16 | hp16
        · refine ox_skip (sees_f rfl rfl rfl rfl hp16) ?_
          refine ox_skip (sees_f rfl rfl rfl rfl hp16) ?_
          refine ox_skip (sees_f rfl rfl rfl rfl hp16) ?_
          refine ox_skip rfl ?_
          refine ox_skip rfl ?_
          refine ox_skip rfl ?_
          refine ox_skip rfl ?_
          refine ox_skip rfl ?_
          refine ox_skip rfl ?_
          refine ox_skip rfl ?_
          refine ox_skip rfl ?_
          refine ox_skip (sees_f rfl rfl rfl rfl hp16) ?_
          refine ox_y rfl (y_pick_tb (congrArg Value.bool hp16) rfl) ?_
          exact key _ _ (keep (keep rfl rfl) (congrArg Value.bool (or_t hp16)))
        · refine ox_y (sees_t rfl rfl rfl rfl hp16) (y_move_bool rfl) ?_
          refine ox_y (sees_t rfl rfl rfl rfl hp16) (y_not rfl) ?_
          refine ox_y (sees_t rfl rfl rfl rfl hp16) (y_move_bool rfl) ?_
          refine ox_join 9 (fun tm0 => (upd (upd (upd tm0 6 (.int .i64 0)) 53 (.bool ((!((p2.fSpan.fLo == y8.fLo) && (p2.fSpan.fHi == y8.fHi))) || ((!y11) && ((p2.fLow != 0) || (y8.fLo != 0)))))) 65 (.bool ((!y13) && ((p2.fHigh != 0) || (y8.fHi != 1500)))))) (fun tm0 => ?_) (fun key => ?_)
          · refine ox_y rfl (y_pick_fb (congrArg Value.bool hp16) rfl) ?_
            exact key _ _ (keep (keep rfl rfl) (congrArg Value.bool (or_f hp16)))
          · rcases bool_cases (!y13) with hp18 | hp18
            · refine ox_y (sees_t rfl rfl rfl rfl hp18) (y_fieldAddr fo_30_2 rfl) ?_
              refine ox_y (sees_t rfl rfl rfl rfl hp18) (y_load1 2 (v := .int .i64 p2.fHigh) sc_3 rfl rfl rfl) ?_
              refine ox_y (sees_t rfl rfl rfl rfl hp18) (y_neq rfl rfl) ?_
              refine ox_y (sees_t rfl rfl rfl rfl hp18) (y_move_bool rfl) ?_
              refine ox_join 4 (fun tm0 => (upd (upd (upd (upd tm0 6 (.int .i64 0)) 53 (.bool ((!((p2.fSpan.fLo == y8.fLo) && (p2.fSpan.fHi == y8.fHi))) || ((!y11) && ((p2.fLow != 0) || (y8.fLo != 0)))))) 56 (.bool (!y13))) 64 (.bool ((p2.fHigh != 0) || (y8.fHi != 1500))))) (fun tm0 => ?_) (fun key => ?_)
              · refine ox_y (sees_t rfl rfl rfl rfl hp16) (y_pick_tb (congrArg Value.bool hp18) rfl) ?_
                exact key _ _ (keep (keep (keep rfl rfl) rfl) (congrArg Value.bool (and_t hp18)))
              · rcases bool_cases (p2.fHigh != 0) with hp19 | hp19
                · refine ox_skip (sees_f rfl rfl rfl rfl hp19) ?_
                  refine ox_skip (sees_f rfl rfl rfl rfl hp19) ?_
                  refine ox_skip (sees_f rfl rfl rfl rfl hp19) ?_
                  refine ox_y (sees_t rfl rfl rfl rfl hp18) (y_pick_tb (congrArg Value.bool hp19) rfl) ?_
                  exact key _ _ (keep (keep (keep (keep rfl rfl) rfl) rfl) (congrArg Value.bool (or_t hp19)))
                · refine ox_y (sees_t rfl rfl rfl rfl hp19) (y_fieldAddr fo_28_1 rfl) ?_
                  refine ox_y (sees_t rfl rfl rfl rfl hp19) (y_load1 4 (v := .int .i64 y8.fHi) sc_3 rfl rfl rfl) ?_
                  refine ox_y (sees_t rfl rfl rfl rfl hp19) (y_neq rfl rfl) ?_
                  refine ox_y (sees_t rfl rfl rfl rfl hp18) (y_pick_fb (congrArg Value.bool hp19) rfl) ?_
                  exact key _ _ (keep (keep (keep (keep rfl rfl) rfl) rfl) (congrArg Value.bool (or_f hp19)))
            · refine ox_skip (sees_f rfl rfl rfl rfl hp18) ?_
              refine ox_skip (sees_f rfl rfl rfl rfl hp18) ?_
              refine ox_skip (sees_f rfl rfl rfl rfl hp18) ?_
              refine ox_skip (sees_f rfl rfl rfl rfl hp18) ?_
              refine ox_skip rfl ?_
              refine ox_skip rfl ?_
              refine ox_skip rfl ?_
              refine ox_skip (sees_f rfl rfl rfl rfl hp18) ?_
              refine ox_y (sees_t rfl rfl rfl rfl hp16) (y_pick_fb (congrArg Value.bool hp18) rfl) ?_
              exact key _ _ (keep (keep (keep rfl rfl) rfl) (congrArg Value.bool (and_f hp18)))
    · rcases bool_cases (!((p2.fSpan.fLo == y8.fLo) && (p2.fSpan.fHi == y8.fHi))) with hp15 | hp15
      · refine ox_skip (sees_f rfl rfl rfl rfl hp15) ?_
        refine ox_skip (sees_f rfl rfl rfl rfl hp15) ?_
        refine ox_skip (sees_f rfl rfl rfl rfl hp15) ?_
        refine ox_skip rfl ?_
        refine ox_skip rfl ?_
        refine ox_skip rfl ?_
        refine ox_skip rfl ?_
        refine ox_skip rfl ?_
        refine ox_skip rfl ?_
        refine ox_skip rfl ?_
        refine ox_skip rfl ?_
        refine ox_skip (sees_f rfl rfl rfl rfl hp15) ?_
        refine ox_y rfl (y_pick_tb (congrArg Value.bool hp15) rfl) ?_
        exact key _ _ (keep (keep (keep (keep (keep rfl rfl) rfl) rfl) rfl) (congrArg Value.bool (or_t hp15)))
      · refine ox_y (sees_t rfl rfl rfl rfl hp15) (y_move_bool rfl) ?_
        refine ox_y (sees_t rfl rfl rfl rfl hp15) (y_not rfl) ?_
        refine ox_y (sees_t rfl rfl rfl rfl hp15) (y_move_bool rfl) ?_
        refine ox_join 9 (fun tm0 => (upd (upd (upd (upd (upd (upd tm0 5 (.pointer (some ⟨b3, 0, none⟩))) 6 (.int .i64 0)) 8 (.pointer (some ⟨b10, 0, none⟩))) 10 (.bool y13)) 39 (.bool (!((p2.fSpan.fLo == y8.fLo) && (p2.fSpan.fHi == y8.fHi))))) 51 (.bool ((!y11) && ((p2.fLow != 0) || (y8.fLo != 0)))))) (fun tm0 => ?_) (fun key => ?_)
        · refine ox_y rfl (y_pick_fb (congrArg Value.bool hp15) rfl) ?_
          exact key _ _ (keep (keep (keep (keep (keep rfl rfl) rfl) rfl) rfl) (congrArg Value.bool (or_f hp15)))
        · rcases bool_cases (!y11) with hp20 | hp20
          · refine ox_y (sees_t rfl rfl rfl rfl hp20) (y_fieldAddr fo_30_1 rfl) ?_
            refine ox_y (sees_t rfl rfl rfl rfl hp20) (y_load1 2 (v := .int .i64 p2.fLow) sc_3 rfl rfl rfl) ?_
            refine ox_y (sees_t rfl rfl rfl rfl hp20) (y_neq rfl rfl) ?_
            refine ox_y (sees_t rfl rfl rfl rfl hp20) (y_move_bool rfl) ?_
            refine ox_join 4 (fun tm0 => (upd (upd (upd (upd (upd (upd (upd tm0 5 (.pointer (some ⟨b3, 0, none⟩))) 6 (.int .i64 0)) 8 (.pointer (some ⟨b10, 0, none⟩))) 10 (.bool y13)) 39 (.bool (!((p2.fSpan.fLo == y8.fLo) && (p2.fSpan.fHi == y8.fHi))))) 42 (.bool (!y11))) 50 (.bool ((p2.fLow != 0) || (y8.fLo != 0))))) (fun tm0 => ?_) (fun key => ?_)
            · refine ox_y (sees_t rfl rfl rfl rfl hp15) (y_pick_tb (congrArg Value.bool hp20) rfl) ?_
              exact key _ _ (keep (keep (keep (keep (keep (keep rfl rfl) rfl) rfl) rfl) rfl) (congrArg Value.bool (and_t hp20)))
            · rcases bool_cases (p2.fLow != 0) with hp21 | hp21
              · refine ox_skip (sees_f rfl rfl rfl rfl hp21) ?_
                refine ox_skip (sees_f rfl rfl rfl rfl hp21) ?_
                refine ox_skip (sees_f rfl rfl rfl rfl hp21) ?_
                refine ox_y (sees_t rfl rfl rfl rfl hp20) (y_pick_tb (congrArg Value.bool hp21) rfl) ?_
                exact key _ _ (keep (keep (keep (keep (keep (keep (keep rfl rfl) rfl) rfl) rfl) rfl) rfl) (congrArg Value.bool (or_t hp21)))
              · refine ox_y (sees_t rfl rfl rfl rfl hp21) (y_fieldAddr fo_28_0 rfl) ?_
                refine ox_y (sees_t rfl rfl rfl rfl hp21) (y_load1 4 (v := .int .i64 y8.fLo) sc_3 rfl rfl rfl) ?_
                refine ox_y (sees_t rfl rfl rfl rfl hp21) (y_neq rfl rfl) ?_
                refine ox_y (sees_t rfl rfl rfl rfl hp20) (y_pick_fb (congrArg Value.bool hp21) rfl) ?_
                exact key _ _ (keep (keep (keep (keep (keep (keep (keep rfl rfl) rfl) rfl) rfl) rfl) rfl) (congrArg Value.bool (or_f hp21)))
          · refine ox_skip (sees_f rfl rfl rfl rfl hp20) ?_
            refine ox_skip (sees_f rfl rfl rfl rfl hp20) ?_
            refine ox_skip (sees_f rfl rfl rfl rfl hp20) ?_
            refine ox_skip (sees_f rfl rfl rfl rfl hp20) ?_
            refine ox_skip rfl ?_
            refine ox_skip rfl ?_
            refine ox_skip rfl ?_
            refine ox_skip (sees_f rfl rfl rfl rfl hp20) ?_
            refine ox_y (sees_t rfl rfl rfl rfl hp15) (y_pick_fb (congrArg Value.bool hp20) rfl) ?_
            exact key _ _ (keep (keep (keep (keep (keep (keep rfl rfl) rfl) rfl) rfl) rfl) (congrArg Value.bool (and_f hp20)))

/-! calx/calxlaw02.FireEnds -/
set_option maxRecDepth 100000 in
theorem calxlaw02_FireEnds_ok (p0 : TFire) (p1 : TSpot) (p2 : TBounds) (res : Bool) (h : calxlaw02_FireEnds p0 p1 p2 = some res) (W : World) (A0_4 : Option Addr) (n0_4 c0_4 : Nat) (hn0_4 : n0_4 = p0.fLooks.length) (hr0_4 : Rd W A0_4 n0_4 c0_4 (encL TLook_cells p0.fLooks)) :
    Calls Tryz.prog 3 [.agg #[.int .i64 p0.fRise, .int .i64 p0.fFall, .int .i64 p0.fUp, .int .i64 p0.fDown, .slice A0_4 n0_4 c0_4], .agg #[.int .i64 p1.fFoot, .int .i64 p1.fHour], .agg #[.int .i64 p2.fSpan.fLo, .int .i64 p2.fSpan.fHi, .int .i64 p2.fLow, .int .i64 p2.fHigh]].toArray W fun e W2 => e = .returned (.bool res) ∧ Ext W W2 [] := by
  subst hn0_4
  unfold calxlaw02_FireEnds at h
  refine calls_enter (m := 71) Tryz.func3 rfl rfl (Nat.le_of_ble_eq_true rfl) ?_
  refine cx_seq ?_
  refine cx_region ?_
  refine ox_box [.int .i64 p0.fRise, .int .i64 p0.fFall, .int .i64 p0.fUp, .int .i64 p0.fDown, .slice A0_4 p0.fLooks.length c0_4] rfl rfl rfl (fun b1 => ?_)
  refine ox_box [.int .i64 p1.fFoot, .int .i64 p1.fHour] rfl rfl rfl (fun b2 => ?_)
  refine ox_box [.int .i64 p2.fSpan.fLo, .int .i64 p2.fSpan.fHi, .int .i64 p2.fLow, .int .i64 p2.fHigh] rfl rfl rfl (fun b3 => ?_)
  refine ox_y rfl (y_assign_bool rfl) ?_
  refine ox_nil ?_
  refine ex_then ?_
  refine cx_seq ?_
  refine cx_seq ?_
  refine cx_region ?_
  refine ox_y rfl (y_loadN 0 [.int .i64 p0.fRise, .int .i64 p0.fFall, .int .i64 p0.fUp, .int .i64 p0.fDown, .slice A0_4 p0.fLooks.length c0_4] ag_24 rfl rfl rfl) ?_
  obtain ⟨y4, hy5, h⟩ := bind_some h
  refine ox_y rfl (y_call [.agg #[.int .i64 p0.fRise, .int .i64 p0.fFall, .int .i64 p0.fUp, .int .i64 p0.fDown, .slice A0_4 p0.fLooks.length c0_4]] go_6 rfl (fun W2 hW2 => calxlaw02_few_ok p0 y4 hy5 W2 A0_4 p0.fLooks.length c0_4 rfl ((RdL.arg hr0_4) W2 hW2)) rfl) ?_
  refine ox_y rfl (y_not rfl) ?_
  refine ox_nil ?_
  refine ex_then ?_
  rcases ite_some h with ⟨hp6, h⟩ | ⟨hp6, h⟩
  · refine cx_true (congrArg Value.bool hp6) ?_
    refine cx_seq ?_
    refine cx_region ?_
    obtain ⟨y7, hy8, h⟩ := bind_some h
    refine ox_y rfl (y_call [] go_7 rfl (fun W2 hW2 => calxlaw02_sanity_ok  y7 hy8 W2 ) rfl) ?_
    refine ox_y rfl (y_assign_bool rfl) ?_
    refine ox_nil ?_
    refine ex_then ?_
    refine cx_ret ?_
    refine ex_then_ret ?_
    obtain rfl := Option.some.inj h
    exact ex_res1 (.inl rfl) rfl (resV_tmp (v := .bool y7) rfl) (fun W2 hW2 => ⟨rfl, hW2.none⟩)
  · refine cx_false (congrArg Value.bool hp6) ?_
    refine cx_skip ?_
    refine ex_then ?_
    refine cx_seq ?_
    refine cx_region ?_
    refine ox_y rfl (y_loadN 0 [.int .i64 p0.fRise, .int .i64 p0.fFall, .int .i64 p0.fUp, .int .i64 p0.fDown, .slice A0_4 p0.fLooks.length c0_4] ag_24 rfl rfl rfl) ?_
    refine ox_y rfl (y_loadN 1 [.int .i64 p1.fFoot, .int .i64 p1.fHour] ag_26 rfl rfl rfl) ?_
    obtain ⟨y9, hy10, h⟩ := bind_some h
    refine ox_y rfl (y_call [.agg #[.int .i64 p0.fRise, .int .i64 p0.fFall, .int .i64 p0.fUp, .int .i64 p0.fDown, .slice A0_4 p0.fLooks.length c0_4], .agg #[.int .i64 p1.fFoot, .int .i64 p1.fHour]] go_8 rfl (fun W2 hW2 => fire_Ends_ok p0 p1 y9 hy10 W2 A0_4 p0.fLooks.length c0_4 rfl ((RdL.arg hr0_4) W2 hW2)) rfl) ?_
    refine ox_y rfl (y_move_tuple rfl) ?_
    refine ox_y rfl (y_extract (vs := [.agg #[.int .i64 y9.1.fSpan.fLo, .int .i64 y9.1.fSpan.fHi, .int .i64 y9.1.fLow, .int .i64 y9.1.fHigh], .int .i64 y9.2]) (v := .agg #[.int .i64 y9.1.fSpan.fLo, .int .i64 y9.1.fSpan.fHi, .int .i64 y9.1.fLow, .int .i64 y9.1.fHigh]) rfl rfl) ?_
    refine ox_y rfl (y_extract (vs := [.agg #[.int .i64 y9.1.fSpan.fLo, .int .i64 y9.1.fSpan.fHi, .int .i64 y9.1.fLow, .int .i64 y9.1.fHigh], .int .i64 y9.2]) (v := .int .i64 y9.2) rfl rfl) ?_
    refine ox_alloc ze_30 rfl (fun b11 => ?_)
    refine ox_n rfl (y_storeN 3 [.int .i64 y9.1.fSpan.fLo, .int .i64 y9.1.fSpan.fHi, .int .i64 y9.1.fLow, .int .i64 y9.1.fHigh] sz_30 rfl (Nat.le_of_ble_eq_true rfl) rfl rfl rfl) ?_
    refine ox_y rfl (y_assign_int rfl) ?_
    refine ox_nil ?_
    refine ex_then ?_
    refine cx_seq ?_
    refine cx_region ?_
    refine ox_y rfl (y_loadN 0 [.int .i64 p0.fRise, .int .i64 p0.fFall, .int .i64 p0.fUp, .int .i64 p0.fDown, .slice A0_4 p0.fLooks.length c0_4] ag_24 rfl rfl rfl) ?_
    refine ox_y rfl (y_loadN 1 [.int .i64 p1.fFoot, .int .i64 p1.fHour] ag_26 rfl rfl rfl) ?_
    obtain ⟨y12, hy13, h⟩ := bind_some h
    refine ox_y rfl (y_call [.agg #[.int .i64 p0.fRise, .int .i64 p0.fFall, .int .i64 p0.fUp, .int .i64 p0.fDown, .slice A0_4 p0.fLooks.length c0_4], .agg #[.int .i64 p1.fFoot, .int .i64 p1.fHour]] go_9 rfl (fun W2 hW2 => calxref02_Ends_ok p0 p1 y12 hy13 W2 A0_4 p0.fLooks.length c0_4 rfl ((RdL.arg hr0_4) W2 hW2)) rfl) ?_
    refine ox_alloc ze_37 rfl (fun b14 => ?_)
    refine ox_n rfl (y_storeN 4 [.int .i64 y12.fB.fSpan.fLo, .int .i64 y12.fB.fSpan.fHi, .int .i64 y12.fB.fLow, .int .i64 y12.fB.fHigh, .int .i64 y12.fE] sz_37 rfl (Nat.le_of_ble_eq_true rfl) rfl rfl rfl) ?_
    refine ox_nil ?_
    refine ex_then ?_
    refine cx_seq ?_
    refine cx_region ?_
    refine ox_y rfl (y_loadN 0 [.int .i64 p0.fRise, .int .i64 p0.fFall, .int .i64 p0.fUp, .int .i64 p0.fDown, .slice A0_4 p0.fLooks.length c0_4] ag_24 rfl rfl rfl) ?_
    refine ox_y rfl (y_loadN 1 [.int .i64 p1.fFoot, .int .i64 p1.fHour] ag_26 rfl rfl rfl) ?_
    obtain ⟨y15, hy16, h⟩ := bind_some h
    refine ox_call [.agg #[.int .i64 p0.fRise, .int .i64 p0.fFall, .int .i64 p0.fUp, .int .i64 p0.fDown, .slice A0_4 p0.fLooks.length c0_4], .agg #[.int .i64 p1.fFoot, .int .i64 p1.fHour]] _ _ _ rfl go_10 rfl (fun W2 hW2 => fire_Rests_ok p0 p1 y15 hy16 W2 A0_4 p0.fLooks.length c0_4 rfl ((RdL.arg hr0_4) W2 hW2)) ?_
    rintro ⟨A17, n19, c18⟩ hn20
    replace hn20 : n19 = y15.1.length := hn20; subst hn20
    try dsimp only [List.nil_append, List.cons_append, List.set_cons_zero, List.set_cons_succ]
    refine ox_y rfl (y_move_tuple rfl) ?_
    refine ox_y rfl (y_extract (vs := [.slice A17 y15.1.length c18, .int .i64 y15.2]) (v := .slice A17 y15.1.length c18) rfl rfl) ?_
    refine ox_y rfl (y_extract (vs := [.slice A17 y15.1.length c18, .int .i64 y15.2]) (v := .int .i64 y15.2) rfl rfl) ?_
    refine ox_y rfl (y_assign_slice rfl) ?_
    refine ox_y rfl (y_assign_int rfl) ?_
    refine ox_nil ?_
    refine ex_then ?_
    refine cx_seq ?_
    refine cx_region ?_
    refine ox_y rfl (y_loadN 0 [.int .i64 p0.fRise, .int .i64 p0.fFall, .int .i64 p0.fUp, .int .i64 p0.fDown, .slice A0_4 p0.fLooks.length c0_4] ag_24 rfl rfl rfl) ?_
    refine ox_y rfl (y_loadN 1 [.int .i64 p1.fFoot, .int .i64 p1.fHour] ag_26 rfl rfl rfl) ?_
    obtain ⟨y21, hy22, h⟩ := bind_some h
    refine ox_call [.agg #[.int .i64 p0.fRise, .int .i64 p0.fFall, .int .i64 p0.fUp, .int .i64 p0.fDown, .slice A0_4 p0.fLooks.length c0_4], .agg #[.int .i64 p1.fFoot, .int .i64 p1.fHour]] _ _ _ rfl go_11 rfl (fun W2 hW2 => calxref02_Rests_ok p0 p1 y21 hy22 W2 A0_4 p0.fLooks.length c0_4 rfl ((RdL.arg hr0_4) W2 hW2)) ?_
    rintro ⟨A23, n25, c24⟩ hn26
    replace hn26 : n25 = y21.fL.length := hn26; subst hn26
    try dsimp only [List.nil_append, List.cons_append, List.set_cons_zero, List.set_cons_succ]
    refine ox_alloc ze_43 rfl (fun b27 => ?_)
    try dsimp only [List.nil_append, List.cons_append, List.set_cons_zero, List.set_cons_succ]
    refine ox_n rfl (y_storeN 7 [.slice A23 y21.fL.length c24, .int .i64 y21.fE] sz_43 rfl (Nat.le_of_ble_eq_true rfl) rfl rfl rfl) ?_
    refine ox_nil ?_
    refine ex_then ?_
    refine cx_seq ?_
    refine cx_draws 37 mixed (by kernel_rfl) (by kernel_rfl) ?_
    obtain ⟨y28, hy29, h⟩ := bind_some h
    refine qx_y rfl (y_call [] go_7 rfl (fun W2 hW2 => calxlaw02_sanity_ok  y28 hy29 W2 ) rfl) ?_
    refine qx_y rfl (y_move_bool rfl) ?_
    refine qx_join 5 (fun tm0 => (upd (upd (upd (upd (upd (upd (upd (upd (upd (upd tm0 3 (.pointer (some ⟨b1, 0, none⟩))) 4 (.pointer (some ⟨b2, 0, none⟩))) 5 (.pointer (some ⟨b3, 0, none⟩))) 6 (.bool false)) 8 (.int .i64 y9.2)) 9 (.pointer (some ⟨b14, 0, none⟩))) 10 (.slice A17 y15.1.length c18)) 11 (.int .i64 y15.2)) 12 (.pointer (some ⟨b27, 0, none⟩))) 41 (.bool (y28 && (((y9.1.fSpan.fLo == y12.fB.fSpan.fLo) && (y9.1.fSpan.fHi == y12.fB.fSpan.fHi)) && ((y9.1.fLow == y12.fB.fLow) && (y9.1.fHigh == y12.fB.fHigh))))))) (fun tm0 => ?_) (fun key => ?_)
    · refine qx_y rfl (y_move_bool rfl) ?_
      refine qx_join 5 (fun tm0 => (upd (upd (upd (upd (upd (upd (upd (upd tm0 3 (.pointer (some ⟨b1, 0, none⟩))) 4 (.pointer (some ⟨b2, 0, none⟩))) 5 (.pointer (some ⟨b3, 0, none⟩))) 6 (.bool false)) 10 (.slice A17 y15.1.length c18)) 11 (.int .i64 y15.2)) 12 (.pointer (some ⟨b27, 0, none⟩))) 47 (.bool ((y28 && (((y9.1.fSpan.fLo == y12.fB.fSpan.fLo) && (y9.1.fSpan.fHi == y12.fB.fSpan.fHi)) && ((y9.1.fLow == y12.fB.fLow) && (y9.1.fHigh == y12.fB.fHigh)))) && (y9.2 == y12.fE))))) (fun tm0 => ?_) (fun key => ?_)
      · refine qx_y rfl (y_move_bool rfl) ?_
        obtain ⟨b33, hb34, h⟩ := bind_some h
        refine qx_join 10 (fun tm0 => (upd (upd (upd (upd (upd tm0 6 (.bool false)) 10 (.slice A17 y15.1.length c18)) 11 (.int .i64 y15.2)) 12 (.pointer (some ⟨b27, 0, none⟩))) 58 (.bool b33))) (fun tm0 => ?_) (fun key => ?_)
        · refine qx_y rfl (y_move_bool rfl) ?_
          obtain ⟨b36, hb37, h⟩ := bind_some h
          refine qx_join 5 (fun tm0 => (upd (upd (upd (upd tm0 6 (.bool false)) 11 (.int .i64 y15.2)) 12 (.pointer (some ⟨b27, 0, none⟩))) 64 (.bool b36))) (fun tm0 => ?_) (fun key => ?_)
          · refine qx_y rfl (y_move_bool rfl) ?_
            refine qx_join 5 (fun tm0 => (upd (upd tm0 6 (.bool false)) 70 (.bool (b36 && (y15.2 == y21.fE))))) (fun tm0 => ?_) (fun key => ?_)
            · refine qx_y rfl (y_assign_bool rfl) ?_
              refine qx_nil ?_
              refine ox_nil ?_
              refine ex_then ?_
              refine cx_ret ?_
              obtain rfl := Option.some.inj h
              exact ex_res1 (.inl rfl) rfl (resV_tmp (v := .bool (b36 && (y15.2 == y21.fE))) rfl) (fun W2 hW2 => ⟨rfl, hW2.none⟩)
            · rcases bool_cases b36 with hp38 | hp38
              · refine qx_y (sees_t rfl rfl rfl rfl hp38) (y_move_int rfl) ?_
                refine qx_y (sees_t rfl rfl rfl rfl hp38) (y_fieldAddr fo_43_1 rfl) ?_
                refine qx_y (sees_t rfl rfl rfl rfl hp38) (y_load1 7 (v := .int .i64 y21.fE) sc_33 rfl rfl rfl) ?_
                refine qx_y (sees_t rfl rfl rfl rfl hp38) (y_eql rfl rfl) ?_
                refine qx_y rfl (y_pick_tb (congrArg Value.bool hp38) rfl) ?_
                exact key _ _ (keep (keep rfl rfl) (congrArg Value.bool (and_t hp38)))
              · refine qx_skip (sees_f rfl rfl rfl rfl hp38) ?_
                refine qx_skip (sees_f rfl rfl rfl rfl hp38) ?_
                refine qx_skip (sees_f rfl rfl rfl rfl hp38) ?_
                refine qx_skip (sees_f rfl rfl rfl rfl hp38) ?_
                refine qx_y rfl (y_pick_fb (congrArg Value.bool hp38) rfl) ?_
                exact key _ _ (keep (keep rfl rfl) (congrArg Value.bool (and_f hp38)))
          · clear h; rcases ite_some hb37 with ⟨hp35, h⟩ | ⟨hp35, h⟩
            · refine qx_y (sees_t rfl rfl rfl rfl hp35) (y_move_slice rfl) ?_
              refine qx_y (sees_t rfl rfl rfl rfl hp35) (y_fieldAddr fo_43_0 rfl) ?_
              refine qx_y (sees_t rfl rfl rfl rfl hp35) (y_load1 7 (v := .slice A23 y21.fL.length c24) sc_39 rfl rfl rfl) ?_
              obtain ⟨y39, hy40, h⟩ := bind_some h
              refine qx_y (sees_t rfl rfl rfl rfl hp35) (y_call [.slice A17 y15.1.length c18, .slice A23 y21.fL.length c24] go_14 rfl (fun W2 hW2 => calxref02_SameInts_ok y15.1 y21.fL y39 hy40 W2 A17 y15.1.length c18 rfl ((RdL.row 5 rfl) W2 hW2) A23 y21.fL.length c24 rfl ((RdL.row 6 rfl) W2 hW2)) rfl) ?_
              refine qx_y rfl (y_pick_tb (congrArg Value.bool hp35) rfl) ?_
              obtain rfl := Option.some.inj h
              exact key _ _ (keep (keep (keep (keep rfl rfl) rfl) rfl) rfl)
            · refine qx_skip (sees_f rfl rfl rfl rfl hp35) ?_
              refine qx_skip (sees_f rfl rfl rfl rfl hp35) ?_
              refine qx_skip (sees_f rfl rfl rfl rfl hp35) ?_
              refine qx_skip (sees_f rfl rfl rfl rfl hp35) ?_
              refine qx_y rfl (y_pick_fb (congrArg Value.bool hp35) rfl) ?_
              obtain rfl := Option.some.inj h
              exact key _ _ (keep (keep (keep (keep rfl rfl) rfl) rfl) rfl)
        · clear h; rcases ite_some hb34 with ⟨hp32, h⟩ | ⟨hp32, h⟩
          · refine qx_y (sees_t rfl rfl rfl rfl hp32) (y_loadN 0 [.int .i64 p0.fRise, .int .i64 p0.fFall, .int .i64 p0.fUp, .int .i64 p0.fDown, .slice A0_4 p0.fLooks.length c0_4] ag_24 rfl rfl rfl) ?_
            refine qx_y (sees_t rfl rfl rfl rfl hp32) (y_loadN 1 [.int .i64 p1.fFoot, .int .i64 p1.fHour] ag_26 rfl rfl rfl) ?_
            refine qx_y (sees_t rfl rfl rfl rfl hp32) (y_loadN 2 [.int .i64 p2.fSpan.fLo, .int .i64 p2.fSpan.fHi, .int .i64 p2.fLow, .int .i64 p2.fHigh] ag_30 rfl rfl rfl) ?_
            obtain ⟨y41, hy42, h⟩ := bind_some h
            refine qx_y (sees_t rfl rfl rfl rfl hp32) (y_call [.agg #[.int .i64 p0.fRise, .int .i64 p0.fFall, .int .i64 p0.fUp, .int .i64 p0.fDown, .slice A0_4 p0.fLooks.length c0_4], .agg #[.int .i64 p1.fFoot, .int .i64 p1.fHour], .agg #[.int .i64 p2.fSpan.fLo, .int .i64 p2.fSpan.fHi, .int .i64 p2.fLow, .int .i64 p2.fHigh]] go_12 rfl (fun W2 hW2 => fire_CheckEnds_ok p0 p1 p2 y41 hy42 W2 A0_4 p0.fLooks.length c0_4 rfl ((RdL.arg hr0_4) W2 hW2)) rfl) ?_
            refine qx_y (sees_t rfl rfl rfl rfl hp32) (y_loadN 0 [.int .i64 p0.fRise, .int .i64 p0.fFall, .int .i64 p0.fUp, .int .i64 p0.fDown, .slice A0_4 p0.fLooks.length c0_4] ag_24 rfl rfl rfl) ?_
            refine qx_y (sees_t rfl rfl rfl rfl hp32) (y_loadN 1 [.int .i64 p1.fFoot, .int .i64 p1.fHour] ag_26 rfl rfl rfl) ?_
            refine qx_y (sees_t rfl rfl rfl rfl hp32) (y_loadN 2 [.int .i64 p2.fSpan.fLo, .int .i64 p2.fSpan.fHi, .int .i64 p2.fLow, .int .i64 p2.fHigh] ag_30 rfl rfl rfl) ?_
            obtain ⟨y43, hy44, h⟩ := bind_some h
            refine qx_y (sees_t rfl rfl rfl rfl hp32) (y_call [.agg #[.int .i64 p0.fRise, .int .i64 p0.fFall, .int .i64 p0.fUp, .int .i64 p0.fDown, .slice A0_4 p0.fLooks.length c0_4], .agg #[.int .i64 p1.fFoot, .int .i64 p1.fHour], .agg #[.int .i64 p2.fSpan.fLo, .int .i64 p2.fSpan.fHi, .int .i64 p2.fLow, .int .i64 p2.fHigh]] go_13 rfl (fun W2 hW2 => calxref02_CheckEnds_ok p0 p1 p2 y43 hy44 W2 A0_4 p0.fLooks.length c0_4 rfl ((RdL.arg hr0_4) W2 hW2)) rfl) ?_
            refine qx_y (sees_t rfl rfl rfl rfl hp32) (y_eql rfl rfl) ?_
            refine qx_y rfl (y_pick_tb (congrArg Value.bool hp32) rfl) ?_
            obtain rfl := Option.some.inj h
            exact key _ _ (keep (keep (keep (keep (keep rfl rfl) rfl) rfl) rfl) rfl)
          · refine qx_skip (sees_f rfl rfl rfl rfl hp32) ?_
            refine qx_skip (sees_f rfl rfl rfl rfl hp32) ?_
            refine qx_skip (sees_f rfl rfl rfl rfl hp32) ?_
            refine qx_skip (sees_f rfl rfl rfl rfl hp32) ?_
            refine qx_skip (sees_f rfl rfl rfl rfl hp32) ?_
            refine qx_skip (sees_f rfl rfl rfl rfl hp32) ?_
            refine qx_skip (sees_f rfl rfl rfl rfl hp32) ?_
            refine qx_skip (sees_f rfl rfl rfl rfl hp32) ?_
            refine qx_skip (sees_f rfl rfl rfl rfl hp32) ?_
            refine qx_y rfl (y_pick_fb (congrArg Value.bool hp32) rfl) ?_
            obtain rfl := Option.some.inj h
            exact key _ _ (keep (keep (keep (keep (keep rfl rfl) rfl) rfl) rfl) rfl)
      · rcases bool_cases (y28 && (((y9.1.fSpan.fLo == y12.fB.fSpan.fLo) && (y9.1.fSpan.fHi == y12.fB.fSpan.fHi)) && ((y9.1.fLow == y12.fB.fLow) && (y9.1.fHigh == y12.fB.fHigh)))) with hp31 | hp31
        · refine qx_y (sees_t rfl rfl rfl rfl hp31) (y_move_int rfl) ?_
          refine qx_y (sees_t rfl rfl rfl rfl hp31) (y_fieldAddr fo_37_1 rfl) ?_
          refine qx_y (sees_t rfl rfl rfl rfl hp31) (y_load1 4 (v := .int .i64 y12.fE) sc_33 rfl rfl rfl) ?_
          refine qx_y (sees_t rfl rfl rfl rfl hp31) (y_eql rfl rfl) ?_
          refine qx_y rfl (y_pick_tb (congrArg Value.bool hp31) rfl) ?_
          exact key _ _ (keep (keep (keep (keep (keep (keep (keep (keep rfl rfl) rfl) rfl) rfl) rfl) rfl) rfl) (congrArg Value.bool (and_t hp31)))
        · refine qx_skip (sees_f rfl rfl rfl rfl hp31) ?_
          refine qx_skip (sees_f rfl rfl rfl rfl hp31) ?_
          refine qx_skip (sees_f rfl rfl rfl rfl hp31) ?_
          refine qx_skip (sees_f rfl rfl rfl rfl hp31) ?_
          refine qx_y rfl (y_pick_fb (congrArg Value.bool hp31) rfl) ?_
          exact key _ _ (keep (keep (keep (keep (keep (keep (keep (keep rfl rfl) rfl) rfl) rfl) rfl) rfl) rfl) (congrArg Value.bool (and_f hp31)))
    · rcases bool_cases y28 with hp30 | hp30
      · refine qx_y (sees_t rfl rfl rfl rfl hp30) (y_loadN 3 [.int .i64 y9.1.fSpan.fLo, .int .i64 y9.1.fSpan.fHi, .int .i64 y9.1.fLow, .int .i64 y9.1.fHigh] ag_30 rfl rfl rfl) ?_
        refine qx_y (sees_t rfl rfl rfl rfl hp30) (y_fieldAddr fo_37_0 rfl) ?_
        refine qx_y (sees_t rfl rfl rfl rfl hp30) (y_loadN 4 [.int .i64 y12.fB.fSpan.fLo, .int .i64 y12.fB.fSpan.fHi, .int .i64 y12.fB.fLow, .int .i64 y12.fB.fHigh] ag_30 rfl rfl rfl) ?_
        refine qx_y (sees_t rfl rfl rfl rfl hp30) (y_eqla (b := (((y9.1.fSpan.fLo == y12.fB.fSpan.fLo) && (y9.1.fSpan.fHi == y12.fB.fSpan.fHi)) && ((y9.1.fLow == y12.fB.fLow) && (y9.1.fHigh == y12.fB.fHigh)))) eg_30 rfl rfl (fun _ => (eqS3 fl_30 (partN (cs := #[.int .i64 y9.1.fSpan.fLo, .int .i64 y9.1.fSpan.fHi]) ag_28 (by kernel_rfl)) (part1 sc_3 rfl) (part1 sc_3 rfl) (partN (cs := #[.int .i64 y12.fB.fSpan.fLo, .int .i64 y12.fB.fSpan.fHi]) ag_28 (by kernel_rfl)) (part1 sc_3 rfl) (part1 sc_3 rfl) (eqS2 fl_28 (part1 sc_3 rfl) (part1 sc_3 rfl) (part1 sc_3 rfl) (part1 sc_3 rfl) (run_equalIn_int _ _ _ _ _ _ _ ui_3) (run_equalIn_int _ _ _ _ _ _ _ ui_3)) (run_equalIn_int _ _ _ _ _ _ _ ui_3) (run_equalIn_int _ _ _ _ _ _ _ ui_3)))) ?_
        refine qx_y rfl (y_pick_tb (congrArg Value.bool hp30) rfl) ?_
        exact key _ _ (keep (keep (keep (keep (keep (keep (keep (keep (keep (keep rfl rfl) rfl) rfl) rfl) rfl) rfl) rfl) rfl) rfl) (congrArg Value.bool (and_t hp30)))
      · refine qx_skip (sees_f rfl rfl rfl rfl hp30) ?_
        refine qx_skip (sees_f rfl rfl rfl rfl hp30) ?_
        refine qx_skip (sees_f rfl rfl rfl rfl hp30) ?_
        refine qx_skip (sees_f rfl rfl rfl rfl hp30) ?_
        refine qx_y rfl (y_pick_fb (congrArg Value.bool hp30) rfl) ?_
        exact key _ _ (keep (keep (keep (keep (keep (keep (keep (keep (keep (keep rfl rfl) rfl) rfl) rfl) rfl) rfl) rfl) rfl) rfl) (congrArg Value.bool (and_f hp30)))

end Go.Proofs.YtndajeiecdmhnaaGreat
