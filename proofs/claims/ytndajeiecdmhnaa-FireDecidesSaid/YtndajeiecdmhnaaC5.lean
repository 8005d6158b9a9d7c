/- The calls hand back what the plain functions say. -/
import Derived.Test.YtndajeiecdmhnaaF
import Derived.Test.YtndajeiecdmhnaaGy
import Derived.Test.YtndajeiecdmhnaaC2
import Derived.Test.YtndajeiecdmhnaaC3
import Derived.Test.YtndajeiecdmhnaaC4
set_option linter.unusedVariables false
set_option maxHeartbeats 4000000
namespace Go.Proofs.Ytndajeiecdmhnaa
open Go.RowKit (Below)
attribute [local irreducible] OX QX CX EX OpY Calls CallsIn

/-! calx/calxlaw02.sanity -/
set_option maxRecDepth 100000 in
theorem calxlaw02_sanity_ok  (res : Bool) (h : calxlaw02_sanity = some res) (W : World)  :
    Calls Try.prog 13 [].toArray W fun e W2 => e = .returned (.bool res) ∧ Ext W W2 [] := by
  unfold calxlaw02_sanity at h
  refine calls_enter (m := 263) Try.func13 rfl rfl (Nat.le_of_ble_eq_true rfl) ?_
  refine cx_seq ?_
  refine cx_region ?_
  refine ox_y rfl (y_assign_bool rfl) ?_
  refine ox_nil ?_
  refine ex_then ?_
  refine cx_seq ?_
  refine cx_region ?_
  obtain ⟨y1, hy2, h⟩ := bind_some h
  refine ox_call [] _ _ _ rfl go_53 rfl (fun W2 hW2 => calxlaw02_Kiln_ok  y1 hy2 W2 ) ?_
  rintro ⟨A3, n5, c4⟩ hn6
  replace hn6 : n5 = y1.fLooks.length := hn6; subst hn6
  refine ox_alloc ze_24 rfl (fun b7 => ?_)
  refine ox_n rfl (y_storeN 1 [.int .i64 y1.fRise, .int .i64 y1.fFall, .int .i64 y1.fUp, .int .i64 y1.fDown, .slice A3 y1.fLooks.length c4] sz_24 rfl (Nat.le_of_ble_eq_true rfl) rfl rfl rfl) ?_
  refine ox_nil ?_
  refine ex_then ?_
  refine cx_seq ?_
  refine cx_draws 9 mixed (by kernel_rfl) (by kernel_rfl) ?_
  refine qx_y rfl (y_loadN 1 [.int .i64 y1.fRise, .int .i64 y1.fFall, .int .i64 y1.fUp, .int .i64 y1.fDown, .slice A3 y1.fLooks.length c4] ag_24 rfl rfl rfl) ?_
  obtain ⟨y8, hy9, h⟩ := bind_some h
  refine qx_y rfl (y_call [.int .i64 10, .int .i64 5] go_54 rfl (fun W2 hW2 => calxlaw02_at_ok 10 5 y8 hy9 W2 ) rfl) ?_
  obtain ⟨y10, hy11, h⟩ := bind_some h
  refine qx_y rfl (y_call [.int .i64 12, .int .i64 8] go_54 rfl (fun W2 hW2 => calxlaw02_at_ok 12 8 y10 hy11 W2 ) rfl) ?_
  obtain ⟨y12, hy13, h⟩ := bind_some h
  refine qx_y rfl (y_call [.agg #[.int .i64 y1.fRise, .int .i64 y1.fFall, .int .i64 y1.fUp, .int .i64 y1.fDown, .slice A3 y1.fLooks.length c4], .agg #[.int .i64 y8.fFoot, .int .i64 y8.fHour], .agg #[.int .i64 y10.fFoot, .int .i64 y10.fHour]] go_30 rfl (fun W2 hW2 => fire_Far_ok y1 y8 y10 y12 hy13 W2 A3 y1.fLooks.length c4 rfl ((RdL.row 0 rfl) W2 hW2)) rfl) ?_
  refine qx_y rfl (y_move_tuple rfl) ?_
  refine qx_y rfl (y_extract (vs := [.int .i64 y12.1, .int .i64 y12.2]) (v := .int .i64 y12.1) rfl rfl) ?_
  refine qx_y rfl (y_extract (vs := [.int .i64 y12.1, .int .i64 y12.2]) (v := .int .i64 y12.2) rfl rfl) ?_
  refine qx_y rfl (y_assign_int rfl) ?_
  refine qx_y rfl (y_assign_int rfl) ?_
  refine qx_nil ?_
  refine ox_nil ?_
  refine ex_then ?_
  refine cx_seq ?_
  refine cx_draws 9 mixed (by kernel_rfl) (by kernel_rfl) ?_
  refine qx_y rfl (y_loadN 1 [.int .i64 y1.fRise, .int .i64 y1.fFall, .int .i64 y1.fUp, .int .i64 y1.fDown, .slice A3 y1.fLooks.length c4] ag_24 rfl rfl rfl) ?_
  obtain ⟨y14, hy15, h⟩ := bind_some h
  refine qx_y rfl (y_call [.int .i64 12, .int .i64 8] go_54 rfl (fun W2 hW2 => calxlaw02_at_ok 12 8 y14 hy15 W2 ) rfl) ?_
  obtain ⟨y16, hy17, h⟩ := bind_some h
  refine qx_y rfl (y_call [.int .i64 10, .int .i64 5] go_54 rfl (fun W2 hW2 => calxlaw02_at_ok 10 5 y16 hy17 W2 ) rfl) ?_
  obtain ⟨y18, hy19, h⟩ := bind_some h
  refine qx_y rfl (y_call [.agg #[.int .i64 y1.fRise, .int .i64 y1.fFall, .int .i64 y1.fUp, .int .i64 y1.fDown, .slice A3 y1.fLooks.length c4], .agg #[.int .i64 y14.fFoot, .int .i64 y14.fHour], .agg #[.int .i64 y16.fFoot, .int .i64 y16.fHour]] go_30 rfl (fun W2 hW2 => fire_Far_ok y1 y14 y16 y18 hy19 W2 A3 y1.fLooks.length c4 rfl ((RdL.row 0 rfl) W2 hW2)) rfl) ?_
  refine qx_y rfl (y_move_tuple rfl) ?_
  refine qx_y rfl (y_extract (vs := [.int .i64 y18.1, .int .i64 y18.2]) (v := .int .i64 y18.1) rfl rfl) ?_
  refine qx_y rfl (y_extract (vs := [.int .i64 y18.1, .int .i64 y18.2]) (v := .int .i64 y18.2) rfl rfl) ?_
  refine qx_y rfl (y_assign_int rfl) ?_
  refine qx_y rfl (y_assign_int rfl) ?_
  refine qx_nil ?_
  refine ox_nil ?_
  refine ex_then ?_
  refine cx_seq ?_
  refine cx_region ?_
  refine ox_y rfl (y_loadN 1 [.int .i64 y1.fRise, .int .i64 y1.fFall, .int .i64 y1.fUp, .int .i64 y1.fDown, .slice A3 y1.fLooks.length c4] ag_24 rfl rfl rfl) ?_
  obtain ⟨y20, hy21, h⟩ := bind_some h
  refine ox_y rfl (y_call [.agg #[.int .i64 y1.fRise, .int .i64 y1.fFall, .int .i64 y1.fUp, .int .i64 y1.fDown, .slice A3 y1.fLooks.length c4]] go_15 rfl (fun W2 hW2 => fire_Clash_ok y1 y20 hy21 W2 A3 y1.fLooks.length c4 rfl ((RdL.row 0 rfl) W2 hW2)) rfl) ?_
  refine ox_y rfl (y_move_tuple rfl) ?_
  refine ox_y rfl (y_extract (vs := [.int .i64 y20.1, .int .i64 y20.2.1, .bool y20.2.2.1, .int .i64 y20.2.2.2]) (v := .int .i64 y20.1) rfl rfl) ?_
  refine ox_y rfl (y_extract (vs := [.int .i64 y20.1, .int .i64 y20.2.1, .bool y20.2.2.1, .int .i64 y20.2.2.2]) (v := .int .i64 y20.2.1) rfl rfl) ?_
  refine ox_y rfl (y_extract (vs := [.int .i64 y20.1, .int .i64 y20.2.1, .bool y20.2.2.1, .int .i64 y20.2.2.2]) (v := .bool y20.2.2.1) rfl rfl) ?_
  refine ox_y rfl (y_extract (vs := [.int .i64 y20.1, .int .i64 y20.2.1, .bool y20.2.2.1, .int .i64 y20.2.2.2]) (v := .int .i64 y20.2.2.2) rfl rfl) ?_
  refine ox_y rfl (y_assign_int rfl) ?_
  refine ox_y rfl (y_assign_int rfl) ?_
  refine ox_y rfl (y_assign_bool rfl) ?_
  refine ox_y rfl (y_assign_int rfl) ?_
  refine ox_nil ?_
  refine ex_then ?_
  refine cx_seq ?_
  obtain ⟨y23, hy24, h⟩ := bind_some h
  obtain ⟨y25, hy26, h⟩ := bind_some h
  refine cx_drawsG [[], [], [0, 1], [0, 1, 2], [0, 1, 2, 3], [0, 1, 2, 3], [], [0, 1, 2, 3, 4, 6], [0, 1, 2, 3, 4, 5, 6, 7]] [(none, 0, [true, true]), (none, 0, [true, true]), (none, 0, [true, true]), (none, 0, [true, true]), (none, 0, [true, true]), (none, 0, [true, true]), (none, 1, [true, true]), (some 2, 0, [true, true, true]), (none, 0, [true, true, true])] [⟨fun _ => .agg #[.int .i64 y1.fRise, .int .i64 y1.fFall, .int .i64 y1.fUp, .int .i64 y1.fDown, .slice A3 y1.fLooks.length c4], fun _ => noR, fun _ => []⟩, ⟨fun _ => .agg #[.int .i64 y23.fFoot, .int .i64 y23.fHour], fun _ => noR, fun _ => []⟩, ⟨fun _ => .tuple #[.agg #[.int .i64 y25.1.fSpan.fLo, .int .i64 y25.1.fSpan.fHi, .int .i64 y25.1.fLow, .int .i64 y25.1.fHigh], .int .i64 y25.2], fun _ => noR, fun _ => []⟩, ⟨fun _ => .tuple #[.agg #[.int .i64 y25.1.fSpan.fLo, .int .i64 y25.1.fSpan.fHi, .int .i64 y25.1.fLow, .int .i64 y25.1.fHigh], .int .i64 y25.2], fun _ => noR, fun _ => []⟩, ⟨fun _ => .agg #[.int .i64 y25.1.fSpan.fLo, .int .i64 y25.1.fSpan.fHi, .int .i64 y25.1.fLow, .int .i64 y25.1.fHigh], fun _ => noR, fun _ => []⟩, ⟨fun _ => .int .i64 y25.2, fun _ => noR, fun _ => []⟩, ⟨fun ξ22 => .pointer (some ⟨(ξ22 6 0).2.1, 0, none⟩), fun _ => noR, fun ξ22 => [cellsR (ξ22 6 0).2.1 36 [.int .i64 0, .int .i64 0, .int .i64 0, .int .i64 0]]⟩, ⟨fun _ => undef, fun ξ22 => cellsR (ξ22 6 0).2.1 36 [.int .i64 y25.1.fSpan.fLo, .int .i64 y25.1.fSpan.fHi, .int .i64 y25.1.fLow, .int .i64 y25.1.fHigh], fun _ => []⟩, ⟨fun _ => .int .i64 y25.2, fun _ => noR, fun _ => []⟩] 2 mixed (by kernel_rfl) (by kernel_rfl) ⟨⟨fun ξ22 ξ22' h => ⟨rfl, rfl, rfl⟩, fun _ => rfl⟩, ⟨fun ξ22 ξ22' h => ⟨rfl, rfl, rfl⟩, fun _ => rfl⟩, ⟨fun ξ22 ξ22' h => ⟨rfl, rfl, rfl⟩, fun _ => rfl⟩, ⟨fun ξ22 ξ22' h => ⟨rfl, rfl, rfl⟩, fun _ => rfl⟩, ⟨fun ξ22 ξ22' h => ⟨rfl, rfl, rfl⟩, fun _ => rfl⟩, ⟨fun ξ22 ξ22' h => ⟨rfl, rfl, rfl⟩, fun _ => rfl⟩, ⟨fun ξ22 ξ22' h => ⟨by simp only [h 6 (.inl rfl)], rfl, by simp only [h 6 (.inl rfl)]⟩, fun _ => rfl⟩, ⟨fun ξ22 ξ22' h => ⟨rfl, by simp only [h 6 (.inr rfl)], rfl⟩, fun _ => rfl⟩, ⟨fun ξ22 ξ22' h => ⟨rfl, rfl, rfl⟩, fun _ => rfl⟩, trivial⟩ rfl (fun ξ22 => ?_)
  refine gx_o rfl (fun L2 => ?_) ?_
  · dsimp only [maskL, List.cons_append, List.nil_append]
    refine ox_y rfl (y_loadN 1 [.int .i64 y1.fRise, .int .i64 y1.fFall, .int .i64 y1.fUp, .int .i64 y1.fDown, .slice A3 y1.fLooks.length c4] ag_24 rfl rfl rfl) ?_
    refine ox_nil ?_
    exact ex_capG (fun _ => (none, 0, 0)) rfl (List.append_nil _)
  dsimp only [aftL, List.set_cons_zero, List.set_cons_succ, List.nil_append, List.cons_append, List.append_nil]
  refine gx_o rfl (fun L2 => ?_) ?_
  · dsimp only [maskL, List.cons_append, List.nil_append]
    refine ox_y rfl (y_call [.int .i64 10, .int .i64 10] go_54 rfl (fun W2 hW2 => calxlaw02_at_ok 10 10 y23 hy24 W2 ) rfl) ?_
    refine ox_nil ?_
    exact ex_capG (fun _ => (none, 0, 0)) rfl (List.append_nil _)
  dsimp only [aftL, List.set_cons_zero, List.set_cons_succ, List.nil_append, List.cons_append, List.append_nil]
  refine gx_o rfl (fun L2 => ?_) ?_
  · dsimp only [maskL, List.cons_append, List.nil_append]
    refine ox_y rfl (y_call [.agg #[.int .i64 y1.fRise, .int .i64 y1.fFall, .int .i64 y1.fUp, .int .i64 y1.fDown, .slice A3 y1.fLooks.length c4], .agg #[.int .i64 y23.fFoot, .int .i64 y23.fHour]] go_14 rfl (fun W2 hW2 => fire_Ends_ok y1 y23 y25 hy26 W2 A3 y1.fLooks.length c4 rfl ((RdL.row 0 rfl) W2 hW2)) rfl) ?_
    refine ox_nil ?_
    exact ex_capG (fun _ => (none, 0, 0)) rfl (List.append_nil _)
  dsimp only [aftL, List.set_cons_zero, List.set_cons_succ, List.nil_append, List.cons_append, List.append_nil]
  refine gx_o rfl (fun L2 => ?_) ?_
  · dsimp only [maskL, List.cons_append, List.nil_append]
    refine ox_y rfl (y_move_tuple rfl) ?_
    refine ox_nil ?_
    exact ex_capG (fun _ => (none, 0, 0)) rfl (List.append_nil _)
  dsimp only [aftL, List.set_cons_zero, List.set_cons_succ, List.nil_append, List.cons_append, List.append_nil]
  refine gx_o rfl (fun L2 => ?_) ?_
  · dsimp only [maskL, List.cons_append, List.nil_append]
    refine ox_y rfl (y_extract (vs := [.agg #[.int .i64 y25.1.fSpan.fLo, .int .i64 y25.1.fSpan.fHi, .int .i64 y25.1.fLow, .int .i64 y25.1.fHigh], .int .i64 y25.2]) (v := .agg #[.int .i64 y25.1.fSpan.fLo, .int .i64 y25.1.fSpan.fHi, .int .i64 y25.1.fLow, .int .i64 y25.1.fHigh]) rfl rfl) ?_
    refine ox_nil ?_
    exact ex_capG (fun _ => (none, 0, 0)) rfl (List.append_nil _)
  dsimp only [aftL, List.set_cons_zero, List.set_cons_succ, List.nil_append, List.cons_append, List.append_nil]
  refine gx_o rfl (fun L2 => ?_) ?_
  · dsimp only [maskL, List.cons_append, List.nil_append]
    refine ox_y rfl (y_extract (vs := [.agg #[.int .i64 y25.1.fSpan.fLo, .int .i64 y25.1.fSpan.fHi, .int .i64 y25.1.fLow, .int .i64 y25.1.fHigh], .int .i64 y25.2]) (v := .int .i64 y25.2) rfl rfl) ?_
    refine ox_nil ?_
    exact ex_capG (fun _ => (none, 0, 0)) rfl (List.append_nil _)
  dsimp only [aftL, List.set_cons_zero, List.set_cons_succ, List.nil_append, List.cons_append, List.append_nil]
  refine gx_o rfl (fun L2 => ?_) ?_
  · dsimp only [maskL, List.cons_append, List.nil_append]
    refine ox_alloc ze_36 rfl (fun b27 => ?_)
    refine ox_nil ?_
    exact ex_capG (fun _ => (none, b27, 0)) rfl rfl
  dsimp only [aftL, List.set_cons_zero, List.set_cons_succ, List.nil_append, List.cons_append, List.append_nil]
  refine gx_n rfl (fun L2 => ?_) ?_
  · dsimp only [maskL, List.cons_append, List.nil_append]
    refine ox_n rfl (y_storeN 2 [.int .i64 y25.1.fSpan.fLo, .int .i64 y25.1.fSpan.fHi, .int .i64 y25.1.fLow, .int .i64 y25.1.fHigh] sz_36 rfl (Nat.le_of_ble_eq_true rfl) rfl rfl rfl) ?_
    refine ox_nil ?_
    exact ex_capGn (fun _ => (none, 0, 0)) (List.append_nil _)
  dsimp only [aftL, List.set_cons_zero, List.set_cons_succ, List.nil_append, List.cons_append, List.append_nil]
  refine gx_o rfl (fun L2 => ?_) ?_
  · dsimp only [maskL, List.cons_append, List.nil_append]
    refine ox_y rfl (y_assign_int rfl) ?_
    refine ox_nil ?_
    exact ex_capG (fun _ => (none, 0, 0)) rfl (List.append_nil _)
  dsimp only [aftL, List.set_cons_zero, List.set_cons_succ, List.nil_append, List.cons_append, List.append_nil]
  refine gx_nil ?_
  refine ex_then ?_
  refine cx_seq ?_
  obtain ⟨y29, hy30, h⟩ := bind_some h
  obtain ⟨y31, hy32, h⟩ := bind_some h
  refine cx_drawsG [[], [], [0, 1], [0, 1, 2], [0, 1, 2, 3], [0, 1, 2, 3], [], [0, 1, 2, 3, 4, 6], [0, 1, 2, 3, 4, 5, 6, 7]] [(none, 0, [true, true, true]), (none, 0, [true, true, true]), (none, 0, [true, true, true]), (none, 0, [true, true, true]), (none, 0, [true, true, true]), (none, 0, [true, true, true]), (none, 1, [true, true, true]), (some 3, 0, [true, true, true, true]), (none, 0, [true, true, true, true])] [⟨fun _ => .agg #[.int .i64 y1.fRise, .int .i64 y1.fFall, .int .i64 y1.fUp, .int .i64 y1.fDown, .slice A3 y1.fLooks.length c4], fun _ => noR, fun _ => []⟩, ⟨fun _ => .agg #[.int .i64 y29.fFoot, .int .i64 y29.fHour], fun _ => noR, fun _ => []⟩, ⟨fun _ => .tuple #[.agg #[.int .i64 y31.1.fSpan.fLo, .int .i64 y31.1.fSpan.fHi, .int .i64 y31.1.fLow, .int .i64 y31.1.fHigh], .int .i64 y31.2], fun _ => noR, fun _ => []⟩, ⟨fun _ => .tuple #[.agg #[.int .i64 y31.1.fSpan.fLo, .int .i64 y31.1.fSpan.fHi, .int .i64 y31.1.fLow, .int .i64 y31.1.fHigh], .int .i64 y31.2], fun _ => noR, fun _ => []⟩, ⟨fun _ => .agg #[.int .i64 y31.1.fSpan.fLo, .int .i64 y31.1.fSpan.fHi, .int .i64 y31.1.fLow, .int .i64 y31.1.fHigh], fun _ => noR, fun _ => []⟩, ⟨fun _ => .int .i64 y31.2, fun _ => noR, fun _ => []⟩, ⟨fun ξ28 => .pointer (some ⟨(ξ28 6 0).2.1, 0, none⟩), fun _ => noR, fun ξ28 => [cellsR (ξ28 6 0).2.1 36 [.int .i64 0, .int .i64 0, .int .i64 0, .int .i64 0]]⟩, ⟨fun _ => undef, fun ξ28 => cellsR (ξ28 6 0).2.1 36 [.int .i64 y31.1.fSpan.fLo, .int .i64 y31.1.fSpan.fHi, .int .i64 y31.1.fLow, .int .i64 y31.1.fHigh], fun _ => []⟩, ⟨fun _ => .int .i64 y31.2, fun _ => noR, fun _ => []⟩] 3 mixed (by kernel_rfl) (by kernel_rfl) ⟨⟨fun ξ28 ξ28' h => ⟨rfl, rfl, rfl⟩, fun _ => rfl⟩, ⟨fun ξ28 ξ28' h => ⟨rfl, rfl, rfl⟩, fun _ => rfl⟩, ⟨fun ξ28 ξ28' h => ⟨rfl, rfl, rfl⟩, fun _ => rfl⟩, ⟨fun ξ28 ξ28' h => ⟨rfl, rfl, rfl⟩, fun _ => rfl⟩, ⟨fun ξ28 ξ28' h => ⟨rfl, rfl, rfl⟩, fun _ => rfl⟩, ⟨fun ξ28 ξ28' h => ⟨rfl, rfl, rfl⟩, fun _ => rfl⟩, ⟨fun ξ28 ξ28' h => ⟨by simp only [h 6 (.inl rfl)], rfl, by simp only [h 6 (.inl rfl)]⟩, fun _ => rfl⟩, ⟨fun ξ28 ξ28' h => ⟨rfl, by simp only [h 6 (.inr rfl)], rfl⟩, fun _ => rfl⟩, ⟨fun ξ28 ξ28' h => ⟨rfl, rfl, rfl⟩, fun _ => rfl⟩, trivial⟩ rfl (fun ξ28 => ?_)
  refine gx_o rfl (fun L2 => ?_) ?_
  · dsimp only [maskL, List.cons_append, List.nil_append]
    refine ox_y rfl (y_loadN 1 [.int .i64 y1.fRise, .int .i64 y1.fFall, .int .i64 y1.fUp, .int .i64 y1.fDown, .slice A3 y1.fLooks.length c4] ag_24 rfl rfl rfl) ?_
    refine ox_nil ?_
    exact ex_capG (fun _ => (none, 0, 0)) rfl (List.append_nil _)
  dsimp only [aftL, List.set_cons_zero, List.set_cons_succ, List.nil_append, List.cons_append, List.append_nil]
  refine gx_o rfl (fun L2 => ?_) ?_
  · dsimp only [maskL, List.cons_append, List.nil_append]
    refine ox_y rfl (y_call [.int .i64 10, .int .i64 15] go_54 rfl (fun W2 hW2 => calxlaw02_at_ok 10 15 y29 hy30 W2 ) rfl) ?_
    refine ox_nil ?_
    exact ex_capG (fun _ => (none, 0, 0)) rfl (List.append_nil _)
  dsimp only [aftL, List.set_cons_zero, List.set_cons_succ, List.nil_append, List.cons_append, List.append_nil]
  refine gx_o rfl (fun L2 => ?_) ?_
  · dsimp only [maskL, List.cons_append, List.nil_append]
    refine ox_y rfl (y_call [.agg #[.int .i64 y1.fRise, .int .i64 y1.fFall, .int .i64 y1.fUp, .int .i64 y1.fDown, .slice A3 y1.fLooks.length c4], .agg #[.int .i64 y29.fFoot, .int .i64 y29.fHour]] go_14 rfl (fun W2 hW2 => fire_Ends_ok y1 y29 y31 hy32 W2 A3 y1.fLooks.length c4 rfl ((RdL.row 0 rfl) W2 hW2)) rfl) ?_
    refine ox_nil ?_
    exact ex_capG (fun _ => (none, 0, 0)) rfl (List.append_nil _)
  dsimp only [aftL, List.set_cons_zero, List.set_cons_succ, List.nil_append, List.cons_append, List.append_nil]
  refine gx_o rfl (fun L2 => ?_) ?_
  · dsimp only [maskL, List.cons_append, List.nil_append]
    refine ox_y rfl (y_move_tuple rfl) ?_
    refine ox_nil ?_
    exact ex_capG (fun _ => (none, 0, 0)) rfl (List.append_nil _)
  dsimp only [aftL, List.set_cons_zero, List.set_cons_succ, List.nil_append, List.cons_append, List.append_nil]
  refine gx_o rfl (fun L2 => ?_) ?_
  · dsimp only [maskL, List.cons_append, List.nil_append]
    refine ox_y rfl (y_extract (vs := [.agg #[.int .i64 y31.1.fSpan.fLo, .int .i64 y31.1.fSpan.fHi, .int .i64 y31.1.fLow, .int .i64 y31.1.fHigh], .int .i64 y31.2]) (v := .agg #[.int .i64 y31.1.fSpan.fLo, .int .i64 y31.1.fSpan.fHi, .int .i64 y31.1.fLow, .int .i64 y31.1.fHigh]) rfl rfl) ?_
    refine ox_nil ?_
    exact ex_capG (fun _ => (none, 0, 0)) rfl (List.append_nil _)
  dsimp only [aftL, List.set_cons_zero, List.set_cons_succ, List.nil_append, List.cons_append, List.append_nil]
  refine gx_o rfl (fun L2 => ?_) ?_
  · dsimp only [maskL, List.cons_append, List.nil_append]
    refine ox_y rfl (y_extract (vs := [.agg #[.int .i64 y31.1.fSpan.fLo, .int .i64 y31.1.fSpan.fHi, .int .i64 y31.1.fLow, .int .i64 y31.1.fHigh], .int .i64 y31.2]) (v := .int .i64 y31.2) rfl rfl) ?_
    refine ox_nil ?_
    exact ex_capG (fun _ => (none, 0, 0)) rfl (List.append_nil _)
  dsimp only [aftL, List.set_cons_zero, List.set_cons_succ, List.nil_append, List.cons_append, List.append_nil]
  refine gx_o rfl (fun L2 => ?_) ?_
  · dsimp only [maskL, List.cons_append, List.nil_append]
    refine ox_alloc ze_36 rfl (fun b33 => ?_)
    refine ox_nil ?_
    exact ex_capG (fun _ => (none, b33, 0)) rfl rfl
  dsimp only [aftL, List.set_cons_zero, List.set_cons_succ, List.nil_append, List.cons_append, List.append_nil]
  refine gx_n rfl (fun L2 => ?_) ?_
  · dsimp only [maskL, List.cons_append, List.nil_append]
    refine ox_n rfl (y_storeN 3 [.int .i64 y31.1.fSpan.fLo, .int .i64 y31.1.fSpan.fHi, .int .i64 y31.1.fLow, .int .i64 y31.1.fHigh] sz_36 rfl (Nat.le_of_ble_eq_true rfl) rfl rfl rfl) ?_
    refine ox_nil ?_
    exact ex_capGn (fun _ => (none, 0, 0)) (List.append_nil _)
  dsimp only [aftL, List.set_cons_zero, List.set_cons_succ, List.nil_append, List.cons_append, List.append_nil]
  refine gx_o rfl (fun L2 => ?_) ?_
  · dsimp only [maskL, List.cons_append, List.nil_append]
    refine ox_y rfl (y_assign_int rfl) ?_
    refine ox_nil ?_
    exact ex_capG (fun _ => (none, 0, 0)) rfl (List.append_nil _)
  dsimp only [aftL, List.set_cons_zero, List.set_cons_succ, List.nil_append, List.cons_append, List.append_nil]
  refine gx_nil ?_
  refine ex_then ?_
  refine cx_seq ?_
  obtain ⟨y35, hy36, h⟩ := bind_some h
  obtain ⟨y37, hy38, h⟩ := bind_some h
  refine cx_drawsG [[], [], [0, 1], [0, 1, 2], [0, 1, 2, 3], [0, 1, 2, 3], [], [0, 1, 2, 3, 4, 6], [0, 1, 2, 3, 4, 5, 6, 7]] [(none, 0, [true, true, true, true]), (none, 0, [true, true, true, true]), (none, 0, [true, true, true, true]), (none, 0, [true, true, true, true]), (none, 0, [true, true, true, true]), (none, 0, [true, true, true, true]), (none, 1, [true, true, true, true]), (some 4, 0, [true, true, true, true, true]), (none, 0, [true, true, true, true, true])] [⟨fun _ => .agg #[.int .i64 y1.fRise, .int .i64 y1.fFall, .int .i64 y1.fUp, .int .i64 y1.fDown, .slice A3 y1.fLooks.length c4], fun _ => noR, fun _ => []⟩, ⟨fun _ => .agg #[.int .i64 y35.fFoot, .int .i64 y35.fHour], fun _ => noR, fun _ => []⟩, ⟨fun _ => .tuple #[.agg #[.int .i64 y37.1.fSpan.fLo, .int .i64 y37.1.fSpan.fHi, .int .i64 y37.1.fLow, .int .i64 y37.1.fHigh], .int .i64 y37.2], fun _ => noR, fun _ => []⟩, ⟨fun _ => .tuple #[.agg #[.int .i64 y37.1.fSpan.fLo, .int .i64 y37.1.fSpan.fHi, .int .i64 y37.1.fLow, .int .i64 y37.1.fHigh], .int .i64 y37.2], fun _ => noR, fun _ => []⟩, ⟨fun _ => .agg #[.int .i64 y37.1.fSpan.fLo, .int .i64 y37.1.fSpan.fHi, .int .i64 y37.1.fLow, .int .i64 y37.1.fHigh], fun _ => noR, fun _ => []⟩, ⟨fun _ => .int .i64 y37.2, fun _ => noR, fun _ => []⟩, ⟨fun ξ34 => .pointer (some ⟨(ξ34 6 0).2.1, 0, none⟩), fun _ => noR, fun ξ34 => [cellsR (ξ34 6 0).2.1 36 [.int .i64 0, .int .i64 0, .int .i64 0, .int .i64 0]]⟩, ⟨fun _ => undef, fun ξ34 => cellsR (ξ34 6 0).2.1 36 [.int .i64 y37.1.fSpan.fLo, .int .i64 y37.1.fSpan.fHi, .int .i64 y37.1.fLow, .int .i64 y37.1.fHigh], fun _ => []⟩, ⟨fun _ => .int .i64 y37.2, fun _ => noR, fun _ => []⟩] 4 mixed (by kernel_rfl) (by kernel_rfl) ⟨⟨fun ξ34 ξ34' h => ⟨rfl, rfl, rfl⟩, fun _ => rfl⟩, ⟨fun ξ34 ξ34' h => ⟨rfl, rfl, rfl⟩, fun _ => rfl⟩, ⟨fun ξ34 ξ34' h => ⟨rfl, rfl, rfl⟩, fun _ => rfl⟩, ⟨fun ξ34 ξ34' h => ⟨rfl, rfl, rfl⟩, fun _ => rfl⟩, ⟨fun ξ34 ξ34' h => ⟨rfl, rfl, rfl⟩, fun _ => rfl⟩, ⟨fun ξ34 ξ34' h => ⟨rfl, rfl, rfl⟩, fun _ => rfl⟩, ⟨fun ξ34 ξ34' h => ⟨by simp only [h 6 (.inl rfl)], rfl, by simp only [h 6 (.inl rfl)]⟩, fun _ => rfl⟩, ⟨fun ξ34 ξ34' h => ⟨rfl, by simp only [h 6 (.inr rfl)], rfl⟩, fun _ => rfl⟩, ⟨fun ξ34 ξ34' h => ⟨rfl, rfl, rfl⟩, fun _ => rfl⟩, trivial⟩ rfl (fun ξ34 => ?_)
  refine gx_o rfl (fun L2 => ?_) ?_
  · dsimp only [maskL, List.cons_append, List.nil_append]
    refine ox_y rfl (y_loadN 1 [.int .i64 y1.fRise, .int .i64 y1.fFall, .int .i64 y1.fUp, .int .i64 y1.fDown, .slice A3 y1.fLooks.length c4] ag_24 rfl rfl rfl) ?_
    refine ox_nil ?_
    exact ex_capG (fun _ => (none, 0, 0)) rfl (List.append_nil _)
  dsimp only [aftL, List.set_cons_zero, List.set_cons_succ, List.nil_append, List.cons_append, List.append_nil]
  refine gx_o rfl (fun L2 => ?_) ?_
  · dsimp only [maskL, List.cons_append, List.nil_append]
    refine ox_y rfl (y_call [.int .i64 50, .int .i64 5] go_54 rfl (fun W2 hW2 => calxlaw02_at_ok 50 5 y35 hy36 W2 ) rfl) ?_
    refine ox_nil ?_
    exact ex_capG (fun _ => (none, 0, 0)) rfl (List.append_nil _)
  dsimp only [aftL, List.set_cons_zero, List.set_cons_succ, List.nil_append, List.cons_append, List.append_nil]
  refine gx_o rfl (fun L2 => ?_) ?_
  · dsimp only [maskL, List.cons_append, List.nil_append]
    refine ox_y rfl (y_call [.agg #[.int .i64 y1.fRise, .int .i64 y1.fFall, .int .i64 y1.fUp, .int .i64 y1.fDown, .slice A3 y1.fLooks.length c4], .agg #[.int .i64 y35.fFoot, .int .i64 y35.fHour]] go_14 rfl (fun W2 hW2 => fire_Ends_ok y1 y35 y37 hy38 W2 A3 y1.fLooks.length c4 rfl ((RdL.row 0 rfl) W2 hW2)) rfl) ?_
    refine ox_nil ?_
    exact ex_capG (fun _ => (none, 0, 0)) rfl (List.append_nil _)
  dsimp only [aftL, List.set_cons_zero, List.set_cons_succ, List.nil_append, List.cons_append, List.append_nil]
  refine gx_o rfl (fun L2 => ?_) ?_
  · dsimp only [maskL, List.cons_append, List.nil_append]
    refine ox_y rfl (y_move_tuple rfl) ?_
    refine ox_nil ?_
    exact ex_capG (fun _ => (none, 0, 0)) rfl (List.append_nil _)
  dsimp only [aftL, List.set_cons_zero, List.set_cons_succ, List.nil_append, List.cons_append, List.append_nil]
  refine gx_o rfl (fun L2 => ?_) ?_
  · dsimp only [maskL, List.cons_append, List.nil_append]
    refine ox_y rfl (y_extract (vs := [.agg #[.int .i64 y37.1.fSpan.fLo, .int .i64 y37.1.fSpan.fHi, .int .i64 y37.1.fLow, .int .i64 y37.1.fHigh], .int .i64 y37.2]) (v := .agg #[.int .i64 y37.1.fSpan.fLo, .int .i64 y37.1.fSpan.fHi, .int .i64 y37.1.fLow, .int .i64 y37.1.fHigh]) rfl rfl) ?_
    refine ox_nil ?_
    exact ex_capG (fun _ => (none, 0, 0)) rfl (List.append_nil _)
  dsimp only [aftL, List.set_cons_zero, List.set_cons_succ, List.nil_append, List.cons_append, List.append_nil]
  refine gx_o rfl (fun L2 => ?_) ?_
  · dsimp only [maskL, List.cons_append, List.nil_append]
    refine ox_y rfl (y_extract (vs := [.agg #[.int .i64 y37.1.fSpan.fLo, .int .i64 y37.1.fSpan.fHi, .int .i64 y37.1.fLow, .int .i64 y37.1.fHigh], .int .i64 y37.2]) (v := .int .i64 y37.2) rfl rfl) ?_
    refine ox_nil ?_
    exact ex_capG (fun _ => (none, 0, 0)) rfl (List.append_nil _)
  dsimp only [aftL, List.set_cons_zero, List.set_cons_succ, List.nil_append, List.cons_append, List.append_nil]
  refine gx_o rfl (fun L2 => ?_) ?_
  · dsimp only [maskL, List.cons_append, List.nil_append]
    refine ox_alloc ze_36 rfl (fun b39 => ?_)
    refine ox_nil ?_
    exact ex_capG (fun _ => (none, b39, 0)) rfl rfl
  dsimp only [aftL, List.set_cons_zero, List.set_cons_succ, List.nil_append, List.cons_append, List.append_nil]
  refine gx_n rfl (fun L2 => ?_) ?_
  · dsimp only [maskL, List.cons_append, List.nil_append]
    refine ox_n rfl (y_storeN 4 [.int .i64 y37.1.fSpan.fLo, .int .i64 y37.1.fSpan.fHi, .int .i64 y37.1.fLow, .int .i64 y37.1.fHigh] sz_36 rfl (Nat.le_of_ble_eq_true rfl) rfl rfl rfl) ?_
    refine ox_nil ?_
    exact ex_capGn (fun _ => (none, 0, 0)) (List.append_nil _)
  dsimp only [aftL, List.set_cons_zero, List.set_cons_succ, List.nil_append, List.cons_append, List.append_nil]
  refine gx_o rfl (fun L2 => ?_) ?_
  · dsimp only [maskL, List.cons_append, List.nil_append]
    refine ox_y rfl (y_assign_int rfl) ?_
    refine ox_nil ?_
    exact ex_capG (fun _ => (none, 0, 0)) rfl (List.append_nil _)
  dsimp only [aftL, List.set_cons_zero, List.set_cons_succ, List.nil_append, List.cons_append, List.append_nil]
  refine gx_nil ?_
  refine ex_then ?_
  refine cx_seq ?_
  refine cx_seq ?_
  refine cx_region ?_
  refine ox_y rfl (y_move_int rfl) ?_
  refine ox_y rfl (y_neq rfl rfl) ?_
  refine ox_y rfl (y_move_bool rfl) ?_
  refine ox_join 3 (fun tm0 => (upd (upd (upd (upd (upd (upd (upd (upd (upd (upd (upd (upd (upd tm0 0 (.bool false)) 1 (.pointer (some ⟨b7, 0, none⟩))) 4 (.int .i64 y18.1)) 5 (.int .i64 y18.2)) 8 (.bool y20.2.2.1)) 9 (.int .i64 y20.2.2.2)) 10 (.pointer (some ⟨(ξ22 6 0).2.1, 0, none⟩))) 11 (.int .i64 y25.2)) 12 (.pointer (some ⟨(ξ28 6 0).2.1, 0, none⟩))) 13 (.int .i64 y31.2)) 14 (.pointer (some ⟨(ξ34 6 0).2.1, 0, none⟩))) 15 (.int .i64 y37.2)) 82 (.bool ((y12.2 != 0) || (y12.1 != 70))))) (fun tm0 => ?_) (fun key => ?_)
  · refine ox_y rfl (y_move_bool rfl) ?_
    refine ox_join 3 (fun tm0 => (upd (upd (upd (upd (upd (upd (upd (upd (upd (upd (upd (upd tm0 0 (.bool false)) 1 (.pointer (some ⟨b7, 0, none⟩))) 4 (.int .i64 y18.1)) 8 (.bool y20.2.2.1)) 9 (.int .i64 y20.2.2.2)) 10 (.pointer (some ⟨(ξ22 6 0).2.1, 0, none⟩))) 11 (.int .i64 y25.2)) 12 (.pointer (some ⟨(ξ28 6 0).2.1, 0, none⟩))) 13 (.int .i64 y31.2)) 14 (.pointer (some ⟨(ξ34 6 0).2.1, 0, none⟩))) 15 (.int .i64 y37.2)) 86 (.bool (((y12.2 != 0) || (y12.1 != 70)) || (y18.2 != 0))))) (fun tm0 => ?_) (fun key => ?_)
    · refine ox_y rfl (y_move_bool rfl) ?_
      refine ox_join 3 (fun tm0 => (upd (upd (upd (upd (upd (upd (upd (upd (upd (upd (upd tm0 0 (.bool false)) 1 (.pointer (some ⟨b7, 0, none⟩))) 8 (.bool y20.2.2.1)) 9 (.int .i64 y20.2.2.2)) 10 (.pointer (some ⟨(ξ22 6 0).2.1, 0, none⟩))) 11 (.int .i64 y25.2)) 12 (.pointer (some ⟨(ξ28 6 0).2.1, 0, none⟩))) 13 (.int .i64 y31.2)) 14 (.pointer (some ⟨(ξ34 6 0).2.1, 0, none⟩))) 15 (.int .i64 y37.2)) 90 (.bool ((((y12.2 != 0) || (y12.1 != 70)) || (y18.2 != 0)) || (y18.1 != 90))))) (fun tm0 => ?_) (fun key => ?_)
      · refine ox_y rfl (y_move_bool rfl) ?_
        refine ox_join 3 (fun tm0 => (upd (upd (upd (upd (upd (upd (upd (upd (upd (upd tm0 0 (.bool false)) 1 (.pointer (some ⟨b7, 0, none⟩))) 8 (.bool y20.2.2.1)) 10 (.pointer (some ⟨(ξ22 6 0).2.1, 0, none⟩))) 11 (.int .i64 y25.2)) 12 (.pointer (some ⟨(ξ28 6 0).2.1, 0, none⟩))) 13 (.int .i64 y31.2)) 14 (.pointer (some ⟨(ξ34 6 0).2.1, 0, none⟩))) 15 (.int .i64 y37.2)) 94 (.bool (((((y12.2 != 0) || (y12.1 != 70)) || (y18.2 != 0)) || (y18.1 != 90)) || (y20.2.2.2 != 0))))) (fun tm0 => ?_) (fun key => ?_)
        · refine ox_y rfl (y_move_bool rfl) ?_
          refine ox_join 2 (fun tm0 => (upd (upd (upd (upd (upd (upd (upd (upd (upd tm0 0 (.bool false)) 1 (.pointer (some ⟨b7, 0, none⟩))) 10 (.pointer (some ⟨(ξ22 6 0).2.1, 0, none⟩))) 11 (.int .i64 y25.2)) 12 (.pointer (some ⟨(ξ28 6 0).2.1, 0, none⟩))) 13 (.int .i64 y31.2)) 14 (.pointer (some ⟨(ξ34 6 0).2.1, 0, none⟩))) 15 (.int .i64 y37.2)) 97 (.bool ((((((y12.2 != 0) || (y12.1 != 70)) || (y18.2 != 0)) || (y18.1 != 90)) || (y20.2.2.2 != 0)) || y20.2.2.1)))) (fun tm0 => ?_) (fun key => ?_)
          · refine ox_y rfl (y_move_bool rfl) ?_
            refine ox_join 3 (fun tm0 => (upd (upd (upd (upd (upd (upd (upd (upd tm0 0 (.bool false)) 1 (.pointer (some ⟨b7, 0, none⟩))) 10 (.pointer (some ⟨(ξ22 6 0).2.1, 0, none⟩))) 12 (.pointer (some ⟨(ξ28 6 0).2.1, 0, none⟩))) 13 (.int .i64 y31.2)) 14 (.pointer (some ⟨(ξ34 6 0).2.1, 0, none⟩))) 15 (.int .i64 y37.2)) 101 (.bool (((((((y12.2 != 0) || (y12.1 != 70)) || (y18.2 != 0)) || (y18.1 != 90)) || (y20.2.2.2 != 0)) || y20.2.2.1) || (y25.2 != 0))))) (fun tm0 => ?_) (fun key => ?_)
            · refine ox_y rfl (y_move_bool rfl) ?_
              refine ox_join 3 (fun tm0 => (upd (upd (upd (upd (upd (upd (upd tm0 0 (.bool false)) 1 (.pointer (some ⟨b7, 0, none⟩))) 10 (.pointer (some ⟨(ξ22 6 0).2.1, 0, none⟩))) 12 (.pointer (some ⟨(ξ28 6 0).2.1, 0, none⟩))) 14 (.pointer (some ⟨(ξ34 6 0).2.1, 0, none⟩))) 15 (.int .i64 y37.2)) 105 (.bool ((((((((y12.2 != 0) || (y12.1 != 70)) || (y18.2 != 0)) || (y18.1 != 90)) || (y20.2.2.2 != 0)) || y20.2.2.1) || (y25.2 != 0)) || (y31.2 != 0))))) (fun tm0 => ?_) (fun key => ?_)
              · refine ox_y rfl (y_move_bool rfl) ?_
                refine ox_join 3 (fun tm0 => (upd (upd (upd (upd (upd (upd tm0 0 (.bool false)) 1 (.pointer (some ⟨b7, 0, none⟩))) 10 (.pointer (some ⟨(ξ22 6 0).2.1, 0, none⟩))) 12 (.pointer (some ⟨(ξ28 6 0).2.1, 0, none⟩))) 14 (.pointer (some ⟨(ξ34 6 0).2.1, 0, none⟩))) 109 (.bool (((((((((y12.2 != 0) || (y12.1 != 70)) || (y18.2 != 0)) || (y18.1 != 90)) || (y20.2.2.2 != 0)) || y20.2.2.1) || (y25.2 != 0)) || (y31.2 != 0)) || (y37.2 != 0))))) (fun tm0 => ?_) (fun key => ?_)
                · refine ox_nil ?_
                  refine ex_then ?_
                  rcases ite_some h with ⟨hp48, h⟩ | ⟨hp48, h⟩
                  · refine cx_true (congrArg Value.bool hp48) ?_
                    refine cx_seq ?_
                    refine cx_region ?_
                    refine ox_y rfl (y_assign_bool rfl) ?_
                    refine ox_nil ?_
                    refine ex_then ?_
                    refine cx_ret ?_
                    refine ex_then_ret ?_
                    obtain rfl := Option.some.inj h
                    exact ex_res1 (.inl rfl) rfl (resV_tmp (v := .bool false) rfl) (fun W2 hW2 => ⟨rfl, hW2.none⟩)
                  · refine cx_false (congrArg Value.bool hp48) ?_
                    refine cx_skip ?_
                    refine ex_then ?_
                    refine cx_seq ?_
                    refine cx_region ?_
                    refine ox_y rfl (y_loadN 2 [.int .i64 y25.1.fSpan.fLo, .int .i64 y25.1.fSpan.fHi, .int .i64 y25.1.fLow, .int .i64 y25.1.fHigh] ag_36 rfl rfl rfl) ?_
                    refine ox_y rfl (y_buildS [.int .i64 750, .int .i64 950] [(0, 1), (1, 1)] ust_32 ze_32 (by kernel_rfl)) ?_
                    refine ox_y rfl (y_buildS [.int .i64 750, .int .i64 950, .int .i64 1, .int .i64 2] [(0, 2), (2, 1), (3, 1)] ust_36 ze_36 (by kernel_rfl)) ?_
                    refine ox_y rfl (y_eqla (b := (((y25.1.fSpan.fLo == 750) && (y25.1.fSpan.fHi == 950)) && ((y25.1.fLow == 1) && (y25.1.fHigh == 2)))) eg_36 rfl rfl (fun _ => (eqS3 fl_36 (partN (cs := #[.int .i64 y25.1.fSpan.fLo, .int .i64 y25.1.fSpan.fHi]) ag_32 (by kernel_rfl)) (part1 sc_3 rfl) (part1 sc_3 rfl) (partN (cs := #[.int .i64 750, .int .i64 950]) ag_32 (by kernel_rfl)) (part1 sc_3 rfl) (part1 sc_3 rfl) (eqS2 fl_32 (part1 sc_3 rfl) (part1 sc_3 rfl) (part1 sc_3 rfl) (part1 sc_3 rfl) (run_equalIn_int _ _ _ _ _ _ _ ui_3) (run_equalIn_int _ _ _ _ _ _ _ ui_3)) (run_equalIn_int _ _ _ _ _ _ _ ui_3) (run_equalIn_int _ _ _ _ _ _ _ ui_3)))) ?_
                    refine ox_y rfl (y_move_bool rfl) ?_
                    refine ox_join 5 (fun tm0 => (upd (upd (upd (upd tm0 0 (.bool false)) 1 (.pointer (some ⟨b7, 0, none⟩))) 14 (.pointer (some ⟨(ξ34 6 0).2.1, 0, none⟩))) 119 (.bool ((((y25.1.fSpan.fLo == 750) && (y25.1.fSpan.fHi == 950)) && ((y25.1.fLow == 1) && (y25.1.fHigh == 2))) && (((y31.1.fSpan.fLo == 850) && (y31.1.fSpan.fHi == 1050)) && ((y31.1.fLow == 3) && (y31.1.fHigh == 2))))))) (fun tm0 => ?_) (fun key => ?_)
                    · refine ox_y rfl (y_move_bool rfl) ?_
                      refine ox_join 5 (fun tm0 => (upd (upd (upd tm0 0 (.bool false)) 1 (.pointer (some ⟨b7, 0, none⟩))) 125 (.bool (((((y25.1.fSpan.fLo == 750) && (y25.1.fSpan.fHi == 950)) && ((y25.1.fLow == 1) && (y25.1.fHigh == 2))) && (((y31.1.fSpan.fLo == 850) && (y31.1.fSpan.fHi == 1050)) && ((y31.1.fLow == 3) && (y31.1.fHigh == 2)))) && (((y37.1.fSpan.fLo == 0) && (y37.1.fSpan.fHi == 1070)) && ((y37.1.fLow == 0) && (y37.1.fHigh == 2))))))) (fun tm0 => ?_) (fun key => ?_)
                      · refine ox_y rfl (y_assign_bool rfl) ?_
                        refine ox_nil ?_
                        refine ex_then ?_
                        refine cx_seq ?_
                        refine cx_region ?_
                        obtain ⟨y51, hy52, h⟩ := bind_some h
                        refine ox_y rfl (y_call [.int .i64 10, .int .i64 14] go_54 rfl (fun W2 hW2 => calxlaw02_at_ok 10 14 y51 hy52 W2 ) rfl) ?_
                        obtain ⟨y53, hy54, h⟩ := bind_some h
                        refine ox_y rfl (y_call [.int .i64 10, .int .i64 15] go_54 rfl (fun W2 hW2 => calxlaw02_at_ok 10 15 y53 hy54 W2 ) rfl) ?_
                        obtain ⟨y55, hy56, h⟩ := bind_some h
                        refine ox_y rfl (y_call [.int .i64 10, .int .i64 16] go_54 rfl (fun W2 hW2 => calxlaw02_at_ok 10 16 y55 hy56 W2 ) rfl) ?_
                        refine ox_buildSliceE 3 (encL TSpot_cells [y51, y53, y55]) _ mc_26_3 us_46 ze_26 by_26 (by decide) (by decide) (by kernel_rfl) (encL_len TSpot_cells_len rfl) rfl (fun b57 => ?_)
                        try dsimp only [List.nil_append, List.cons_append, List.set_cons_zero, List.set_cons_succ]
                        refine ox_y rfl (y_assign_slice rfl) ?_
                        refine ox_nil ?_
                        refine ex_then ?_
                        refine cx_seq ?_
                        refine cx_region ?_
                        refine ox_y rfl (y_loadN 1 [.int .i64 y1.fRise, .int .i64 y1.fFall, .int .i64 y1.fUp, .int .i64 y1.fDown, .slice A3 y1.fLooks.length c4] ag_24 rfl rfl rfl) ?_
                        refine ox_y rfl (y_move_slice rfl) ?_
                        obtain ⟨y58, hy59, h⟩ := bind_some h
                        refine ox_y rfl (y_call [.agg #[.int .i64 y1.fRise, .int .i64 y1.fFall, .int .i64 y1.fUp, .int .i64 y1.fDown, .slice A3 y1.fLooks.length c4], .slice (some ⟨b57, 0, none⟩) 3 3, .int .i64 900] go_19 rfl (fun W2 hW2 => fire_Burnt_ok y1 [y51, y53, y55] 900 y58 hy59 W2 A3 y1.fLooks.length c4 rfl ((RdL.row 0 rfl) W2 hW2) (some ⟨b57, 0, none⟩) 3 3 rfl ((RdL.row 5 rfl) W2 hW2)) rfl) ?_
                        refine ox_y rfl (y_move_tuple rfl) ?_
                        refine ox_y rfl (y_extract (vs := [.agg #[.int .i64 y58.1.fHours, .int .i64 y58.1.fRow, .int .i64 y58.1.fSum], .agg #[.int .i64 y58.2.1.fHours, .int .i64 y58.2.1.fRow, .int .i64 y58.2.1.fSum], .int .i64 y58.2.2]) (v := .agg #[.int .i64 y58.1.fHours, .int .i64 y58.1.fRow, .int .i64 y58.1.fSum]) rfl rfl) ?_
                        refine ox_y rfl (y_extract (vs := [.agg #[.int .i64 y58.1.fHours, .int .i64 y58.1.fRow, .int .i64 y58.1.fSum], .agg #[.int .i64 y58.2.1.fHours, .int .i64 y58.2.1.fRow, .int .i64 y58.2.1.fSum], .int .i64 y58.2.2]) (v := .agg #[.int .i64 y58.2.1.fHours, .int .i64 y58.2.1.fRow, .int .i64 y58.2.1.fSum]) rfl rfl) ?_
                        refine ox_y rfl (y_extract (vs := [.agg #[.int .i64 y58.1.fHours, .int .i64 y58.1.fRow, .int .i64 y58.1.fSum], .agg #[.int .i64 y58.2.1.fHours, .int .i64 y58.2.1.fRow, .int .i64 y58.2.1.fSum], .int .i64 y58.2.2]) (v := .int .i64 y58.2.2) rfl rfl) ?_
                        refine ox_alloc ze_49 rfl (fun b60 => ?_)
                        try dsimp only [List.nil_append, List.cons_append, List.set_cons_zero, List.set_cons_succ]
                        refine ox_alloc ze_49 rfl (fun b61 => ?_)
                        try dsimp only [List.nil_append, List.cons_append, List.set_cons_zero, List.set_cons_succ]
                        refine ox_n rfl (y_storeN 6 [.int .i64 y58.1.fHours, .int .i64 y58.1.fRow, .int .i64 y58.1.fSum] sz_49 rfl (Nat.le_of_ble_eq_true rfl) rfl rfl rfl) ?_
                        refine ox_n rfl (y_storeN 7 [.int .i64 y58.2.1.fHours, .int .i64 y58.2.1.fRow, .int .i64 y58.2.1.fSum] sz_49 rfl (Nat.le_of_ble_eq_true rfl) rfl rfl rfl) ?_
                        refine ox_y rfl (y_assign_int rfl) ?_
                        refine ox_nil ?_
                        refine ex_then ?_
                        refine cx_seq ?_
                        refine cx_region ?_
                        refine ox_y rfl (y_loadN 1 [.int .i64 y1.fRise, .int .i64 y1.fFall, .int .i64 y1.fUp, .int .i64 y1.fDown, .slice A3 y1.fLooks.length c4] ag_24 rfl rfl rfl) ?_
                        refine ox_y rfl (y_move_slice rfl) ?_
                        obtain ⟨y62, hy63, h⟩ := bind_some h
                        refine ox_call [.agg #[.int .i64 y1.fRise, .int .i64 y1.fFall, .int .i64 y1.fUp, .int .i64 y1.fDown, .slice A3 y1.fLooks.length c4], .slice (some ⟨b57, 0, none⟩) 3 3, .int .i64 840] _ _ _ rfl go_21 rfl (fun W2 hW2 => fire_Surely_ok y1 [y51, y53, y55] 840 y62 hy63 W2 A3 y1.fLooks.length c4 rfl ((RdL.row 0 rfl) W2 hW2) (some ⟨b57, 0, none⟩) 3 3 rfl ((RdL.row 5 rfl) W2 hW2)) ?_
                        rintro ⟨A64, n66, c65⟩ hn67
                        replace hn67 : n66 = y62.1.length := hn67; subst hn67
                        try dsimp only [List.nil_append, List.cons_append, List.set_cons_zero, List.set_cons_succ]
                        refine ox_y rfl (y_move_tuple rfl) ?_
                        refine ox_y rfl (y_extract (vs := [.slice A64 y62.1.length c65, .int .i64 y62.2]) (v := .slice A64 y62.1.length c65) rfl rfl) ?_
                        refine ox_y rfl (y_extract (vs := [.slice A64 y62.1.length c65, .int .i64 y62.2]) (v := .int .i64 y62.2) rfl rfl) ?_
                        refine ox_y rfl (y_assign_slice rfl) ?_
                        refine ox_y rfl (y_assign_int rfl) ?_
                        refine ox_nil ?_
                        refine ex_then ?_
                        refine cx_seq ?_
                        refine cx_region ?_
                        refine ox_y rfl (y_loadN 1 [.int .i64 y1.fRise, .int .i64 y1.fFall, .int .i64 y1.fUp, .int .i64 y1.fDown, .slice A3 y1.fLooks.length c4] ag_24 rfl rfl rfl) ?_
                        refine ox_y rfl (y_move_slice rfl) ?_
                        obtain ⟨y68, hy69, h⟩ := bind_some h
                        refine ox_call [.agg #[.int .i64 y1.fRise, .int .i64 y1.fFall, .int .i64 y1.fUp, .int .i64 y1.fDown, .slice A3 y1.fLooks.length c4], .slice (some ⟨b57, 0, none⟩) 3 3, .int .i64 1040] _ _ _ rfl go_23 rfl (fun W2 hW2 => fire_Possibly_ok y1 [y51, y53, y55] 1040 y68 hy69 W2 A3 y1.fLooks.length c4 rfl ((RdL.row 0 rfl) W2 hW2) (some ⟨b57, 0, none⟩) 3 3 rfl ((RdL.row 5 rfl) W2 hW2)) ?_
                        rintro ⟨A70, n72, c71⟩ hn73
                        replace hn73 : n72 = y68.1.length := hn73; subst hn73
                        try dsimp only [List.nil_append, List.cons_append, List.set_cons_zero, List.set_cons_succ]
                        refine ox_y rfl (y_move_tuple rfl) ?_
                        refine ox_y rfl (y_extract (vs := [.slice A70 y68.1.length c71, .int .i64 y68.2]) (v := .slice A70 y68.1.length c71) rfl rfl) ?_
                        refine ox_y rfl (y_extract (vs := [.slice A70 y68.1.length c71, .int .i64 y68.2]) (v := .int .i64 y68.2) rfl rfl) ?_
                        refine ox_y rfl (y_assign_slice rfl) ?_
                        refine ox_y rfl (y_assign_int rfl) ?_
                        refine ox_nil ?_
                        refine ex_then ?_
                        refine cx_seq ?_
                        obtain ⟨y75, hy76, h⟩ := bind_some h
                        obtain ⟨y77, hy78, h⟩ := bind_some h
                        refine cx_drawsG [[], [], [0, 1], [0, 1, 2], [0, 1, 2, 3], [0, 1, 2, 3], [0, 1, 2, 3, 4], [0, 1, 2, 3, 4, 5, 6]] [(none, 0, [true, true, true, true, true, true, true, true, true, true]), (none, 0, [true, true, true, true, true, true, true, true, true, true]), (none, 1, [true, true, true, true, true, true, true, true, true, true]), (none, 0, [true, true, true, true, true, true, true, true, true, true, true]), (none, 0, [true, true, true, true, true, true, true, true, true, true, true]), (none, 0, [true, true, true, true, true, true, true, true, true, true, true]), (none, 0, [true, true, true, true, true, true, true, true, true, true, true]), (none, 0, [true, true, true, true, true, true, true, true, true, true, true])] [⟨fun _ => .agg #[.int .i64 y1.fRise, .int .i64 y1.fFall, .int .i64 y1.fUp, .int .i64 y1.fDown, .slice A3 y1.fLooks.length c4], fun _ => noR, fun _ => []⟩, ⟨fun _ => .agg #[.int .i64 y75.fFoot, .int .i64 y75.fHour], fun _ => noR, fun _ => []⟩, ⟨fun ξ74 => .tuple #[.slice (ξ74 2 0).1 y77.1.length (ξ74 2 0).2.2, .int .i64 y77.2], fun _ => noR, fun ξ74 => [rowR (ξ74 2 0).1 (ξ74 2 0).2.2 3 1 y77.1.length (encL cI y77.1)]⟩, ⟨fun ξ74 => .tuple #[.slice (ξ74 2 0).1 y77.1.length (ξ74 2 0).2.2, .int .i64 y77.2], fun _ => noR, fun _ => []⟩, ⟨fun ξ74 => .slice (ξ74 2 0).1 y77.1.length (ξ74 2 0).2.2, fun _ => noR, fun _ => []⟩, ⟨fun _ => .int .i64 y77.2, fun _ => noR, fun _ => []⟩, ⟨fun ξ74 => .slice (ξ74 2 0).1 y77.1.length (ξ74 2 0).2.2, fun _ => noR, fun _ => []⟩, ⟨fun _ => .int .i64 y77.2, fun _ => noR, fun _ => []⟩] 10 mixed (by kernel_rfl) (by kernel_rfl) ⟨⟨fun ξ74 ξ74' h => ⟨rfl, rfl, rfl⟩, fun _ => rfl⟩, ⟨fun ξ74 ξ74' h => ⟨rfl, rfl, rfl⟩, fun _ => rfl⟩, ⟨fun ξ74 ξ74' h => ⟨by simp only [h 2 (.inl rfl)], rfl, by simp only [h 2 (.inl rfl)]⟩, fun _ => rfl⟩, ⟨fun ξ74 ξ74' h => ⟨by simp only [h 2 (.inr rfl)], rfl, rfl⟩, fun _ => rfl⟩, ⟨fun ξ74 ξ74' h => ⟨by simp only [h 2 (.inr rfl)], rfl, rfl⟩, fun _ => rfl⟩, ⟨fun ξ74 ξ74' h => ⟨rfl, rfl, rfl⟩, fun _ => rfl⟩, ⟨fun ξ74 ξ74' h => ⟨by simp only [h 2 (.inr rfl)], rfl, rfl⟩, fun _ => rfl⟩, ⟨fun ξ74 ξ74' h => ⟨rfl, rfl, rfl⟩, fun _ => rfl⟩, trivial⟩ rfl (fun ξ74 => ?_)
                        refine gx_o rfl (fun L2 => ?_) ?_
                        · dsimp only [maskL, List.cons_append, List.nil_append]
                          refine ox_y rfl (y_loadN 1 [.int .i64 y1.fRise, .int .i64 y1.fFall, .int .i64 y1.fUp, .int .i64 y1.fDown, .slice A3 y1.fLooks.length c4] ag_24 rfl rfl rfl) ?_
                          refine ox_nil ?_
                          exact ex_capG (fun _ => (none, 0, 0)) rfl (List.append_nil _)
                        dsimp only [aftL, List.set_cons_zero, List.set_cons_succ, List.nil_append, List.cons_append, List.append_nil]
                        refine gx_o rfl (fun L2 => ?_) ?_
                        · dsimp only [maskL, List.cons_append, List.nil_append]
                          refine ox_y rfl (y_call [.int .i64 10, .int .i64 15] go_54 rfl (fun W2 hW2 => calxlaw02_at_ok 10 15 y75 hy76 W2 ) rfl) ?_
                          refine ox_nil ?_
                          exact ex_capG (fun _ => (none, 0, 0)) rfl (List.append_nil _)
                        dsimp only [aftL, List.set_cons_zero, List.set_cons_succ, List.nil_append, List.cons_append, List.append_nil]
                        refine gx_o rfl (fun L2 => ?_) ?_
                        · dsimp only [maskL, List.cons_append, List.nil_append]
                          refine ox_call [.agg #[.int .i64 y1.fRise, .int .i64 y1.fFall, .int .i64 y1.fUp, .int .i64 y1.fDown, .slice A3 y1.fLooks.length c4], .agg #[.int .i64 y75.fFoot, .int .i64 y75.fHour]] _ _ _ rfl go_39 rfl (fun W2 hW2 => fire_Rests_ok y1 y75 y77 hy78 W2 A3 y1.fLooks.length c4 rfl ((RdL.row 0 rfl) W2 hW2)) ?_
                          rintro ⟨A79, n81, c80⟩ hn82
                          replace hn82 : n81 = y77.1.length := hn82; subst hn82
                          refine ox_nil ?_
                          exact ex_capG (fun _ => (A79, 0, c80)) rfl rfl
                        dsimp only [aftL, List.set_cons_zero, List.set_cons_succ, List.nil_append, List.cons_append, List.append_nil]
                        refine gx_o rfl (fun L2 => ?_) ?_
                        · dsimp only [maskL, List.cons_append, List.nil_append]
                          refine ox_y rfl (y_move_tuple rfl) ?_
                          refine ox_nil ?_
                          exact ex_capG (fun _ => (none, 0, 0)) rfl (List.append_nil _)
                        dsimp only [aftL, List.set_cons_zero, List.set_cons_succ, List.nil_append, List.cons_append, List.append_nil]
                        refine gx_o rfl (fun L2 => ?_) ?_
                        · dsimp only [maskL, List.cons_append, List.nil_append]
                          refine ox_y rfl (y_extract (vs := [.slice (ξ74 2 0).1 y77.1.length (ξ74 2 0).2.2, .int .i64 y77.2]) (v := .slice (ξ74 2 0).1 y77.1.length (ξ74 2 0).2.2) rfl rfl) ?_
                          refine ox_nil ?_
                          exact ex_capG (fun _ => (none, 0, 0)) rfl (List.append_nil _)
                        dsimp only [aftL, List.set_cons_zero, List.set_cons_succ, List.nil_append, List.cons_append, List.append_nil]
                        refine gx_o rfl (fun L2 => ?_) ?_
                        · dsimp only [maskL, List.cons_append, List.nil_append]
                          refine ox_y rfl (y_extract (vs := [.slice (ξ74 2 0).1 y77.1.length (ξ74 2 0).2.2, .int .i64 y77.2]) (v := .int .i64 y77.2) rfl rfl) ?_
                          refine ox_nil ?_
                          exact ex_capG (fun _ => (none, 0, 0)) rfl (List.append_nil _)
                        dsimp only [aftL, List.set_cons_zero, List.set_cons_succ, List.nil_append, List.cons_append, List.append_nil]
                        refine gx_o rfl (fun L2 => ?_) ?_
                        · dsimp only [maskL, List.cons_append, List.nil_append]
                          refine ox_y rfl (y_assign_slice rfl) ?_
                          refine ox_nil ?_
                          exact ex_capG (fun _ => (none, 0, 0)) rfl (List.append_nil _)
                        dsimp only [aftL, List.set_cons_zero, List.set_cons_succ, List.nil_append, List.cons_append, List.append_nil]
                        refine gx_o rfl (fun L2 => ?_) ?_
                        · dsimp only [maskL, List.cons_append, List.nil_append]
                          refine ox_y rfl (y_assign_int rfl) ?_
                          refine ox_nil ?_
                          exact ex_capG (fun _ => (none, 0, 0)) rfl (List.append_nil _)
                        dsimp only [aftL, List.set_cons_zero, List.set_cons_succ, List.nil_append, List.cons_append, List.append_nil]
                        refine gx_nil ?_
                        refine ex_then ?_
                        refine cx_seq ?_
                        refine cx_draws 11 mixed (by kernel_rfl) (by kernel_rfl) ?_
                        try dsimp only [List.nil_append, List.cons_append, List.set_cons_zero, List.set_cons_succ]
                        refine qx_y rfl (y_loadN 1 [.int .i64 y1.fRise, .int .i64 y1.fFall, .int .i64 y1.fUp, .int .i64 y1.fDown, .slice A3 y1.fLooks.length c4] ag_24 rfl rfl rfl) ?_
                        obtain ⟨y83, hy84, h⟩ := bind_some h
                        refine qx_y rfl (y_call [.int .i64 10, .int .i64 12] go_54 rfl (fun W2 hW2 => calxlaw02_at_ok 10 12 y83 hy84 W2 ) rfl) ?_
                        obtain ⟨y85, hy86, h⟩ := bind_some h
                        refine qx_y rfl (y_call [.int .i64 10, .int .i64 15] go_54 rfl (fun W2 hW2 => calxlaw02_at_ok 10 15 y85 hy86 W2 ) rfl) ?_
                        obtain ⟨y87, hy88, h⟩ := bind_some h
                        refine qx_y rfl (y_call [.agg #[.int .i64 y1.fRise, .int .i64 y1.fFall, .int .i64 y1.fUp, .int .i64 y1.fDown, .slice A3 y1.fLooks.length c4], .agg #[.int .i64 y83.fFoot, .int .i64 y83.fHour], .agg #[.int .i64 y85.fFoot, .int .i64 y85.fHour], .int .i64 900] go_44 rfl (fun W2 hW2 => fire_Needed_ok y1 y83 y85 900 y87 hy88 W2 A3 y1.fLooks.length c4 rfl ((RdL.row 0 rfl) W2 hW2)) rfl) ?_
                        refine qx_y rfl (y_move_tuple rfl) ?_
                        refine qx_y rfl (y_extract (vs := [.int .i64 y87.1, .bool y87.2.1, .int .i64 y87.2.2]) (v := .int .i64 y87.1) rfl rfl) ?_
                        refine qx_y rfl (y_extract (vs := [.int .i64 y87.1, .bool y87.2.1, .int .i64 y87.2.2]) (v := .bool y87.2.1) rfl rfl) ?_
                        refine qx_y rfl (y_extract (vs := [.int .i64 y87.1, .bool y87.2.1, .int .i64 y87.2.2]) (v := .int .i64 y87.2.2) rfl rfl) ?_
                        refine qx_y rfl (y_assign_int rfl) ?_
                        refine qx_y rfl (y_assign_bool rfl) ?_
                        refine qx_y rfl (y_assign_int rfl) ?_
                        refine qx_nil ?_
                        refine ox_nil ?_
                        refine ex_then ?_
                        refine cx_seq ?_
                        obtain ⟨y90, hy91, h⟩ := bind_some h
                        obtain ⟨hg95, h⟩ := guardO_some h
                        refine cx_drawsG [[], [0], [], [], [2, 3], [2, 3, 4], [0, 1, 2, 3, 4, 5], [0, 1, 2, 3, 4, 5, 6], [0, 1, 2, 3, 4, 5, 6, 7]] [(none, 0, [true, true, true, true, true, true, true, true, true, true, true]), (none, 0, [true, true, true, true, true, true, true, true, true, true, true]), (none, 0, [true, true, true, true, true, true, true, true, true, true, true]), (none, 0, [true, true, true, true, true, true, true, true, true, true, true]), (none, 0, [true, true, true, true, true, true, true, true, true, true, true]), (none, 1, [true, true, true, true, true, true, true, true, true, true, true]), (some 0, 0, [true, true, true, true, true, true, true, true, true, true, true, true]), (none, 0, [true, true, true, true, true, true, true, true, true, true, true, true]), (some 1, 0, [true, true, true, true, true, true, true, true, true, true, true, true])] [⟨fun _ => .pointer (some ⟨b7, 0 + 4, none⟩), fun _ => noR, fun _ => []⟩, ⟨fun _ => .slice A3 y1.fLooks.length c4, fun _ => noR, fun _ => []⟩, ⟨fun _ => .agg #[.int .i64 y90.fFoot, .int .i64 y90.fHour], fun _ => noR, fun _ => []⟩, ⟨fun _ => .agg #[.int .i64 600, .int .i64 650], fun _ => noR, fun _ => []⟩, ⟨fun _ => .agg #[.int .i64 4, .int .i64 y90.fFoot, .int .i64 y90.fHour, .int .i64 600, .int .i64 650], fun _ => noR, fun _ => []⟩, ⟨fun ξ89 => .slice (some ⟨(ξ89 5 0).2.1, 0, none⟩) 1 1, fun _ => noR, fun ξ89 => [rowR (some ⟨(ξ89 5 0).2.1, 0, none⟩) 1 34 5 1 (encL TLook_cells [(TLook.mk 4 y90 (TSpan.mk 600 650))])]⟩, ⟨fun ξ89 => .slice (ξ89 6 0).1 (y1.fLooks.length + 1) (ξ89 6 0).2.2, fun ξ89 => rowR (ξ89 6 0).1 (ξ89 6 0).2.2 34 5 (y1.fLooks.length + 1) (encL TLook_cells (y1.fLooks ++ [(TLook.mk 4 y90 (TSpan.mk 600 650))])), fun _ => []⟩, ⟨fun _ => .pointer (some ⟨b7, 0 + 4, none⟩), fun _ => noR, fun _ => []⟩, ⟨fun _ => undef, fun ξ89 => cellsR b7 24 [.int .i64 y1.fRise, .int .i64 y1.fFall, .int .i64 y1.fUp, .int .i64 y1.fDown, .slice (ξ89 6 0).1 (y1.fLooks.length + 1) (ξ89 6 0).2.2], fun _ => []⟩] 11 mixed (by kernel_rfl) (by kernel_rfl) ⟨⟨fun ξ89 ξ89' h => ⟨rfl, rfl, rfl⟩, fun _ => rfl⟩, ⟨fun ξ89 ξ89' h => ⟨rfl, rfl, rfl⟩, fun _ => rfl⟩, ⟨fun ξ89 ξ89' h => ⟨rfl, rfl, rfl⟩, fun _ => rfl⟩, ⟨fun ξ89 ξ89' h => ⟨rfl, rfl, rfl⟩, fun _ => rfl⟩, ⟨fun ξ89 ξ89' h => ⟨rfl, rfl, rfl⟩, fun _ => rfl⟩, ⟨fun ξ89 ξ89' h => ⟨by simp only [h 5 (.inl rfl)], rfl, by simp only [h 5 (.inl rfl)]⟩, fun _ => rfl⟩, ⟨fun ξ89 ξ89' h => ⟨by simp only [h 6 (.inl rfl)], by simp only [h 6 (.inl rfl)], rfl⟩, fun _ => rfl⟩, ⟨fun ξ89 ξ89' h => ⟨rfl, rfl, rfl⟩, fun _ => rfl⟩, ⟨fun ξ89 ξ89' h => ⟨rfl, by simp only [h 6 (.inr rfl)], rfl⟩, fun _ => rfl⟩, trivial⟩ rfl (fun ξ89 => ?_)
                        refine gx_o rfl (fun L2 => ?_) ?_
                        · dsimp only [maskL, List.cons_append, List.nil_append]
                          refine ox_y rfl (y_fieldAddr fo_24_4 rfl) ?_
                          refine ox_nil ?_
                          exact ex_capG (fun _ => (none, 0, 0)) rfl (List.append_nil _)
                        dsimp only [aftL, List.set_cons_zero, List.set_cons_succ, List.nil_append, List.cons_append, List.append_nil]
                        refine gx_o rfl (fun L2 => ?_) ?_
                        · dsimp only [maskL, List.cons_append, List.nil_append]
                          refine ox_y rfl (y_load1 1 (v := .slice A3 y1.fLooks.length c4) sc_22 rfl rfl rfl) ?_
                          refine ox_nil ?_
                          exact ex_capG (fun _ => (none, 0, 0)) rfl (List.append_nil _)
                        dsimp only [aftL, List.set_cons_zero, List.set_cons_succ, List.nil_append, List.cons_append, List.append_nil]
                        refine gx_o rfl (fun L2 => ?_) ?_
                        · dsimp only [maskL, List.cons_append, List.nil_append]
                          refine ox_y rfl (y_call [.int .i64 10, .int .i64 6] go_54 rfl (fun W2 hW2 => calxlaw02_at_ok 10 6 y90 hy91 W2 ) rfl) ?_
                          refine ox_nil ?_
                          exact ex_capG (fun _ => (none, 0, 0)) rfl (List.append_nil _)
                        dsimp only [aftL, List.set_cons_zero, List.set_cons_succ, List.nil_append, List.cons_append, List.append_nil]
                        refine gx_o rfl (fun L2 => ?_) ?_
                        · dsimp only [maskL, List.cons_append, List.nil_append]
                          refine ox_y rfl (y_buildS [.int .i64 600, .int .i64 650] [(0, 1), (1, 1)] ust_32 ze_32 (by kernel_rfl)) ?_
                          refine ox_nil ?_
                          exact ex_capG (fun _ => (none, 0, 0)) rfl (List.append_nil _)
                        dsimp only [aftL, List.set_cons_zero, List.set_cons_succ, List.nil_append, List.cons_append, List.append_nil]
                        refine gx_o rfl (fun L2 => ?_) ?_
                        · dsimp only [maskL, List.cons_append, List.nil_append]
                          refine ox_y rfl (y_buildS [.int .i64 4, .int .i64 y90.fFoot, .int .i64 y90.fHour, .int .i64 600, .int .i64 650] [(0, 1), (1, 2), (3, 2)] ust_34 ze_34 (by kernel_rfl)) ?_
                          refine ox_nil ?_
                          exact ex_capG (fun _ => (none, 0, 0)) rfl (List.append_nil _)
                        dsimp only [aftL, List.set_cons_zero, List.set_cons_succ, List.nil_append, List.cons_append, List.append_nil]
                        refine gx_o rfl (fun L2 => ?_) ?_
                        · dsimp only [maskL, List.cons_append, List.nil_append]
                          refine ox_buildSliceE 1 (encL TLook_cells [(TLook.mk 4 y90 (TSpan.mk 600 650))]) _ mc_34_1 us_22 ze_34 by_34 (by decide) (by decide) (by kernel_rfl) (encL_len TLook_cells_len rfl) rfl (fun b92 => ?_)
                          refine ox_nil ?_
                          exact ex_capG (fun _ => (none, b92, 0)) rfl rfl
                        dsimp only [aftL, List.set_cons_zero, List.set_cons_succ, List.nil_append, List.cons_append, List.append_nil]
                        refine gx_o rfl (fun L2 => ?_) ?_
                        · dsimp only [maskL, List.cons_append, List.nil_append]
                          refine ox_append0 0 us_22 ze_34 by_34 rfl rfl rfl (RdL.row 11 rfl) (encL_len TLook_cells_len rfl) (encL_one TLook_cells_one _) (app_room hg95 (by decide)) rfl (fun A93 c94 => ?_)
                          refine ox_nil ?_
                          exact ex_capG (fun _ => (A93, 0, c94)) rfl (List.append_nil _)
                        dsimp only [aftL, List.set_cons_zero, List.set_cons_succ, List.nil_append, List.cons_append, List.append_nil]
                        refine gx_o rfl (fun L2 => ?_) ?_
                        · dsimp only [maskL, List.cons_append, List.nil_append]
                          refine ox_y rfl (y_fieldAddr fo_24_4 rfl) ?_
                          refine ox_nil ?_
                          exact ex_capG (fun _ => (none, 0, 0)) rfl (List.append_nil _)
                        dsimp only [aftL, List.set_cons_zero, List.set_cons_succ, List.nil_append, List.cons_append, List.append_nil]
                        refine gx_n rfl (fun L2 => ?_) ?_
                        · dsimp only [maskL, List.cons_append, List.nil_append]
                          refine ox_n rfl (y_store1 1 (v := .slice (ξ89 6 0).1 (y1.fLooks.length + 1) (ξ89 6 0).2.2) sz_22 rfl (Nat.lt_of_lt_of_le (Nat.lt_succ_self _) (Nat.le_of_ble_eq_true rfl)) rfl rfl rfl) ?_
                          refine ox_nil ?_
                          exact ex_capGn (fun _ => (none, 0, 0)) (List.append_nil _)
                        dsimp only [aftL, List.set_cons_zero, List.set_cons_succ, List.nil_append, List.cons_append, List.append_nil]
                        refine gx_nil ?_
                        refine ex_then ?_
                        refine cx_seq ?_
                        refine cx_region ?_
                        try dsimp only [List.nil_append, List.cons_append, List.set_cons_zero, List.set_cons_succ]
                        refine ox_y rfl (y_loadN 1 [.int .i64 y1.fRise, .int .i64 y1.fFall, .int .i64 y1.fUp, .int .i64 y1.fDown, .slice (ξ89 6 0).1 (y1.fLooks.length + 1) (ξ89 6 0).2.2] ag_24 rfl rfl rfl) ?_
                        obtain ⟨y96, hy97, h⟩ := bind_some h
                        refine ox_y rfl (y_call [.agg #[.int .i64 y1.fRise, .int .i64 y1.fFall, .int .i64 y1.fUp, .int .i64 y1.fDown, .slice (ξ89 6 0).1 (y1.fLooks.length + 1) (ξ89 6 0).2.2]] go_15 rfl (fun W2 hW2 => fire_Clash_ok (TFire.mk y1.fRise y1.fFall y1.fUp y1.fDown (y1.fLooks ++ [(TLook.mk 4 y90 (TSpan.mk 600 650))])) y96 hy97 W2 (ξ89 6 0).1 (y1.fLooks.length + 1) (ξ89 6 0).2.2 (hn_app rfl rfl) ((RdL.row 0 rfl) W2 hW2)) rfl) ?_
                        refine ox_y rfl (y_move_tuple rfl) ?_
                        refine ox_y rfl (y_extract (vs := [.int .i64 y96.1, .int .i64 y96.2.1, .bool y96.2.2.1, .int .i64 y96.2.2.2]) (v := .int .i64 y96.1) rfl rfl) ?_
                        refine ox_y rfl (y_extract (vs := [.int .i64 y96.1, .int .i64 y96.2.1, .bool y96.2.2.1, .int .i64 y96.2.2.2]) (v := .int .i64 y96.2.1) rfl rfl) ?_
                        refine ox_y rfl (y_extract (vs := [.int .i64 y96.1, .int .i64 y96.2.1, .bool y96.2.2.1, .int .i64 y96.2.2.2]) (v := .bool y96.2.2.1) rfl rfl) ?_
                        refine ox_y rfl (y_extract (vs := [.int .i64 y96.1, .int .i64 y96.2.1, .bool y96.2.2.1, .int .i64 y96.2.2.2]) (v := .int .i64 y96.2.2.2) rfl rfl) ?_
                        refine ox_y rfl (y_assign_int rfl) ?_
                        refine ox_y rfl (y_assign_int rfl) ?_
                        refine ox_y rfl (y_assign_bool rfl) ?_
                        refine ox_y rfl (y_assign_int rfl) ?_
                        refine ox_nil ?_
                        refine ex_then ?_
                        refine cx_seq ?_
                        refine cx_region ?_
                        refine ox_y rfl (y_loadN 1 [.int .i64 y1.fRise, .int .i64 y1.fFall, .int .i64 y1.fUp, .int .i64 y1.fDown, .slice (ξ89 6 0).1 (y1.fLooks.length + 1) (ξ89 6 0).2.2] ag_24 rfl rfl rfl) ?_
                        obtain ⟨y98, hy99, h⟩ := bind_some h
                        refine ox_call [.agg #[.int .i64 y1.fRise, .int .i64 y1.fFall, .int .i64 y1.fUp, .int .i64 y1.fDown, .slice (ξ89 6 0).1 (y1.fLooks.length + 1) (ξ89 6 0).2.2]] _ _ _ rfl go_16 rfl (fun W2 hW2 => fire_Suspects_ok (TFire.mk y1.fRise y1.fFall y1.fUp y1.fDown (y1.fLooks ++ [(TLook.mk 4 y90 (TSpan.mk 600 650))])) y98 hy99 W2 (ξ89 6 0).1 (y1.fLooks.length + 1) (ξ89 6 0).2.2 (hn_app rfl rfl) ((RdL.row 0 rfl) W2 hW2)) ?_
                        rintro ⟨A100, n102, c101⟩ hn103
                        replace hn103 : n102 = y98.1.length := hn103; subst hn103
                        try dsimp only [List.nil_append, List.cons_append, List.set_cons_zero, List.set_cons_succ]
                        refine ox_y rfl (y_move_tuple rfl) ?_
                        refine ox_y rfl (y_extract (vs := [.slice A100 y98.1.length c101, .int .i64 y98.2]) (v := .slice A100 y98.1.length c101) rfl rfl) ?_
                        refine ox_y rfl (y_extract (vs := [.slice A100 y98.1.length c101, .int .i64 y98.2]) (v := .int .i64 y98.2) rfl rfl) ?_
                        refine ox_y rfl (y_assign_slice rfl) ?_
                        refine ox_y rfl (y_assign_int rfl) ?_
                        refine ox_nil ?_
                        refine ex_then ?_
                        refine cx_seq ?_
                        refine cx_region ?_
                        refine ox_y rfl (y_move_int rfl) ?_
                        refine ox_y rfl (y_eql rfl rfl) ?_
                        refine ox_y rfl (y_move_bool rfl) ?_
                        refine ox_join 4 (fun tm0 => (upd (upd (upd (upd (upd (upd (upd (upd (upd (upd (upd (upd (upd (upd (upd (upd (upd (upd (upd tm0 0 (.bool false)) 16 (.bool (((((y25.1.fSpan.fLo == 750) && (y25.1.fSpan.fHi == 950)) && ((y25.1.fLow == 1) && (y25.1.fHigh == 2))) && (((y31.1.fSpan.fLo == 850) && (y31.1.fSpan.fHi == 1050)) && ((y31.1.fLow == 3) && (y31.1.fHigh == 2)))) && (((y37.1.fSpan.fLo == 0) && (y37.1.fSpan.fHi == 1070)) && ((y37.1.fLow == 0) && (y37.1.fHigh == 2)))))) 19 (.pointer (some ⟨b61, 0, none⟩))) 21 (.slice A64 y62.1.length c65)) 22 (.int .i64 y62.2)) 23 (.slice A70 y68.1.length c71)) 24 (.int .i64 y68.2)) 25 (.slice (ξ74 2 0).1 y77.1.length (ξ74 2 0).2.2)) 26 (.int .i64 y77.2)) 27 (.int .i64 y87.1)) 28 (.bool y87.2.1)) 29 (.int .i64 y87.2.2)) 30 (.int .i64 y96.1)) 31 (.int .i64 y96.2.1)) 32 (.bool y96.2.2.1)) 33 (.int .i64 y96.2.2.2)) 34 (.slice A100 y98.1.length c101)) 35 (.int .i64 y98.2)) 189 (.bool ((y58.2.2 == 0) && ((y58.1.fHours == 0) && ((y58.1.fRow == 0) && (y58.1.fSum == 0))))))) (fun tm0 => ?_) (fun key => ?_)
                        · refine ox_y rfl (y_move_bool rfl) ?_
                          refine ox_join 4 (fun tm0 => (upd (upd (upd (upd (upd (upd (upd (upd (upd (upd (upd (upd (upd (upd (upd (upd (upd (upd tm0 0 (.bool false)) 16 (.bool (((((y25.1.fSpan.fLo == 750) && (y25.1.fSpan.fHi == 950)) && ((y25.1.fLow == 1) && (y25.1.fHigh == 2))) && (((y31.1.fSpan.fLo == 850) && (y31.1.fSpan.fHi == 1050)) && ((y31.1.fLow == 3) && (y31.1.fHigh == 2)))) && (((y37.1.fSpan.fLo == 0) && (y37.1.fSpan.fHi == 1070)) && ((y37.1.fLow == 0) && (y37.1.fHigh == 2)))))) 21 (.slice A64 y62.1.length c65)) 22 (.int .i64 y62.2)) 23 (.slice A70 y68.1.length c71)) 24 (.int .i64 y68.2)) 25 (.slice (ξ74 2 0).1 y77.1.length (ξ74 2 0).2.2)) 26 (.int .i64 y77.2)) 27 (.int .i64 y87.1)) 28 (.bool y87.2.1)) 29 (.int .i64 y87.2.2)) 30 (.int .i64 y96.1)) 31 (.int .i64 y96.2.1)) 32 (.bool y96.2.2.1)) 33 (.int .i64 y96.2.2.2)) 34 (.slice A100 y98.1.length c101)) 35 (.int .i64 y98.2)) 194 (.bool (((y58.2.2 == 0) && ((y58.1.fHours == 0) && ((y58.1.fRow == 0) && (y58.1.fSum == 0)))) && ((y58.2.1.fHours == 3) && ((y58.2.1.fRow == 3) && (y58.2.1.fSum == 420))))))) (fun tm0 => ?_) (fun key => ?_)
                          · refine ox_y rfl (y_move_bool rfl) ?_
                            refine ox_join 3 (fun tm0 => (upd (upd (upd (upd (upd (upd (upd (upd (upd (upd (upd (upd (upd (upd (upd (upd (upd tm0 0 (.bool false)) 16 (.bool (((((y25.1.fSpan.fLo == 750) && (y25.1.fSpan.fHi == 950)) && ((y25.1.fLow == 1) && (y25.1.fHigh == 2))) && (((y31.1.fSpan.fLo == 850) && (y31.1.fSpan.fHi == 1050)) && ((y31.1.fLow == 3) && (y31.1.fHigh == 2)))) && (((y37.1.fSpan.fLo == 0) && (y37.1.fSpan.fHi == 1070)) && ((y37.1.fLow == 0) && (y37.1.fHigh == 2)))))) 21 (.slice A64 y62.1.length c65)) 23 (.slice A70 y68.1.length c71)) 24 (.int .i64 y68.2)) 25 (.slice (ξ74 2 0).1 y77.1.length (ξ74 2 0).2.2)) 26 (.int .i64 y77.2)) 27 (.int .i64 y87.1)) 28 (.bool y87.2.1)) 29 (.int .i64 y87.2.2)) 30 (.int .i64 y96.1)) 31 (.int .i64 y96.2.1)) 32 (.bool y96.2.2.1)) 33 (.int .i64 y96.2.2.2)) 34 (.slice A100 y98.1.length c101)) 35 (.int .i64 y98.2)) 198 (.bool ((((y58.2.2 == 0) && ((y58.1.fHours == 0) && ((y58.1.fRow == 0) && (y58.1.fSum == 0)))) && ((y58.2.1.fHours == 3) && ((y58.2.1.fRow == 3) && (y58.2.1.fSum == 420)))) && (y62.2 == 0))))) (fun tm0 => ?_) (fun key => ?_)
                            · refine ox_y rfl (y_move_bool rfl) ?_
                              obtain ⟨b108, hb109, h⟩ := bind_some h
                              refine ox_join 5 (fun tm0 => (upd (upd (upd (upd (upd (upd (upd (upd (upd (upd (upd (upd (upd (upd (upd (upd tm0 0 (.bool false)) 16 (.bool (((((y25.1.fSpan.fLo == 750) && (y25.1.fSpan.fHi == 950)) && ((y25.1.fLow == 1) && (y25.1.fHigh == 2))) && (((y31.1.fSpan.fLo == 850) && (y31.1.fSpan.fHi == 1050)) && ((y31.1.fLow == 3) && (y31.1.fHigh == 2)))) && (((y37.1.fSpan.fLo == 0) && (y37.1.fSpan.fHi == 1070)) && ((y37.1.fLow == 0) && (y37.1.fHigh == 2)))))) 23 (.slice A70 y68.1.length c71)) 24 (.int .i64 y68.2)) 25 (.slice (ξ74 2 0).1 y77.1.length (ξ74 2 0).2.2)) 26 (.int .i64 y77.2)) 27 (.int .i64 y87.1)) 28 (.bool y87.2.1)) 29 (.int .i64 y87.2.2)) 30 (.int .i64 y96.1)) 31 (.int .i64 y96.2.1)) 32 (.bool y96.2.2.1)) 33 (.int .i64 y96.2.2.2)) 34 (.slice A100 y98.1.length c101)) 35 (.int .i64 y98.2)) 204 (.bool b108))) (fun tm0 => ?_) (fun key => ?_)
                              · refine ox_y rfl (y_move_bool rfl) ?_
                                refine ox_join 3 (fun tm0 => (upd (upd (upd (upd (upd (upd (upd (upd (upd (upd (upd (upd (upd (upd (upd tm0 0 (.bool false)) 16 (.bool (((((y25.1.fSpan.fLo == 750) && (y25.1.fSpan.fHi == 950)) && ((y25.1.fLow == 1) && (y25.1.fHigh == 2))) && (((y31.1.fSpan.fLo == 850) && (y31.1.fSpan.fHi == 1050)) && ((y31.1.fLow == 3) && (y31.1.fHigh == 2)))) && (((y37.1.fSpan.fLo == 0) && (y37.1.fSpan.fHi == 1070)) && ((y37.1.fLow == 0) && (y37.1.fHigh == 2)))))) 23 (.slice A70 y68.1.length c71)) 25 (.slice (ξ74 2 0).1 y77.1.length (ξ74 2 0).2.2)) 26 (.int .i64 y77.2)) 27 (.int .i64 y87.1)) 28 (.bool y87.2.1)) 29 (.int .i64 y87.2.2)) 30 (.int .i64 y96.1)) 31 (.int .i64 y96.2.1)) 32 (.bool y96.2.2.1)) 33 (.int .i64 y96.2.2.2)) 34 (.slice A100 y98.1.length c101)) 35 (.int .i64 y98.2)) 208 (.bool (b108 && (y68.2 == 0))))) (fun tm0 => ?_) (fun key => ?_)
                                · refine ox_y rfl (y_move_bool rfl) ?_
                                  obtain ⟨b112, hb113, h⟩ := bind_some h
                                  refine ox_join 5 (fun tm0 => (upd (upd (upd (upd (upd (upd (upd (upd (upd (upd (upd (upd (upd (upd tm0 0 (.bool false)) 16 (.bool (((((y25.1.fSpan.fLo == 750) && (y25.1.fSpan.fHi == 950)) && ((y25.1.fLow == 1) && (y25.1.fHigh == 2))) && (((y31.1.fSpan.fLo == 850) && (y31.1.fSpan.fHi == 1050)) && ((y31.1.fLow == 3) && (y31.1.fHigh == 2)))) && (((y37.1.fSpan.fLo == 0) && (y37.1.fSpan.fHi == 1070)) && ((y37.1.fLow == 0) && (y37.1.fHigh == 2)))))) 25 (.slice (ξ74 2 0).1 y77.1.length (ξ74 2 0).2.2)) 26 (.int .i64 y77.2)) 27 (.int .i64 y87.1)) 28 (.bool y87.2.1)) 29 (.int .i64 y87.2.2)) 30 (.int .i64 y96.1)) 31 (.int .i64 y96.2.1)) 32 (.bool y96.2.2.1)) 33 (.int .i64 y96.2.2.2)) 34 (.slice A100 y98.1.length c101)) 35 (.int .i64 y98.2)) 214 (.bool b112))) (fun tm0 => ?_) (fun key => ?_)
                                  · refine ox_y rfl (y_assign_bool rfl) ?_
                                    refine ox_nil ?_
                                    refine ex_then ?_
                                    refine cx_seq ?_
                                    refine cx_region ?_
                                    refine ox_y rfl (y_move_bool rfl) ?_
                                    refine ox_y rfl (y_move_bool rfl) ?_
                                    refine ox_join 2 (fun tm0 => (upd (upd (upd (upd (upd (upd (upd (upd (upd (upd (upd (upd (upd tm0 0 (.bool false)) 25 (.slice (ξ74 2 0).1 y77.1.length (ξ74 2 0).2.2)) 26 (.int .i64 y77.2)) 27 (.int .i64 y87.1)) 28 (.bool y87.2.1)) 29 (.int .i64 y87.2.2)) 30 (.int .i64 y96.1)) 31 (.int .i64 y96.2.1)) 32 (.bool y96.2.2.1)) 33 (.int .i64 y96.2.2.2)) 34 (.slice A100 y98.1.length c101)) 35 (.int .i64 y98.2)) 218 (.bool ((((((y25.1.fSpan.fLo == 750) && (y25.1.fSpan.fHi == 950)) && ((y25.1.fLow == 1) && (y25.1.fHigh == 2))) && (((y31.1.fSpan.fLo == 850) && (y31.1.fSpan.fHi == 1050)) && ((y31.1.fLow == 3) && (y31.1.fHigh == 2)))) && (((y37.1.fSpan.fLo == 0) && (y37.1.fSpan.fHi == 1070)) && ((y37.1.fLow == 0) && (y37.1.fHigh == 2)))) && b112)))) (fun tm0 => ?_) (fun key => ?_)
                                    · refine ox_y rfl (y_move_bool rfl) ?_
                                      refine ox_join 3 (fun tm0 => (upd (upd (upd (upd (upd (upd (upd (upd (upd (upd (upd (upd tm0 0 (.bool false)) 25 (.slice (ξ74 2 0).1 y77.1.length (ξ74 2 0).2.2)) 27 (.int .i64 y87.1)) 28 (.bool y87.2.1)) 29 (.int .i64 y87.2.2)) 30 (.int .i64 y96.1)) 31 (.int .i64 y96.2.1)) 32 (.bool y96.2.2.1)) 33 (.int .i64 y96.2.2.2)) 34 (.slice A100 y98.1.length c101)) 35 (.int .i64 y98.2)) 222 (.bool (((((((y25.1.fSpan.fLo == 750) && (y25.1.fSpan.fHi == 950)) && ((y25.1.fLow == 1) && (y25.1.fHigh == 2))) && (((y31.1.fSpan.fLo == 850) && (y31.1.fSpan.fHi == 1050)) && ((y31.1.fLow == 3) && (y31.1.fHigh == 2)))) && (((y37.1.fSpan.fLo == 0) && (y37.1.fSpan.fHi == 1070)) && ((y37.1.fLow == 0) && (y37.1.fHigh == 2)))) && b112) && (y77.2 == 0))))) (fun tm0 => ?_) (fun key => ?_)
                                      · refine ox_y rfl (y_move_bool rfl) ?_
                                        obtain ⟨b117, hb118, h⟩ := bind_some h
                                        refine ox_join 4 (fun tm0 => (upd (upd (upd (upd (upd (upd (upd (upd (upd (upd (upd tm0 0 (.bool false)) 27 (.int .i64 y87.1)) 28 (.bool y87.2.1)) 29 (.int .i64 y87.2.2)) 30 (.int .i64 y96.1)) 31 (.int .i64 y96.2.1)) 32 (.bool y96.2.2.1)) 33 (.int .i64 y96.2.2.2)) 34 (.slice A100 y98.1.length c101)) 35 (.int .i64 y98.2)) 227 (.bool b117))) (fun tm0 => ?_) (fun key => ?_)
                                        · refine ox_y rfl (y_move_bool rfl) ?_
                                          refine ox_join 3 (fun tm0 => (upd (upd (upd (upd (upd (upd (upd (upd (upd (upd tm0 0 (.bool false)) 27 (.int .i64 y87.1)) 28 (.bool y87.2.1)) 30 (.int .i64 y96.1)) 31 (.int .i64 y96.2.1)) 32 (.bool y96.2.2.1)) 33 (.int .i64 y96.2.2.2)) 34 (.slice A100 y98.1.length c101)) 35 (.int .i64 y98.2)) 231 (.bool (b117 && (y87.2.2 == 0))))) (fun tm0 => ?_) (fun key => ?_)
                                          · refine ox_y rfl (y_move_bool rfl) ?_
                                            refine ox_join 2 (fun tm0 => (upd (upd (upd (upd (upd (upd (upd (upd (upd tm0 0 (.bool false)) 27 (.int .i64 y87.1)) 30 (.int .i64 y96.1)) 31 (.int .i64 y96.2.1)) 32 (.bool y96.2.2.1)) 33 (.int .i64 y96.2.2.2)) 34 (.slice A100 y98.1.length c101)) 35 (.int .i64 y98.2)) 234 (.bool ((b117 && (y87.2.2 == 0)) && y87.2.1)))) (fun tm0 => ?_) (fun key => ?_)
                                            · refine ox_y rfl (y_move_bool rfl) ?_
                                              refine ox_join 3 (fun tm0 => (upd (upd (upd (upd (upd (upd (upd (upd tm0 0 (.bool false)) 30 (.int .i64 y96.1)) 31 (.int .i64 y96.2.1)) 32 (.bool y96.2.2.1)) 33 (.int .i64 y96.2.2.2)) 34 (.slice A100 y98.1.length c101)) 35 (.int .i64 y98.2)) 238 (.bool (((b117 && (y87.2.2 == 0)) && y87.2.1) && (y87.1 == 930))))) (fun tm0 => ?_) (fun key => ?_)
                                              · refine ox_y rfl (y_move_bool rfl) ?_
                                                refine ox_join 3 (fun tm0 => (upd (upd (upd (upd (upd (upd (upd tm0 0 (.bool false)) 30 (.int .i64 y96.1)) 31 (.int .i64 y96.2.1)) 32 (.bool y96.2.2.1)) 34 (.slice A100 y98.1.length c101)) 35 (.int .i64 y98.2)) 242 (.bool ((((b117 && (y87.2.2 == 0)) && y87.2.1) && (y87.1 == 930)) && (y96.2.2.2 == 0))))) (fun tm0 => ?_) (fun key => ?_)
                                                · refine ox_y rfl (y_move_bool rfl) ?_
                                                  refine ox_join 2 (fun tm0 => (upd (upd (upd (upd (upd (upd tm0 0 (.bool false)) 30 (.int .i64 y96.1)) 31 (.int .i64 y96.2.1)) 34 (.slice A100 y98.1.length c101)) 35 (.int .i64 y98.2)) 245 (.bool (((((b117 && (y87.2.2 == 0)) && y87.2.1) && (y87.1 == 930)) && (y96.2.2.2 == 0)) && y96.2.2.1)))) (fun tm0 => ?_) (fun key => ?_)
                                                  · refine ox_y rfl (y_move_bool rfl) ?_
                                                    refine ox_join 3 (fun tm0 => (upd (upd (upd (upd (upd tm0 0 (.bool false)) 31 (.int .i64 y96.2.1)) 34 (.slice A100 y98.1.length c101)) 35 (.int .i64 y98.2)) 249 (.bool ((((((b117 && (y87.2.2 == 0)) && y87.2.1) && (y87.1 == 930)) && (y96.2.2.2 == 0)) && y96.2.2.1) && (y96.1 == 4))))) (fun tm0 => ?_) (fun key => ?_)
                                                    · refine ox_y rfl (y_move_bool rfl) ?_
                                                      refine ox_join 3 (fun tm0 => (upd (upd (upd (upd tm0 0 (.bool false)) 34 (.slice A100 y98.1.length c101)) 35 (.int .i64 y98.2)) 253 (.bool (((((((b117 && (y87.2.2 == 0)) && y87.2.1) && (y87.1 == 930)) && (y96.2.2.2 == 0)) && y96.2.2.1) && (y96.1 == 4)) && (y96.2.1 == 1))))) (fun tm0 => ?_) (fun key => ?_)
                                                      · refine ox_y rfl (y_move_bool rfl) ?_
                                                        refine ox_join 3 (fun tm0 => (upd (upd (upd tm0 0 (.bool false)) 34 (.slice A100 y98.1.length c101)) 257 (.bool ((((((((b117 && (y87.2.2 == 0)) && y87.2.1) && (y87.1 == 930)) && (y96.2.2.2 == 0)) && y96.2.2.1) && (y96.1 == 4)) && (y96.2.1 == 1)) && (y98.2 == 0))))) (fun tm0 => ?_) (fun key => ?_)
                                                        · refine ox_y rfl (y_move_bool rfl) ?_
                                                          obtain ⟨b128, hb129, h⟩ := bind_some h
                                                          refine ox_join 4 (fun tm0 => (upd (upd tm0 0 (.bool false)) 262 (.bool b128))) (fun tm0 => ?_) (fun key => ?_)
                                                          · refine ox_y rfl (y_assign_bool rfl) ?_
                                                            refine ox_nil ?_
                                                            refine ex_then ?_
                                                            refine cx_ret ?_
                                                            obtain rfl := Option.some.inj h
                                                            exact ex_res1 (.inl rfl) rfl (resV_tmp (v := .bool b128) rfl) (fun W2 hW2 => ⟨rfl, hW2.none⟩)
                                                          · clear h; rcases ite_some hb129 with ⟨hp127, h⟩ | ⟨hp127, h⟩
                                                            · refine ox_y (sees_t rfl rfl rfl rfl hp127) (y_move_slice rfl) ?_
                                                              refine ox_buildSliceE 1 (encL cI [4]) _ mc_3_1 us_41 ze_3 by_3 (by decide) (by decide) (by kernel_rfl) (encL_len cI_len rfl) (sees_t rfl rfl rfl rfl hp127) (fun b130 => ?_)
                                                              try dsimp only [List.nil_append, List.cons_append, List.set_cons_zero, List.set_cons_succ]
                                                              obtain ⟨y131, hy132, h⟩ := bind_some h
                                                              refine ox_y (sees_t rfl rfl rfl rfl hp127) (y_call [.slice A100 y98.1.length c101, .slice (some ⟨b130, 0, none⟩) 1 1] go_17 rfl (fun W2 hW2 => calxref02_SameInts_ok y98.1 [4] y131 hy132 W2 A100 y98.1.length c101 rfl ((RdL.row 12 rfl) W2 hW2) (some ⟨b130, 0, none⟩) 1 1 rfl ((RdL.row 13 rfl) W2 hW2)) rfl) ?_
                                                              refine ox_y rfl (y_pick_tb (congrArg Value.bool hp127) rfl) ?_
                                                              obtain rfl := Option.some.inj h
                                                              refine ox_take 13 ?_
                                                              exact key _ _ (keep (keep rfl rfl) rfl)
                                                            · refine ox_skip (sees_f rfl rfl rfl rfl hp127) ?_
                                                              refine ox_skip (sees_f rfl rfl rfl rfl hp127) ?_
                                                              refine ox_skip (sees_f rfl rfl rfl rfl hp127) ?_
                                                              refine ox_y rfl (y_pick_fb (congrArg Value.bool hp127) rfl) ?_
                                                              obtain rfl := Option.some.inj h
                                                              exact key _ _ (keep (keep rfl rfl) rfl)
                                                        · rcases bool_cases (((((((b117 && (y87.2.2 == 0)) && y87.2.1) && (y87.1 == 930)) && (y96.2.2.2 == 0)) && y96.2.2.1) && (y96.1 == 4)) && (y96.2.1 == 1)) with hp126 | hp126
                                                          · refine ox_y (sees_t rfl rfl rfl rfl hp126) (y_move_int rfl) ?_
                                                            refine ox_y (sees_t rfl rfl rfl rfl hp126) (y_eql rfl rfl) ?_
                                                            refine ox_y rfl (y_pick_tb (congrArg Value.bool hp126) rfl) ?_
                                                            exact key _ _ (keep (keep (keep rfl rfl) rfl) (congrArg Value.bool (and_t hp126)))
                                                          · refine ox_skip (sees_f rfl rfl rfl rfl hp126) ?_
                                                            refine ox_skip (sees_f rfl rfl rfl rfl hp126) ?_
                                                            refine ox_y rfl (y_pick_fb (congrArg Value.bool hp126) rfl) ?_
                                                            exact key _ _ (keep (keep (keep rfl rfl) rfl) (congrArg Value.bool (and_f hp126)))
                                                      · rcases bool_cases ((((((b117 && (y87.2.2 == 0)) && y87.2.1) && (y87.1 == 930)) && (y96.2.2.2 == 0)) && y96.2.2.1) && (y96.1 == 4)) with hp125 | hp125
                                                        · refine ox_y (sees_t rfl rfl rfl rfl hp125) (y_move_int rfl) ?_
                                                          refine ox_y (sees_t rfl rfl rfl rfl hp125) (y_eql rfl rfl) ?_
                                                          refine ox_y rfl (y_pick_tb (congrArg Value.bool hp125) rfl) ?_
                                                          exact key _ _ (keep (keep (keep (keep rfl rfl) rfl) rfl) (congrArg Value.bool (and_t hp125)))
                                                        · refine ox_skip (sees_f rfl rfl rfl rfl hp125) ?_
                                                          refine ox_skip (sees_f rfl rfl rfl rfl hp125) ?_
                                                          refine ox_y rfl (y_pick_fb (congrArg Value.bool hp125) rfl) ?_
                                                          exact key _ _ (keep (keep (keep (keep rfl rfl) rfl) rfl) (congrArg Value.bool (and_f hp125)))
                                                    · rcases bool_cases (((((b117 && (y87.2.2 == 0)) && y87.2.1) && (y87.1 == 930)) && (y96.2.2.2 == 0)) && y96.2.2.1) with hp124 | hp124
                                                      · refine ox_y (sees_t rfl rfl rfl rfl hp124) (y_move_int rfl) ?_
                                                        refine ox_y (sees_t rfl rfl rfl rfl hp124) (y_eql rfl rfl) ?_
                                                        refine ox_y rfl (y_pick_tb (congrArg Value.bool hp124) rfl) ?_
                                                        exact key _ _ (keep (keep (keep (keep (keep rfl rfl) rfl) rfl) rfl) (congrArg Value.bool (and_t hp124)))
                                                      · refine ox_skip (sees_f rfl rfl rfl rfl hp124) ?_
                                                        refine ox_skip (sees_f rfl rfl rfl rfl hp124) ?_
                                                        refine ox_y rfl (y_pick_fb (congrArg Value.bool hp124) rfl) ?_
                                                        exact key _ _ (keep (keep (keep (keep (keep rfl rfl) rfl) rfl) rfl) (congrArg Value.bool (and_f hp124)))
                                                  · rcases bool_cases ((((b117 && (y87.2.2 == 0)) && y87.2.1) && (y87.1 == 930)) && (y96.2.2.2 == 0)) with hp123 | hp123
                                                    · refine ox_y (sees_t rfl rfl rfl rfl hp123) (y_move_bool rfl) ?_
                                                      refine ox_y rfl (y_pick_tb (congrArg Value.bool hp123) rfl) ?_
                                                      exact key _ _ (keep (keep (keep (keep (keep (keep rfl rfl) rfl) rfl) rfl) rfl) (congrArg Value.bool (and_t hp123)))
                                                    · refine ox_skip (sees_f rfl rfl rfl rfl hp123) ?_
                                                      refine ox_y rfl (y_pick_fb (congrArg Value.bool hp123) rfl) ?_
                                                      exact key _ _ (keep (keep (keep (keep (keep (keep rfl rfl) rfl) rfl) rfl) rfl) (congrArg Value.bool (and_f hp123)))
                                                · rcases bool_cases (((b117 && (y87.2.2 == 0)) && y87.2.1) && (y87.1 == 930)) with hp122 | hp122
                                                  · refine ox_y (sees_t rfl rfl rfl rfl hp122) (y_move_int rfl) ?_
                                                    refine ox_y (sees_t rfl rfl rfl rfl hp122) (y_eql rfl rfl) ?_
                                                    refine ox_y rfl (y_pick_tb (congrArg Value.bool hp122) rfl) ?_
                                                    exact key _ _ (keep (keep (keep (keep (keep (keep (keep rfl rfl) rfl) rfl) rfl) rfl) rfl) (congrArg Value.bool (and_t hp122)))
                                                  · refine ox_skip (sees_f rfl rfl rfl rfl hp122) ?_
                                                    refine ox_skip (sees_f rfl rfl rfl rfl hp122) ?_
                                                    refine ox_y rfl (y_pick_fb (congrArg Value.bool hp122) rfl) ?_
                                                    exact key _ _ (keep (keep (keep (keep (keep (keep (keep rfl rfl) rfl) rfl) rfl) rfl) rfl) (congrArg Value.bool (and_f hp122)))
                                              · rcases bool_cases ((b117 && (y87.2.2 == 0)) && y87.2.1) with hp121 | hp121
                                                · refine ox_y (sees_t rfl rfl rfl rfl hp121) (y_move_int rfl) ?_
                                                  refine ox_y (sees_t rfl rfl rfl rfl hp121) (y_eql rfl rfl) ?_
                                                  refine ox_y rfl (y_pick_tb (congrArg Value.bool hp121) rfl) ?_
                                                  exact key _ _ (keep (keep (keep (keep (keep (keep (keep (keep rfl rfl) rfl) rfl) rfl) rfl) rfl) rfl) (congrArg Value.bool (and_t hp121)))
                                                · refine ox_skip (sees_f rfl rfl rfl rfl hp121) ?_
                                                  refine ox_skip (sees_f rfl rfl rfl rfl hp121) ?_
                                                  refine ox_y rfl (y_pick_fb (congrArg Value.bool hp121) rfl) ?_
                                                  exact key _ _ (keep (keep (keep (keep (keep (keep (keep (keep rfl rfl) rfl) rfl) rfl) rfl) rfl) rfl) (congrArg Value.bool (and_f hp121)))
                                            · rcases bool_cases (b117 && (y87.2.2 == 0)) with hp120 | hp120
                                              · refine ox_y (sees_t rfl rfl rfl rfl hp120) (y_move_bool rfl) ?_
                                                refine ox_y rfl (y_pick_tb (congrArg Value.bool hp120) rfl) ?_
                                                exact key _ _ (keep (keep (keep (keep (keep (keep (keep (keep (keep rfl rfl) rfl) rfl) rfl) rfl) rfl) rfl) rfl) (congrArg Value.bool (and_t hp120)))
                                              · refine ox_skip (sees_f rfl rfl rfl rfl hp120) ?_
                                                refine ox_y rfl (y_pick_fb (congrArg Value.bool hp120) rfl) ?_
                                                exact key _ _ (keep (keep (keep (keep (keep (keep (keep (keep (keep rfl rfl) rfl) rfl) rfl) rfl) rfl) rfl) rfl) (congrArg Value.bool (and_f hp120)))
                                          · rcases bool_cases b117 with hp119 | hp119
                                            · refine ox_y (sees_t rfl rfl rfl rfl hp119) (y_move_int rfl) ?_
                                              refine ox_y (sees_t rfl rfl rfl rfl hp119) (y_eql rfl rfl) ?_
                                              refine ox_y rfl (y_pick_tb (congrArg Value.bool hp119) rfl) ?_
                                              exact key _ _ (keep (keep (keep (keep (keep (keep (keep (keep (keep (keep rfl rfl) rfl) rfl) rfl) rfl) rfl) rfl) rfl) rfl) (congrArg Value.bool (and_t hp119)))
                                            · refine ox_skip (sees_f rfl rfl rfl rfl hp119) ?_
                                              refine ox_skip (sees_f rfl rfl rfl rfl hp119) ?_
                                              refine ox_y rfl (y_pick_fb (congrArg Value.bool hp119) rfl) ?_
                                              exact key _ _ (keep (keep (keep (keep (keep (keep (keep (keep (keep (keep rfl rfl) rfl) rfl) rfl) rfl) rfl) rfl) rfl) rfl) (congrArg Value.bool (and_f hp119)))
                                        · clear h; rcases ite_some hb118 with ⟨hp116, h⟩ | ⟨hp116, h⟩
                                          · refine ox_y (sees_t rfl rfl rfl rfl hp116) (y_move_slice rfl) ?_
                                            refine ox_buildSliceE 1 (encL cI [3]) _ mc_3_1 us_41 ze_3 by_3 (by decide) (by decide) (by kernel_rfl) (encL_len cI_len rfl) (sees_t rfl rfl rfl rfl hp116) (fun b133 => ?_)
                                            try dsimp only [List.nil_append, List.cons_append, List.set_cons_zero, List.set_cons_succ]
                                            obtain ⟨y134, hy135, h⟩ := bind_some h
                                            refine ox_y (sees_t rfl rfl rfl rfl hp116) (y_call [.slice (ξ74 2 0).1 y77.1.length (ξ74 2 0).2.2, .slice (some ⟨b133, 0, none⟩) 1 1] go_17 rfl (fun W2 hW2 => calxref02_SameInts_ok y77.1 [3] y134 hy135 W2 (ξ74 2 0).1 y77.1.length (ξ74 2 0).2.2 rfl ((RdL.row 10 rfl) W2 hW2) (some ⟨b133, 0, none⟩) 1 1 rfl ((RdL.row 13 rfl) W2 hW2)) rfl) ?_
                                            refine ox_y rfl (y_pick_tb (congrArg Value.bool hp116) rfl) ?_
                                            obtain rfl := Option.some.inj h
                                            refine ox_take 13 ?_
                                            exact key _ _ (keep (keep (keep (keep (keep (keep (keep (keep (keep (keep (keep rfl rfl) rfl) rfl) rfl) rfl) rfl) rfl) rfl) rfl) rfl) rfl)
                                          · refine ox_skip (sees_f rfl rfl rfl rfl hp116) ?_
                                            refine ox_skip (sees_f rfl rfl rfl rfl hp116) ?_
                                            refine ox_skip (sees_f rfl rfl rfl rfl hp116) ?_
                                            refine ox_y rfl (y_pick_fb (congrArg Value.bool hp116) rfl) ?_
                                            obtain rfl := Option.some.inj h
                                            exact key _ _ (keep (keep (keep (keep (keep (keep (keep (keep (keep (keep (keep rfl rfl) rfl) rfl) rfl) rfl) rfl) rfl) rfl) rfl) rfl) rfl)
                                      · rcases bool_cases ((((((y25.1.fSpan.fLo == 750) && (y25.1.fSpan.fHi == 950)) && ((y25.1.fLow == 1) && (y25.1.fHigh == 2))) && (((y31.1.fSpan.fLo == 850) && (y31.1.fSpan.fHi == 1050)) && ((y31.1.fLow == 3) && (y31.1.fHigh == 2)))) && (((y37.1.fSpan.fLo == 0) && (y37.1.fSpan.fHi == 1070)) && ((y37.1.fLow == 0) && (y37.1.fHigh == 2)))) && b112) with hp115 | hp115
                                        · refine ox_y (sees_t rfl rfl rfl rfl hp115) (y_move_int rfl) ?_
                                          refine ox_y (sees_t rfl rfl rfl rfl hp115) (y_eql rfl rfl) ?_
                                          refine ox_y rfl (y_pick_tb (congrArg Value.bool hp115) rfl) ?_
                                          exact key _ _ (keep (keep (keep (keep (keep (keep (keep (keep (keep (keep (keep (keep rfl rfl) rfl) rfl) rfl) rfl) rfl) rfl) rfl) rfl) rfl) rfl) (congrArg Value.bool (and_t hp115)))
                                        · refine ox_skip (sees_f rfl rfl rfl rfl hp115) ?_
                                          refine ox_skip (sees_f rfl rfl rfl rfl hp115) ?_
                                          refine ox_y rfl (y_pick_fb (congrArg Value.bool hp115) rfl) ?_
                                          exact key _ _ (keep (keep (keep (keep (keep (keep (keep (keep (keep (keep (keep (keep rfl rfl) rfl) rfl) rfl) rfl) rfl) rfl) rfl) rfl) rfl) rfl) (congrArg Value.bool (and_f hp115)))
                                    · rcases bool_cases (((((y25.1.fSpan.fLo == 750) && (y25.1.fSpan.fHi == 950)) && ((y25.1.fLow == 1) && (y25.1.fHigh == 2))) && (((y31.1.fSpan.fLo == 850) && (y31.1.fSpan.fHi == 1050)) && ((y31.1.fLow == 3) && (y31.1.fHigh == 2)))) && (((y37.1.fSpan.fLo == 0) && (y37.1.fSpan.fHi == 1070)) && ((y37.1.fLow == 0) && (y37.1.fHigh == 2)))) with hp114 | hp114
                                      · refine ox_y (sees_t rfl rfl rfl rfl hp114) (y_move_bool rfl) ?_
                                        refine ox_y rfl (y_pick_tb (congrArg Value.bool hp114) rfl) ?_
                                        exact key _ _ (keep (keep (keep (keep (keep (keep (keep (keep (keep (keep (keep (keep (keep rfl rfl) rfl) rfl) rfl) rfl) rfl) rfl) rfl) rfl) rfl) rfl) rfl) (congrArg Value.bool (and_t hp114)))
                                      · refine ox_skip (sees_f rfl rfl rfl rfl hp114) ?_
                                        refine ox_y rfl (y_pick_fb (congrArg Value.bool hp114) rfl) ?_
                                        exact key _ _ (keep (keep (keep (keep (keep (keep (keep (keep (keep (keep (keep (keep (keep rfl rfl) rfl) rfl) rfl) rfl) rfl) rfl) rfl) rfl) rfl) rfl) rfl) (congrArg Value.bool (and_f hp114)))
                                  · clear h; rcases ite_some hb113 with ⟨hp111, h⟩ | ⟨hp111, h⟩
                                    · refine ox_y (sees_t rfl rfl rfl rfl hp111) (y_move_slice rfl) ?_
                                      refine ox_y (sees_t rfl rfl rfl rfl hp111) (y_buildS [.int .i64 1, .int .i64 2] [(0, 1), (1, 1)] ust_32 ze_32 (by kernel_rfl)) ?_
                                      refine ox_buildSliceE 1 (encL TSpan_cells [(TSpan.mk 1 2)]) _ mc_32_1 us_55 ze_32 by_32 (by decide) (by decide) (by kernel_rfl) (encL_len TSpan_cells_len rfl) (sees_t rfl rfl rfl rfl hp111) (fun b136 => ?_)
                                      try dsimp only [List.nil_append, List.cons_append, List.set_cons_zero, List.set_cons_succ]
                                      obtain ⟨y137, hy138, h⟩ := bind_some h
                                      refine ox_y (sees_t rfl rfl rfl rfl hp111) (y_call [.slice A70 y68.1.length c71, .slice (some ⟨b136, 0, none⟩) 1 1] go_27 rfl (fun W2 hW2 => calxref02_SameSpans_ok y68.1 [(TSpan.mk 1 2)] y137 hy138 W2 A70 y68.1.length c71 rfl ((RdL.row 9 rfl) W2 hW2) (some ⟨b136, 0, none⟩) 1 1 rfl ((RdL.row 13 rfl) W2 hW2)) rfl) ?_
                                      refine ox_y rfl (y_pick_tb (congrArg Value.bool hp111) rfl) ?_
                                      obtain rfl := Option.some.inj h
                                      refine ox_take 13 ?_
                                      exact key _ _ (keep (keep (keep (keep (keep (keep (keep (keep (keep (keep (keep (keep (keep (keep rfl rfl) rfl) rfl) rfl) rfl) rfl) rfl) rfl) rfl) rfl) rfl) rfl) rfl) rfl)
                                    · refine ox_skip (sees_f rfl rfl rfl rfl hp111) ?_
                                      refine ox_skip (sees_f rfl rfl rfl rfl hp111) ?_
                                      refine ox_skip (sees_f rfl rfl rfl rfl hp111) ?_
                                      refine ox_skip (sees_f rfl rfl rfl rfl hp111) ?_
                                      refine ox_y rfl (y_pick_fb (congrArg Value.bool hp111) rfl) ?_
                                      obtain rfl := Option.some.inj h
                                      exact key _ _ (keep (keep (keep (keep (keep (keep (keep (keep (keep (keep (keep (keep (keep (keep rfl rfl) rfl) rfl) rfl) rfl) rfl) rfl) rfl) rfl) rfl) rfl) rfl) rfl) rfl)
                                · rcases bool_cases b108 with hp110 | hp110
                                  · refine ox_y (sees_t rfl rfl rfl rfl hp110) (y_move_int rfl) ?_
                                    refine ox_y (sees_t rfl rfl rfl rfl hp110) (y_eql rfl rfl) ?_
                                    refine ox_y rfl (y_pick_tb (congrArg Value.bool hp110) rfl) ?_
                                    exact key _ _ (keep (keep (keep (keep (keep (keep (keep (keep (keep (keep (keep (keep (keep (keep (keep rfl rfl) rfl) rfl) rfl) rfl) rfl) rfl) rfl) rfl) rfl) rfl) rfl) rfl) rfl) (congrArg Value.bool (and_t hp110)))
                                  · refine ox_skip (sees_f rfl rfl rfl rfl hp110) ?_
                                    refine ox_skip (sees_f rfl rfl rfl rfl hp110) ?_
                                    refine ox_y rfl (y_pick_fb (congrArg Value.bool hp110) rfl) ?_
                                    exact key _ _ (keep (keep (keep (keep (keep (keep (keep (keep (keep (keep (keep (keep (keep (keep (keep rfl rfl) rfl) rfl) rfl) rfl) rfl) rfl) rfl) rfl) rfl) rfl) rfl) rfl) rfl) (congrArg Value.bool (and_f hp110)))
                              · clear h; rcases ite_some hb109 with ⟨hp107, h⟩ | ⟨hp107, h⟩
                                · refine ox_y (sees_t rfl rfl rfl rfl hp107) (y_move_slice rfl) ?_
                                  refine ox_y (sees_t rfl rfl rfl rfl hp107) (y_buildS [.int .i64 1, .int .i64 2] [(0, 1), (1, 1)] ust_32 ze_32 (by kernel_rfl)) ?_
                                  refine ox_buildSliceE 1 (encL TSpan_cells [(TSpan.mk 1 2)]) _ mc_32_1 us_55 ze_32 by_32 (by decide) (by decide) (by kernel_rfl) (encL_len TSpan_cells_len rfl) (sees_t rfl rfl rfl rfl hp107) (fun b139 => ?_)
                                  try dsimp only [List.nil_append, List.cons_append, List.set_cons_zero, List.set_cons_succ]
                                  obtain ⟨y140, hy141, h⟩ := bind_some h
                                  refine ox_y (sees_t rfl rfl rfl rfl hp107) (y_call [.slice A64 y62.1.length c65, .slice (some ⟨b139, 0, none⟩) 1 1] go_27 rfl (fun W2 hW2 => calxref02_SameSpans_ok y62.1 [(TSpan.mk 1 2)] y140 hy141 W2 A64 y62.1.length c65 rfl ((RdL.row 8 rfl) W2 hW2) (some ⟨b139, 0, none⟩) 1 1 rfl ((RdL.row 13 rfl) W2 hW2)) rfl) ?_
                                  refine ox_y rfl (y_pick_tb (congrArg Value.bool hp107) rfl) ?_
                                  obtain rfl := Option.some.inj h
                                  refine ox_take 13 ?_
                                  exact key _ _ (keep (keep (keep (keep (keep (keep (keep (keep (keep (keep (keep (keep (keep (keep (keep (keep rfl rfl) rfl) rfl) rfl) rfl) rfl) rfl) rfl) rfl) rfl) rfl) rfl) rfl) rfl) rfl) rfl)
                                · refine ox_skip (sees_f rfl rfl rfl rfl hp107) ?_
                                  refine ox_skip (sees_f rfl rfl rfl rfl hp107) ?_
                                  refine ox_skip (sees_f rfl rfl rfl rfl hp107) ?_
                                  refine ox_skip (sees_f rfl rfl rfl rfl hp107) ?_
                                  refine ox_y rfl (y_pick_fb (congrArg Value.bool hp107) rfl) ?_
                                  obtain rfl := Option.some.inj h
                                  exact key _ _ (keep (keep (keep (keep (keep (keep (keep (keep (keep (keep (keep (keep (keep (keep (keep (keep rfl rfl) rfl) rfl) rfl) rfl) rfl) rfl) rfl) rfl) rfl) rfl) rfl) rfl) rfl) rfl) rfl)
                            · rcases bool_cases (((y58.2.2 == 0) && ((y58.1.fHours == 0) && ((y58.1.fRow == 0) && (y58.1.fSum == 0)))) && ((y58.2.1.fHours == 3) && ((y58.2.1.fRow == 3) && (y58.2.1.fSum == 420)))) with hp106 | hp106
                              · refine ox_y (sees_t rfl rfl rfl rfl hp106) (y_move_int rfl) ?_
                                refine ox_y (sees_t rfl rfl rfl rfl hp106) (y_eql rfl rfl) ?_
                                refine ox_y rfl (y_pick_tb (congrArg Value.bool hp106) rfl) ?_
                                exact key _ _ (keep (keep (keep (keep (keep (keep (keep (keep (keep (keep (keep (keep (keep (keep (keep (keep (keep rfl rfl) rfl) rfl) rfl) rfl) rfl) rfl) rfl) rfl) rfl) rfl) rfl) rfl) rfl) rfl) rfl) (congrArg Value.bool (and_t hp106)))
                              · refine ox_skip (sees_f rfl rfl rfl rfl hp106) ?_
                                refine ox_skip (sees_f rfl rfl rfl rfl hp106) ?_
                                refine ox_y rfl (y_pick_fb (congrArg Value.bool hp106) rfl) ?_
                                exact key _ _ (keep (keep (keep (keep (keep (keep (keep (keep (keep (keep (keep (keep (keep (keep (keep (keep (keep rfl rfl) rfl) rfl) rfl) rfl) rfl) rfl) rfl) rfl) rfl) rfl) rfl) rfl) rfl) rfl) rfl) (congrArg Value.bool (and_f hp106)))
                          · rcases bool_cases ((y58.2.2 == 0) && ((y58.1.fHours == 0) && ((y58.1.fRow == 0) && (y58.1.fSum == 0)))) with hp105 | hp105
                            · refine ox_y (sees_t rfl rfl rfl rfl hp105) (y_loadN 7 [.int .i64 y58.2.1.fHours, .int .i64 y58.2.1.fRow, .int .i64 y58.2.1.fSum] ag_49 rfl rfl rfl) ?_
                              refine ox_y (sees_t rfl rfl rfl rfl hp105) (y_buildS [.int .i64 3, .int .i64 3, .int .i64 420] [(0, 1), (1, 1), (2, 1)] ust_49 ze_49 (by kernel_rfl)) ?_
                              refine ox_y (sees_t rfl rfl rfl rfl hp105) (y_eqla (b := ((y58.2.1.fHours == 3) && ((y58.2.1.fRow == 3) && (y58.2.1.fSum == 420)))) eg_49 rfl rfl (fun _ => (eqS3 fl_49 (part1 sc_3 rfl) (part1 sc_3 rfl) (part1 sc_3 rfl) (part1 sc_3 rfl) (part1 sc_3 rfl) (part1 sc_3 rfl) (run_equalIn_int _ _ _ _ _ _ _ ui_3) (run_equalIn_int _ _ _ _ _ _ _ ui_3) (run_equalIn_int _ _ _ _ _ _ _ ui_3)))) ?_
                              refine ox_y rfl (y_pick_tb (congrArg Value.bool hp105) rfl) ?_
                              exact key _ _ (keep (keep (keep (keep (keep (keep (keep (keep (keep (keep (keep (keep (keep (keep (keep (keep (keep (keep rfl rfl) rfl) rfl) rfl) rfl) rfl) rfl) rfl) rfl) rfl) rfl) rfl) rfl) rfl) rfl) rfl) rfl) (congrArg Value.bool (and_t hp105)))
                            · refine ox_skip (sees_f rfl rfl rfl rfl hp105) ?_
                              refine ox_skip (sees_f rfl rfl rfl rfl hp105) ?_
                              refine ox_skip (sees_f rfl rfl rfl rfl hp105) ?_
                              refine ox_y rfl (y_pick_fb (congrArg Value.bool hp105) rfl) ?_
                              exact key _ _ (keep (keep (keep (keep (keep (keep (keep (keep (keep (keep (keep (keep (keep (keep (keep (keep (keep (keep rfl rfl) rfl) rfl) rfl) rfl) rfl) rfl) rfl) rfl) rfl) rfl) rfl) rfl) rfl) rfl) rfl) rfl) (congrArg Value.bool (and_f hp105)))
                        · rcases bool_cases (y58.2.2 == 0) with hp104 | hp104
                          · refine ox_y (sees_t rfl rfl rfl rfl hp104) (y_loadN 6 [.int .i64 y58.1.fHours, .int .i64 y58.1.fRow, .int .i64 y58.1.fSum] ag_49 rfl rfl rfl) ?_
                            refine ox_y (sees_t rfl rfl rfl rfl hp104) (y_buildS [.int .i64 0, .int .i64 0, .int .i64 0] [(0, 1), (1, 1), (2, 1)] ust_49 ze_49 (by kernel_rfl)) ?_
                            refine ox_y (sees_t rfl rfl rfl rfl hp104) (y_eqla (b := ((y58.1.fHours == 0) && ((y58.1.fRow == 0) && (y58.1.fSum == 0)))) eg_49 rfl rfl (fun _ => (eqS3 fl_49 (part1 sc_3 rfl) (part1 sc_3 rfl) (part1 sc_3 rfl) (part1 sc_3 rfl) (part1 sc_3 rfl) (part1 sc_3 rfl) (run_equalIn_int _ _ _ _ _ _ _ ui_3) (run_equalIn_int _ _ _ _ _ _ _ ui_3) (run_equalIn_int _ _ _ _ _ _ _ ui_3)))) ?_
                            refine ox_y rfl (y_pick_tb (congrArg Value.bool hp104) rfl) ?_
                            exact key _ _ (keep (keep (keep (keep (keep (keep (keep (keep (keep (keep (keep (keep (keep (keep (keep (keep (keep (keep (keep rfl rfl) rfl) rfl) rfl) rfl) rfl) rfl) rfl) rfl) rfl) rfl) rfl) rfl) rfl) rfl) rfl) rfl) rfl) (congrArg Value.bool (and_t hp104)))
                          · refine ox_skip (sees_f rfl rfl rfl rfl hp104) ?_
                            refine ox_skip (sees_f rfl rfl rfl rfl hp104) ?_
                            refine ox_skip (sees_f rfl rfl rfl rfl hp104) ?_
                            refine ox_y rfl (y_pick_fb (congrArg Value.bool hp104) rfl) ?_
                            exact key _ _ (keep (keep (keep (keep (keep (keep (keep (keep (keep (keep (keep (keep (keep (keep (keep (keep (keep (keep (keep rfl rfl) rfl) rfl) rfl) rfl) rfl) rfl) rfl) rfl) rfl) rfl) rfl) rfl) rfl) rfl) rfl) rfl) rfl) (congrArg Value.bool (and_f hp104)))
                      · rcases bool_cases ((((y25.1.fSpan.fLo == 750) && (y25.1.fSpan.fHi == 950)) && ((y25.1.fLow == 1) && (y25.1.fHigh == 2))) && (((y31.1.fSpan.fLo == 850) && (y31.1.fSpan.fHi == 1050)) && ((y31.1.fLow == 3) && (y31.1.fHigh == 2)))) with hp50 | hp50
                        · refine ox_y (sees_t rfl rfl rfl rfl hp50) (y_loadN 4 [.int .i64 y37.1.fSpan.fLo, .int .i64 y37.1.fSpan.fHi, .int .i64 y37.1.fLow, .int .i64 y37.1.fHigh] ag_36 rfl rfl rfl) ?_
                          refine ox_y (sees_t rfl rfl rfl rfl hp50) (y_buildS [.int .i64 0, .int .i64 1070] [(0, 1), (1, 1)] ust_32 ze_32 (by kernel_rfl)) ?_
                          refine ox_y (sees_t rfl rfl rfl rfl hp50) (y_buildS [.int .i64 0, .int .i64 1070, .int .i64 0, .int .i64 2] [(0, 2), (2, 1), (3, 1)] ust_36 ze_36 (by kernel_rfl)) ?_
                          refine ox_y (sees_t rfl rfl rfl rfl hp50) (y_eqla (b := (((y37.1.fSpan.fLo == 0) && (y37.1.fSpan.fHi == 1070)) && ((y37.1.fLow == 0) && (y37.1.fHigh == 2)))) eg_36 rfl rfl (fun _ => (eqS3 fl_36 (partN (cs := #[.int .i64 y37.1.fSpan.fLo, .int .i64 y37.1.fSpan.fHi]) ag_32 (by kernel_rfl)) (part1 sc_3 rfl) (part1 sc_3 rfl) (partN (cs := #[.int .i64 0, .int .i64 1070]) ag_32 (by kernel_rfl)) (part1 sc_3 rfl) (part1 sc_3 rfl) (eqS2 fl_32 (part1 sc_3 rfl) (part1 sc_3 rfl) (part1 sc_3 rfl) (part1 sc_3 rfl) (run_equalIn_int _ _ _ _ _ _ _ ui_3) (run_equalIn_int _ _ _ _ _ _ _ ui_3)) (run_equalIn_int _ _ _ _ _ _ _ ui_3) (run_equalIn_int _ _ _ _ _ _ _ ui_3)))) ?_
                          refine ox_y rfl (y_pick_tb (congrArg Value.bool hp50) rfl) ?_
                          exact key _ _ (keep (keep (keep rfl rfl) rfl) (congrArg Value.bool (and_t hp50)))
                        · refine ox_skip (sees_f rfl rfl rfl rfl hp50) ?_
                          refine ox_skip (sees_f rfl rfl rfl rfl hp50) ?_
                          refine ox_skip (sees_f rfl rfl rfl rfl hp50) ?_
                          refine ox_skip (sees_f rfl rfl rfl rfl hp50) ?_
                          refine ox_y rfl (y_pick_fb (congrArg Value.bool hp50) rfl) ?_
                          exact key _ _ (keep (keep (keep rfl rfl) rfl) (congrArg Value.bool (and_f hp50)))
                    · rcases bool_cases (((y25.1.fSpan.fLo == 750) && (y25.1.fSpan.fHi == 950)) && ((y25.1.fLow == 1) && (y25.1.fHigh == 2))) with hp49 | hp49
                      · refine ox_y (sees_t rfl rfl rfl rfl hp49) (y_loadN 3 [.int .i64 y31.1.fSpan.fLo, .int .i64 y31.1.fSpan.fHi, .int .i64 y31.1.fLow, .int .i64 y31.1.fHigh] ag_36 rfl rfl rfl) ?_
                        refine ox_y (sees_t rfl rfl rfl rfl hp49) (y_buildS [.int .i64 850, .int .i64 1050] [(0, 1), (1, 1)] ust_32 ze_32 (by kernel_rfl)) ?_
                        refine ox_y (sees_t rfl rfl rfl rfl hp49) (y_buildS [.int .i64 850, .int .i64 1050, .int .i64 3, .int .i64 2] [(0, 2), (2, 1), (3, 1)] ust_36 ze_36 (by kernel_rfl)) ?_
                        refine ox_y (sees_t rfl rfl rfl rfl hp49) (y_eqla (b := (((y31.1.fSpan.fLo == 850) && (y31.1.fSpan.fHi == 1050)) && ((y31.1.fLow == 3) && (y31.1.fHigh == 2)))) eg_36 rfl rfl (fun _ => (eqS3 fl_36 (partN (cs := #[.int .i64 y31.1.fSpan.fLo, .int .i64 y31.1.fSpan.fHi]) ag_32 (by kernel_rfl)) (part1 sc_3 rfl) (part1 sc_3 rfl) (partN (cs := #[.int .i64 850, .int .i64 1050]) ag_32 (by kernel_rfl)) (part1 sc_3 rfl) (part1 sc_3 rfl) (eqS2 fl_32 (part1 sc_3 rfl) (part1 sc_3 rfl) (part1 sc_3 rfl) (part1 sc_3 rfl) (run_equalIn_int _ _ _ _ _ _ _ ui_3) (run_equalIn_int _ _ _ _ _ _ _ ui_3)) (run_equalIn_int _ _ _ _ _ _ _ ui_3) (run_equalIn_int _ _ _ _ _ _ _ ui_3)))) ?_
                        refine ox_y rfl (y_pick_tb (congrArg Value.bool hp49) rfl) ?_
                        exact key _ _ (keep (keep (keep (keep rfl rfl) rfl) rfl) (congrArg Value.bool (and_t hp49)))
                      · refine ox_skip (sees_f rfl rfl rfl rfl hp49) ?_
                        refine ox_skip (sees_f rfl rfl rfl rfl hp49) ?_
                        refine ox_skip (sees_f rfl rfl rfl rfl hp49) ?_
                        refine ox_skip (sees_f rfl rfl rfl rfl hp49) ?_
                        refine ox_y rfl (y_pick_fb (congrArg Value.bool hp49) rfl) ?_
                        exact key _ _ (keep (keep (keep (keep rfl rfl) rfl) rfl) (congrArg Value.bool (and_f hp49)))
                · rcases bool_cases ((((((((y12.2 != 0) || (y12.1 != 70)) || (y18.2 != 0)) || (y18.1 != 90)) || (y20.2.2.2 != 0)) || y20.2.2.1) || (y25.2 != 0)) || (y31.2 != 0)) with hp47 | hp47
                  · refine ox_skip (sees_f rfl rfl rfl rfl hp47) ?_
                    refine ox_skip (sees_f rfl rfl rfl rfl hp47) ?_
                    refine ox_y rfl (y_pick_tb (congrArg Value.bool hp47) rfl) ?_
                    exact key _ _ (keep (keep (keep (keep (keep (keep rfl rfl) rfl) rfl) rfl) rfl) (congrArg Value.bool (or_t hp47)))
                  · refine ox_y (sees_t rfl rfl rfl rfl hp47) (y_move_int rfl) ?_
                    refine ox_y (sees_t rfl rfl rfl rfl hp47) (y_neq rfl rfl) ?_
                    refine ox_y rfl (y_pick_fb (congrArg Value.bool hp47) rfl) ?_
                    exact key _ _ (keep (keep (keep (keep (keep (keep rfl rfl) rfl) rfl) rfl) rfl) (congrArg Value.bool (or_f hp47)))
              · rcases bool_cases (((((((y12.2 != 0) || (y12.1 != 70)) || (y18.2 != 0)) || (y18.1 != 90)) || (y20.2.2.2 != 0)) || y20.2.2.1) || (y25.2 != 0)) with hp46 | hp46
                · refine ox_skip (sees_f rfl rfl rfl rfl hp46) ?_
                  refine ox_skip (sees_f rfl rfl rfl rfl hp46) ?_
                  refine ox_y rfl (y_pick_tb (congrArg Value.bool hp46) rfl) ?_
                  exact key _ _ (keep (keep (keep (keep (keep (keep (keep rfl rfl) rfl) rfl) rfl) rfl) rfl) (congrArg Value.bool (or_t hp46)))
                · refine ox_y (sees_t rfl rfl rfl rfl hp46) (y_move_int rfl) ?_
                  refine ox_y (sees_t rfl rfl rfl rfl hp46) (y_neq rfl rfl) ?_
                  refine ox_y rfl (y_pick_fb (congrArg Value.bool hp46) rfl) ?_
                  exact key _ _ (keep (keep (keep (keep (keep (keep (keep rfl rfl) rfl) rfl) rfl) rfl) rfl) (congrArg Value.bool (or_f hp46)))
            · rcases bool_cases ((((((y12.2 != 0) || (y12.1 != 70)) || (y18.2 != 0)) || (y18.1 != 90)) || (y20.2.2.2 != 0)) || y20.2.2.1) with hp45 | hp45
              · refine ox_skip (sees_f rfl rfl rfl rfl hp45) ?_
                refine ox_skip (sees_f rfl rfl rfl rfl hp45) ?_
                refine ox_y rfl (y_pick_tb (congrArg Value.bool hp45) rfl) ?_
                exact key _ _ (keep (keep (keep (keep (keep (keep (keep (keep rfl rfl) rfl) rfl) rfl) rfl) rfl) rfl) (congrArg Value.bool (or_t hp45)))
              · refine ox_y (sees_t rfl rfl rfl rfl hp45) (y_move_int rfl) ?_
                refine ox_y (sees_t rfl rfl rfl rfl hp45) (y_neq rfl rfl) ?_
                refine ox_y rfl (y_pick_fb (congrArg Value.bool hp45) rfl) ?_
                exact key _ _ (keep (keep (keep (keep (keep (keep (keep (keep rfl rfl) rfl) rfl) rfl) rfl) rfl) rfl) (congrArg Value.bool (or_f hp45)))
          · rcases bool_cases (((((y12.2 != 0) || (y12.1 != 70)) || (y18.2 != 0)) || (y18.1 != 90)) || (y20.2.2.2 != 0)) with hp44 | hp44
            · refine ox_skip (sees_f rfl rfl rfl rfl hp44) ?_
              refine ox_y rfl (y_pick_tb (congrArg Value.bool hp44) rfl) ?_
              exact key _ _ (keep (keep (keep (keep (keep (keep (keep (keep (keep rfl rfl) rfl) rfl) rfl) rfl) rfl) rfl) rfl) (congrArg Value.bool (or_t hp44)))
            · refine ox_y (sees_t rfl rfl rfl rfl hp44) (y_move_bool rfl) ?_
              refine ox_y rfl (y_pick_fb (congrArg Value.bool hp44) rfl) ?_
              exact key _ _ (keep (keep (keep (keep (keep (keep (keep (keep (keep rfl rfl) rfl) rfl) rfl) rfl) rfl) rfl) rfl) (congrArg Value.bool (or_f hp44)))
        · rcases bool_cases ((((y12.2 != 0) || (y12.1 != 70)) || (y18.2 != 0)) || (y18.1 != 90)) with hp43 | hp43
          · refine ox_skip (sees_f rfl rfl rfl rfl hp43) ?_
            refine ox_skip (sees_f rfl rfl rfl rfl hp43) ?_
            refine ox_y rfl (y_pick_tb (congrArg Value.bool hp43) rfl) ?_
            exact key _ _ (keep (keep (keep (keep (keep (keep (keep (keep (keep (keep rfl rfl) rfl) rfl) rfl) rfl) rfl) rfl) rfl) rfl) (congrArg Value.bool (or_t hp43)))
          · refine ox_y (sees_t rfl rfl rfl rfl hp43) (y_move_int rfl) ?_
            refine ox_y (sees_t rfl rfl rfl rfl hp43) (y_neq rfl rfl) ?_
            refine ox_y rfl (y_pick_fb (congrArg Value.bool hp43) rfl) ?_
            exact key _ _ (keep (keep (keep (keep (keep (keep (keep (keep (keep (keep rfl rfl) rfl) rfl) rfl) rfl) rfl) rfl) rfl) rfl) (congrArg Value.bool (or_f hp43)))
      · rcases bool_cases (((y12.2 != 0) || (y12.1 != 70)) || (y18.2 != 0)) with hp42 | hp42
        · refine ox_skip (sees_f rfl rfl rfl rfl hp42) ?_
          refine ox_skip (sees_f rfl rfl rfl rfl hp42) ?_
          refine ox_y rfl (y_pick_tb (congrArg Value.bool hp42) rfl) ?_
          exact key _ _ (keep (keep (keep (keep (keep (keep (keep (keep (keep (keep (keep rfl rfl) rfl) rfl) rfl) rfl) rfl) rfl) rfl) rfl) rfl) (congrArg Value.bool (or_t hp42)))
        · refine ox_y (sees_t rfl rfl rfl rfl hp42) (y_move_int rfl) ?_
          refine ox_y (sees_t rfl rfl rfl rfl hp42) (y_neq rfl rfl) ?_
          refine ox_y rfl (y_pick_fb (congrArg Value.bool hp42) rfl) ?_
          exact key _ _ (keep (keep (keep (keep (keep (keep (keep (keep (keep (keep (keep rfl rfl) rfl) rfl) rfl) rfl) rfl) rfl) rfl) rfl) rfl) (congrArg Value.bool (or_f hp42)))
    · rcases bool_cases ((y12.2 != 0) || (y12.1 != 70)) with hp41 | hp41
      · refine ox_skip (sees_f rfl rfl rfl rfl hp41) ?_
        refine ox_skip (sees_f rfl rfl rfl rfl hp41) ?_
        refine ox_y rfl (y_pick_tb (congrArg Value.bool hp41) rfl) ?_
        exact key _ _ (keep (keep (keep (keep (keep (keep (keep (keep (keep (keep (keep (keep rfl rfl) rfl) rfl) rfl) rfl) rfl) rfl) rfl) rfl) rfl) rfl) (congrArg Value.bool (or_t hp41)))
      · refine ox_y (sees_t rfl rfl rfl rfl hp41) (y_move_int rfl) ?_
        refine ox_y (sees_t rfl rfl rfl rfl hp41) (y_neq rfl rfl) ?_
        refine ox_y rfl (y_pick_fb (congrArg Value.bool hp41) rfl) ?_
        exact key _ _ (keep (keep (keep (keep (keep (keep (keep (keep (keep (keep (keep (keep rfl rfl) rfl) rfl) rfl) rfl) rfl) rfl) rfl) rfl) rfl) rfl) (congrArg Value.bool (or_f hp41)))
  · rcases bool_cases (y12.2 != 0) with hp40 | hp40
    · refine ox_skip (sees_f rfl rfl rfl rfl hp40) ?_
      refine ox_skip (sees_f rfl rfl rfl rfl hp40) ?_
      refine ox_y rfl (y_pick_tb (congrArg Value.bool hp40) rfl) ?_
      exact key _ _ (keep (keep (keep (keep (keep (keep (keep (keep (keep (keep (keep (keep (keep rfl rfl) rfl) rfl) rfl) rfl) rfl) rfl) rfl) rfl) rfl) rfl) rfl) (congrArg Value.bool (or_t hp40)))
    · refine ox_y (sees_t rfl rfl rfl rfl hp40) (y_move_int rfl) ?_
      refine ox_y (sees_t rfl rfl rfl rfl hp40) (y_neq rfl rfl) ?_
      refine ox_y rfl (y_pick_fb (congrArg Value.bool hp40) rfl) ?_
      exact key _ _ (keep (keep (keep (keep (keep (keep (keep (keep (keep (keep (keep (keep (keep rfl rfl) rfl) rfl) rfl) rfl) rfl) rfl) rfl) rfl) rfl) rfl) rfl) (congrArg Value.bool (or_f hp40)))

end Go.Proofs.Ytndajeiecdmhnaa
