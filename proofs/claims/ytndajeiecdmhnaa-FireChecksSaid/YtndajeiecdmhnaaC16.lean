/- The calls hand back what the plain functions say. -/
import Derived.Test.YtndajeiecdmhnaaF
import Derived.Test.YtndajeiecdmhnaaC0
import Derived.Test.YtndajeiecdmhnaaC2
import Derived.Test.YtndajeiecdmhnaaC3
import Derived.Test.YtndajeiecdmhnaaC4
import Derived.Test.YtndajeiecdmhnaaC5
import Derived.Test.YtndajeiecdmhnaaC8
import Derived.Test.YtndajeiecdmhnaaC9
import Derived.Test.YtndajeiecdmhnaaC15
set_option linter.unusedVariables false
set_option maxHeartbeats 4000000
namespace Go.Proofs.Ytndajeiecdmhnaa
open Go.RowKit (Below)
attribute [local irreducible] OX QX CX EX OpY Calls CallsIn

/-! calx/calxlaw02.FireChecks -/
set_option maxRecDepth 100000 in
theorem calxlaw02_FireChecks_ok (p0 : TFire) (p1 : TSpot) (p2 : TSpot) (p3 : Int) (p4 : Int) (p5 : (List Int)) (res : Bool) (h : calxlaw02_FireChecks p0 p1 p2 p3 p4 p5 = some res) (W : World) (A0_4 : Option Addr) (n0_4 c0_4 : Nat) (hn0_4 : n0_4 = p0.fLooks.length) (hr0_4 : Rd W A0_4 n0_4 c0_4 (encL TLook_cells p0.fLooks)) (A5_0 : Option Addr) (n5_0 c5_0 : Nat) (hn5_0 : n5_0 = p5.length) (hr5_0 : Rd W A5_0 n5_0 c5_0 (encL cI p5)) :
    Calls Try.prog 6 [.agg #[.int .i64 p0.fRise, .int .i64 p0.fFall, .int .i64 p0.fUp, .int .i64 p0.fDown, .slice A0_4 n0_4 c0_4], .agg #[.int .i64 p1.fFoot, .int .i64 p1.fHour], .agg #[.int .i64 p2.fFoot, .int .i64 p2.fHour], .int .i64 p3, .int .i64 p4, .slice A5_0 n5_0 c5_0].toArray W fun e W2 => e = .returned (.bool res) ∧ Ext W W2 [] := by
  subst hn0_4
  subst hn5_0
  unfold calxlaw02_FireChecks at h
  refine calls_enter (m := 155) Try.func6 rfl rfl (Nat.le_of_ble_eq_true rfl) ?_
  refine cx_seq ?_
  refine cx_region ?_
  refine ox_box [.int .i64 p0.fRise, .int .i64 p0.fFall, .int .i64 p0.fUp, .int .i64 p0.fDown, .slice A0_4 p0.fLooks.length c0_4] rfl rfl rfl (fun b1 => ?_)
  refine ox_box [.int .i64 p1.fFoot, .int .i64 p1.fHour] rfl rfl rfl (fun b2 => ?_)
  refine ox_box [.int .i64 p2.fFoot, .int .i64 p2.fHour] rfl rfl rfl (fun b3 => ?_)
  refine ox_y rfl (y_assign_bool rfl) ?_
  refine ox_nil ?_
  refine ex_then ?_
  refine cx_seq ?_
  refine cx_seq ?_
  refine cx_region ?_
  refine ox_y rfl (y_loadN 0 [.int .i64 p0.fRise, .int .i64 p0.fFall, .int .i64 p0.fUp, .int .i64 p0.fDown, .slice A0_4 p0.fLooks.length c0_4] ag_24 rfl rfl rfl) ?_
  obtain ⟨y4, hy5, h⟩ := bind_some h
  refine ox_y rfl (y_call [.agg #[.int .i64 p0.fRise, .int .i64 p0.fFall, .int .i64 p0.fUp, .int .i64 p0.fDown, .slice A0_4 p0.fLooks.length c0_4]] go_11 rfl (fun W2 hW2 => calxlaw02_few_ok p0 y4 hy5 W2 A0_4 p0.fLooks.length c0_4 rfl ((RdL.arg hr0_4) W2 hW2)) rfl) ?_
  refine ox_y rfl (y_not rfl) ?_
  refine ox_y rfl (y_move_bool rfl) ?_
  refine ox_join 4 (fun tm0 => (upd (upd (upd (upd (upd (upd (upd (upd tm0 3 (.int .i64 p3)) 4 (.int .i64 p4)) 5 (.slice A5_0 p5.length c5_0)) 6 (.pointer (some ⟨b1, 0, none⟩))) 7 (.pointer (some ⟨b2, 0, none⟩))) 8 (.pointer (some ⟨b3, 0, none⟩))) 12 (.bool false)) 36 (.bool ((!y4) || (decide (40 < ((p5.length : Nat) : Int))))))) (fun tm0 => ?_) (fun key => ?_)
  · refine ox_nil ?_
    refine ex_then ?_
    rcases ite_some h with ⟨hp7, h⟩ | ⟨hp7, h⟩
    · refine cx_true (congrArg Value.bool hp7) ?_
      refine cx_seq ?_
      refine cx_region ?_
      obtain ⟨y8, hy9, h⟩ := bind_some h
      refine ox_y rfl (y_call [] go_13 rfl (fun W2 hW2 => calxlaw02_sanity_ok  y8 hy9 W2 ) rfl) ?_
      refine ox_y rfl (y_assign_bool rfl) ?_
      refine ox_nil ?_
      refine ex_then ?_
      refine cx_ret ?_
      refine ex_then_ret ?_
      obtain rfl := Option.some.inj h
      exact ex_res1 (.inl rfl) rfl (resV_tmp (v := .bool y8) rfl) (fun W2 hW2 => ⟨rfl, hW2.none⟩)
    · refine cx_false (congrArg Value.bool hp7) ?_
      refine cx_skip ?_
      refine ex_then ?_
      refine cx_seq ?_
      refine cx_region ?_
      refine ox_y rfl (y_loadN 0 [.int .i64 p0.fRise, .int .i64 p0.fFall, .int .i64 p0.fUp, .int .i64 p0.fDown, .slice A0_4 p0.fLooks.length c0_4] ag_24 rfl rfl rfl) ?_
      refine ox_y rfl (y_loadN 1 [.int .i64 p1.fFoot, .int .i64 p1.fHour] ag_26 rfl rfl rfl) ?_
      refine ox_y rfl (y_loadN 2 [.int .i64 p2.fFoot, .int .i64 p2.fHour] ag_26 rfl rfl rfl) ?_
      obtain ⟨y10, hy11, h⟩ := bind_some h
      refine ox_y rfl (y_call [.agg #[.int .i64 p0.fRise, .int .i64 p0.fFall, .int .i64 p0.fUp, .int .i64 p0.fDown, .slice A0_4 p0.fLooks.length c0_4], .agg #[.int .i64 p1.fFoot, .int .i64 p1.fHour], .agg #[.int .i64 p2.fFoot, .int .i64 p2.fHour]] go_30 rfl (fun W2 hW2 => fire_Far_ok p0 p1 p2 y10 hy11 W2 A0_4 p0.fLooks.length c0_4 rfl ((RdL.arg hr0_4) W2 hW2)) rfl) ?_
      refine ox_y rfl (y_move_tuple rfl) ?_
      refine ox_y rfl (y_extract (vs := [.int .i64 y10.1, .int .i64 y10.2]) (v := .int .i64 y10.1) rfl rfl) ?_
      refine ox_y rfl (y_extract (vs := [.int .i64 y10.1, .int .i64 y10.2]) (v := .int .i64 y10.2) rfl rfl) ?_
      refine ox_y rfl (y_assign_int rfl) ?_
      refine ox_y rfl (y_assign_int rfl) ?_
      refine ox_nil ?_
      refine ex_then ?_
      refine cx_seq ?_
      refine cx_region ?_
      refine ox_y rfl (y_loadN 0 [.int .i64 p0.fRise, .int .i64 p0.fFall, .int .i64 p0.fUp, .int .i64 p0.fDown, .slice A0_4 p0.fLooks.length c0_4] ag_24 rfl rfl rfl) ?_
      refine ox_y rfl (y_loadN 1 [.int .i64 p1.fFoot, .int .i64 p1.fHour] ag_26 rfl rfl rfl) ?_
      refine ox_y rfl (y_loadN 2 [.int .i64 p2.fFoot, .int .i64 p2.fHour] ag_26 rfl rfl rfl) ?_
      obtain ⟨y12, hy13, h⟩ := bind_some h
      refine ox_y rfl (y_call [.agg #[.int .i64 p0.fRise, .int .i64 p0.fFall, .int .i64 p0.fUp, .int .i64 p0.fDown, .slice A0_4 p0.fLooks.length c0_4], .agg #[.int .i64 p1.fFoot, .int .i64 p1.fHour], .agg #[.int .i64 p2.fFoot, .int .i64 p2.fHour]] go_31 rfl (fun W2 hW2 => calxref02_Far_ok p0 p1 p2 y12 hy13 W2 A0_4 p0.fLooks.length c0_4 rfl ((RdL.arg hr0_4) W2 hW2)) rfl) ?_
      refine ox_y rfl (y_move_tuple rfl) ?_
      refine ox_y rfl (y_extract (vs := [.int .i64 y12.1, .int .i64 y12.2]) (v := .int .i64 y12.1) rfl rfl) ?_
      refine ox_y rfl (y_extract (vs := [.int .i64 y12.1, .int .i64 y12.2]) (v := .int .i64 y12.2) rfl rfl) ?_
      refine ox_y rfl (y_assign_int rfl) ?_
      refine ox_y rfl (y_assign_int rfl) ?_
      refine ox_nil ?_
      refine ex_then ?_
      refine cx_seq ?_
      refine cx_region ?_
      refine ox_y rfl (y_loadN 0 [.int .i64 p0.fRise, .int .i64 p0.fFall, .int .i64 p0.fUp, .int .i64 p0.fDown, .slice A0_4 p0.fLooks.length c0_4] ag_24 rfl rfl rfl) ?_
      obtain ⟨y14, hy15, h⟩ := bind_some h
      refine ox_y rfl (y_call [.agg #[.int .i64 p0.fRise, .int .i64 p0.fFall, .int .i64 p0.fUp, .int .i64 p0.fDown, .slice A0_4 p0.fLooks.length c0_4]] go_15 rfl (fun W2 hW2 => fire_Clash_ok p0 y14 hy15 W2 A0_4 p0.fLooks.length c0_4 rfl ((RdL.arg hr0_4) W2 hW2)) rfl) ?_
      refine ox_y rfl (y_move_tuple rfl) ?_
      refine ox_y rfl (y_extract (vs := [.int .i64 y14.1, .int .i64 y14.2.1, .bool y14.2.2.1, .int .i64 y14.2.2.2]) (v := .int .i64 y14.1) rfl rfl) ?_
      refine ox_y rfl (y_extract (vs := [.int .i64 y14.1, .int .i64 y14.2.1, .bool y14.2.2.1, .int .i64 y14.2.2.2]) (v := .int .i64 y14.2.1) rfl rfl) ?_
      refine ox_y rfl (y_extract (vs := [.int .i64 y14.1, .int .i64 y14.2.1, .bool y14.2.2.1, .int .i64 y14.2.2.2]) (v := .bool y14.2.2.1) rfl rfl) ?_
      refine ox_y rfl (y_extract (vs := [.int .i64 y14.1, .int .i64 y14.2.1, .bool y14.2.2.1, .int .i64 y14.2.2.2]) (v := .int .i64 y14.2.2.2) rfl rfl) ?_
      refine ox_y rfl (y_assign_int rfl) ?_
      refine ox_y rfl (y_assign_int rfl) ?_
      refine ox_y rfl (y_assign_bool rfl) ?_
      refine ox_y rfl (y_assign_int rfl) ?_
      refine ox_nil ?_
      refine ex_then ?_
      refine cx_seq ?_
      refine cx_region ?_
      refine ox_y rfl (y_loadN 0 [.int .i64 p0.fRise, .int .i64 p0.fFall, .int .i64 p0.fUp, .int .i64 p0.fDown, .slice A0_4 p0.fLooks.length c0_4] ag_24 rfl rfl rfl) ?_
      obtain ⟨y16, hy17, h⟩ := bind_some h
      refine ox_y rfl (y_call [.agg #[.int .i64 p0.fRise, .int .i64 p0.fFall, .int .i64 p0.fUp, .int .i64 p0.fDown, .slice A0_4 p0.fLooks.length c0_4]] go_32 rfl (fun W2 hW2 => calxref02_Clash_ok p0 y16 hy17 W2 A0_4 p0.fLooks.length c0_4 rfl ((RdL.arg hr0_4) W2 hW2)) rfl) ?_
      refine ox_alloc ze_71 rfl (fun b18 => ?_)
      refine ox_n rfl (y_storeN 3 [.int .i64 y16.fA, .int .i64 y16.fB, .bool y16.fIs, .int .i64 y16.fE] sz_71 rfl (Nat.le_of_ble_eq_true rfl) rfl rfl rfl) ?_
      refine ox_nil ?_
      refine ex_then ?_
      refine cx_seq ?_
      refine cx_region ?_
      refine ox_y rfl (y_loadN 0 [.int .i64 p0.fRise, .int .i64 p0.fFall, .int .i64 p0.fUp, .int .i64 p0.fDown, .slice A0_4 p0.fLooks.length c0_4] ag_24 rfl rfl rfl) ?_
      obtain ⟨y19, hy20, h⟩ := bind_some h
      refine ox_call [.agg #[.int .i64 p0.fRise, .int .i64 p0.fFall, .int .i64 p0.fUp, .int .i64 p0.fDown, .slice A0_4 p0.fLooks.length c0_4]] _ _ _ rfl go_16 rfl (fun W2 hW2 => fire_Suspects_ok p0 y19 hy20 W2 A0_4 p0.fLooks.length c0_4 rfl ((RdL.arg hr0_4) W2 hW2)) ?_
      rintro ⟨A21, n23, c22⟩ hn24
      replace hn24 : n23 = y19.1.length := hn24; subst hn24
      refine ox_y rfl (y_move_tuple rfl) ?_
      refine ox_y rfl (y_extract (vs := [.slice A21 y19.1.length c22, .int .i64 y19.2]) (v := .slice A21 y19.1.length c22) rfl rfl) ?_
      refine ox_y rfl (y_extract (vs := [.slice A21 y19.1.length c22, .int .i64 y19.2]) (v := .int .i64 y19.2) rfl rfl) ?_
      refine ox_y rfl (y_assign_slice rfl) ?_
      refine ox_y rfl (y_assign_int rfl) ?_
      refine ox_nil ?_
      refine ex_then ?_
      refine cx_seq ?_
      refine cx_region ?_
      refine ox_y rfl (y_loadN 0 [.int .i64 p0.fRise, .int .i64 p0.fFall, .int .i64 p0.fUp, .int .i64 p0.fDown, .slice A0_4 p0.fLooks.length c0_4] ag_24 rfl rfl rfl) ?_
      obtain ⟨y25, hy26, h⟩ := bind_some h
      refine ox_call [.agg #[.int .i64 p0.fRise, .int .i64 p0.fFall, .int .i64 p0.fUp, .int .i64 p0.fDown, .slice A0_4 p0.fLooks.length c0_4]] _ _ _ rfl go_33 rfl (fun W2 hW2 => calxref02_Suspects_ok p0 y25 hy26 W2 A0_4 p0.fLooks.length c0_4 rfl ((RdL.arg hr0_4) W2 hW2)) ?_
      rintro ⟨A27, n29, c28⟩ hn30
      replace hn30 : n29 = y25.fL.length := hn30; subst hn30
      try dsimp only [List.nil_append, List.cons_append, List.set_cons_zero, List.set_cons_succ]
      refine ox_alloc ze_74 rfl (fun b31 => ?_)
      try dsimp only [List.nil_append, List.cons_append, List.set_cons_zero, List.set_cons_succ]
      refine ox_n rfl (y_storeN 6 [.slice A27 y25.fL.length c28, .int .i64 y25.fE] sz_74 rfl (Nat.le_of_ble_eq_true rfl) rfl rfl rfl) ?_
      refine ox_nil ?_
      refine ex_then ?_
      refine cx_seq ?_
      refine cx_region ?_
      refine ox_y rfl (y_loadN 0 [.int .i64 p0.fRise, .int .i64 p0.fFall, .int .i64 p0.fUp, .int .i64 p0.fDown, .slice A0_4 p0.fLooks.length c0_4] ag_24 rfl rfl rfl) ?_
      refine ox_y rfl (y_move_slice rfl) ?_
      obtain ⟨y32, hy33, h⟩ := bind_some h
      refine ox_call [.agg #[.int .i64 p0.fRise, .int .i64 p0.fFall, .int .i64 p0.fUp, .int .i64 p0.fDown, .slice A0_4 p0.fLooks.length c0_4], .slice A5_0 p5.length c5_0] _ _ _ rfl go_29 rfl (fun W2 hW2 => fire_Without_ok p0 p5 y32 hy33 W2 A0_4 p0.fLooks.length c0_4 rfl ((RdL.arg hr0_4) W2 hW2) A5_0 p5.length c5_0 rfl ((RdL.arg hr5_0) W2 hW2)) ?_
      rintro ⟨A34, n36, c35⟩ hn37
      replace hn37 : n36 = y32.1.fLooks.length := hn37; subst hn37
      try dsimp only [List.nil_append, List.cons_append, List.set_cons_zero, List.set_cons_succ]
      refine ox_y rfl (y_move_tuple rfl) ?_
      refine ox_y rfl (y_extract (vs := [.agg #[.int .i64 y32.1.fRise, .int .i64 y32.1.fFall, .int .i64 y32.1.fUp, .int .i64 y32.1.fDown, .slice A34 y32.1.fLooks.length c35], .int .i64 y32.2]) (v := .agg #[.int .i64 y32.1.fRise, .int .i64 y32.1.fFall, .int .i64 y32.1.fUp, .int .i64 y32.1.fDown, .slice A34 y32.1.fLooks.length c35]) rfl rfl) ?_
      refine ox_y rfl (y_extract (vs := [.agg #[.int .i64 y32.1.fRise, .int .i64 y32.1.fFall, .int .i64 y32.1.fUp, .int .i64 y32.1.fDown, .slice A34 y32.1.fLooks.length c35], .int .i64 y32.2]) (v := .int .i64 y32.2) rfl rfl) ?_
      refine ox_alloc ze_24 rfl (fun b38 => ?_)
      try dsimp only [List.nil_append, List.cons_append, List.set_cons_zero, List.set_cons_succ]
      refine ox_n rfl (y_storeN 8 [.int .i64 y32.1.fRise, .int .i64 y32.1.fFall, .int .i64 y32.1.fUp, .int .i64 y32.1.fDown, .slice A34 y32.1.fLooks.length c35] sz_24 rfl (Nat.le_of_ble_eq_true rfl) rfl rfl rfl) ?_
      refine ox_y rfl (y_assign_int rfl) ?_
      refine ox_nil ?_
      refine ex_then ?_
      refine cx_seq ?_
      refine cx_region ?_
      refine ox_y rfl (y_loadN 0 [.int .i64 p0.fRise, .int .i64 p0.fFall, .int .i64 p0.fUp, .int .i64 p0.fDown, .slice A0_4 p0.fLooks.length c0_4] ag_24 rfl rfl rfl) ?_
      refine ox_y rfl (y_move_slice rfl) ?_
      obtain ⟨y39, hy40, h⟩ := bind_some h
      refine ox_call [.agg #[.int .i64 p0.fRise, .int .i64 p0.fFall, .int .i64 p0.fUp, .int .i64 p0.fDown, .slice A0_4 p0.fLooks.length c0_4], .slice A5_0 p5.length c5_0] _ _ _ rfl go_34 rfl (fun W2 hW2 => calxref02_Without_ok p0 p5 y39 hy40 W2 A0_4 p0.fLooks.length c0_4 rfl ((RdL.arg hr0_4) W2 hW2) A5_0 p5.length c5_0 rfl ((RdL.arg hr5_0) W2 hW2)) ?_
      rintro ⟨A41, n43, c42⟩ hn44
      replace hn44 : n43 = y39.fF.fLooks.length := hn44; subst hn44
      try dsimp only [List.nil_append, List.cons_append, List.set_cons_zero, List.set_cons_succ]
      refine ox_alloc ze_77 rfl (fun b45 => ?_)
      try dsimp only [List.nil_append, List.cons_append, List.set_cons_zero, List.set_cons_succ]
      refine ox_n rfl (y_storeN 10 [.int .i64 y39.fF.fRise, .int .i64 y39.fF.fFall, .int .i64 y39.fF.fUp, .int .i64 y39.fF.fDown, .slice A41 y39.fF.fLooks.length c42, .int .i64 y39.fE] sz_77 rfl (Nat.le_of_ble_eq_true rfl) rfl rfl rfl) ?_
      refine ox_nil ?_
      refine ex_then ?_
      refine cx_seq ?_
      refine cx_draws 40 mixed (by kernel_rfl) (by kernel_rfl) ?_
      refine qx_y rfl (y_loadN 0 [.int .i64 p0.fRise, .int .i64 p0.fFall, .int .i64 p0.fUp, .int .i64 p0.fDown, .slice A0_4 p0.fLooks.length c0_4] ag_24 rfl rfl rfl) ?_
      obtain ⟨y46, hy47, h⟩ := bind_some h
      refine qx_y rfl (y_call [.agg #[.int .i64 p0.fRise, .int .i64 p0.fFall, .int .i64 p0.fUp, .int .i64 p0.fDown, .slice A0_4 p0.fLooks.length c0_4]] go_12 rfl (fun W2 hW2 => fire_Check_ok p0 y46 hy47 W2 A0_4 p0.fLooks.length c0_4 rfl ((RdL.arg hr0_4) W2 hW2)) rfl) ?_
      refine qx_y rfl (y_loadN 0 [.int .i64 p0.fRise, .int .i64 p0.fFall, .int .i64 p0.fUp, .int .i64 p0.fDown, .slice A0_4 p0.fLooks.length c0_4] ag_24 rfl rfl rfl) ?_
      obtain ⟨y48, hy49, h⟩ := bind_some h
      refine qx_y rfl (y_call [.agg #[.int .i64 p0.fRise, .int .i64 p0.fFall, .int .i64 p0.fUp, .int .i64 p0.fDown, .slice A0_4 p0.fLooks.length c0_4]] go_35 rfl (fun W2 hW2 => calxref02_Check_ok p0 y48 hy49 W2 A0_4 p0.fLooks.length c0_4 rfl ((RdL.arg hr0_4) W2 hW2)) rfl) ?_
      refine qx_y rfl (y_eql rfl rfl) ?_
      refine qx_y rfl (y_move_bool rfl) ?_
      refine qx_join 4 (fun tm0 => (upd (upd (upd (upd (upd (upd (upd (upd (upd (upd (upd (upd (upd (upd (upd (upd (upd (upd tm0 3 (.int .i64 p3)) 4 (.int .i64 p4)) 6 (.pointer (some ⟨b1, 0, none⟩))) 12 (.bool false)) 14 (.int .i64 y10.2)) 16 (.int .i64 y12.2)) 17 (.int .i64 y14.1)) 18 (.int .i64 y14.2.1)) 19 (.bool y14.2.2.1)) 20 (.int .i64 y14.2.2.2)) 21 (.pointer (some ⟨b18, 0, none⟩))) 22 (.slice A21 y19.1.length c22)) 23 (.int .i64 y19.2)) 24 (.pointer (some ⟨b31, 0, none⟩))) 25 (.pointer (some ⟨b38, 0, none⟩))) 26 (.int .i64 y32.2)) 27 (.pointer (some ⟨b45, 0, none⟩))) 86 (.bool ((y46 == y48) && (y10.1 == y12.1))))) (fun tm0 => ?_) (fun key => ?_)
      · refine qx_y rfl (y_move_bool rfl) ?_
        refine qx_join 4 (fun tm0 => (upd (upd (upd (upd (upd (upd (upd (upd (upd (upd (upd (upd (upd (upd (upd (upd tm0 3 (.int .i64 p3)) 4 (.int .i64 p4)) 6 (.pointer (some ⟨b1, 0, none⟩))) 12 (.bool false)) 17 (.int .i64 y14.1)) 18 (.int .i64 y14.2.1)) 19 (.bool y14.2.2.1)) 20 (.int .i64 y14.2.2.2)) 21 (.pointer (some ⟨b18, 0, none⟩))) 22 (.slice A21 y19.1.length c22)) 23 (.int .i64 y19.2)) 24 (.pointer (some ⟨b31, 0, none⟩))) 25 (.pointer (some ⟨b38, 0, none⟩))) 26 (.int .i64 y32.2)) 27 (.pointer (some ⟨b45, 0, none⟩))) 91 (.bool (((y46 == y48) && (y10.1 == y12.1)) && (y10.2 == y12.2))))) (fun tm0 => ?_) (fun key => ?_)
        · refine qx_y rfl (y_move_bool rfl) ?_
          refine qx_join 5 (fun tm0 => (upd (upd (upd (upd (upd (upd (upd (upd (upd (upd (upd (upd (upd (upd (upd tm0 3 (.int .i64 p3)) 4 (.int .i64 p4)) 6 (.pointer (some ⟨b1, 0, none⟩))) 12 (.bool false)) 18 (.int .i64 y14.2.1)) 19 (.bool y14.2.2.1)) 20 (.int .i64 y14.2.2.2)) 21 (.pointer (some ⟨b18, 0, none⟩))) 22 (.slice A21 y19.1.length c22)) 23 (.int .i64 y19.2)) 24 (.pointer (some ⟨b31, 0, none⟩))) 25 (.pointer (some ⟨b38, 0, none⟩))) 26 (.int .i64 y32.2)) 27 (.pointer (some ⟨b45, 0, none⟩))) 97 (.bool ((((y46 == y48) && (y10.1 == y12.1)) && (y10.2 == y12.2)) && (y14.1 == y16.fA))))) (fun tm0 => ?_) (fun key => ?_)
          · refine qx_y rfl (y_move_bool rfl) ?_
            refine qx_join 5 (fun tm0 => (upd (upd (upd (upd (upd (upd (upd (upd (upd (upd (upd (upd (upd (upd tm0 3 (.int .i64 p3)) 4 (.int .i64 p4)) 6 (.pointer (some ⟨b1, 0, none⟩))) 12 (.bool false)) 19 (.bool y14.2.2.1)) 20 (.int .i64 y14.2.2.2)) 21 (.pointer (some ⟨b18, 0, none⟩))) 22 (.slice A21 y19.1.length c22)) 23 (.int .i64 y19.2)) 24 (.pointer (some ⟨b31, 0, none⟩))) 25 (.pointer (some ⟨b38, 0, none⟩))) 26 (.int .i64 y32.2)) 27 (.pointer (some ⟨b45, 0, none⟩))) 103 (.bool (((((y46 == y48) && (y10.1 == y12.1)) && (y10.2 == y12.2)) && (y14.1 == y16.fA)) && (y14.2.1 == y16.fB))))) (fun tm0 => ?_) (fun key => ?_)
            · refine qx_y rfl (y_move_bool rfl) ?_
              refine qx_join 5 (fun tm0 => (upd (upd (upd (upd (upd (upd (upd (upd (upd (upd (upd (upd (upd tm0 3 (.int .i64 p3)) 4 (.int .i64 p4)) 6 (.pointer (some ⟨b1, 0, none⟩))) 12 (.bool false)) 20 (.int .i64 y14.2.2.2)) 21 (.pointer (some ⟨b18, 0, none⟩))) 22 (.slice A21 y19.1.length c22)) 23 (.int .i64 y19.2)) 24 (.pointer (some ⟨b31, 0, none⟩))) 25 (.pointer (some ⟨b38, 0, none⟩))) 26 (.int .i64 y32.2)) 27 (.pointer (some ⟨b45, 0, none⟩))) 109 (.bool ((((((y46 == y48) && (y10.1 == y12.1)) && (y10.2 == y12.2)) && (y14.1 == y16.fA)) && (y14.2.1 == y16.fB)) && (y14.2.2.1 == y16.fIs))))) (fun tm0 => ?_) (fun key => ?_)
              · refine qx_y rfl (y_move_bool rfl) ?_
                refine qx_join 5 (fun tm0 => (upd (upd (upd (upd (upd (upd (upd (upd (upd (upd (upd tm0 3 (.int .i64 p3)) 4 (.int .i64 p4)) 6 (.pointer (some ⟨b1, 0, none⟩))) 12 (.bool false)) 22 (.slice A21 y19.1.length c22)) 23 (.int .i64 y19.2)) 24 (.pointer (some ⟨b31, 0, none⟩))) 25 (.pointer (some ⟨b38, 0, none⟩))) 26 (.int .i64 y32.2)) 27 (.pointer (some ⟨b45, 0, none⟩))) 115 (.bool (((((((y46 == y48) && (y10.1 == y12.1)) && (y10.2 == y12.2)) && (y14.1 == y16.fA)) && (y14.2.1 == y16.fB)) && (y14.2.2.1 == y16.fIs)) && (y14.2.2.2 == y16.fE))))) (fun tm0 => ?_) (fun key => ?_)
                · refine qx_y rfl (y_assign_bool rfl) ?_
                  refine qx_nil ?_
                  refine ox_nil ?_
                  refine ex_then ?_
                  refine cx_seq ?_
                  refine cx_draws 40 mixed (by kernel_rfl) (by kernel_rfl) ?_
                  obtain ⟨y56, hy57, h⟩ := bind_some h
                  refine qx_y rfl (y_call [] go_13 rfl (fun W2 hW2 => calxlaw02_sanity_ok  y56 hy57 W2 ) rfl) ?_
                  refine qx_y rfl (y_move_bool rfl) ?_
                  refine qx_join 2 (fun tm0 => (upd (upd (upd (upd (upd (upd (upd (upd (upd (upd (upd tm0 3 (.int .i64 p3)) 4 (.int .i64 p4)) 6 (.pointer (some ⟨b1, 0, none⟩))) 12 (.bool false)) 22 (.slice A21 y19.1.length c22)) 23 (.int .i64 y19.2)) 24 (.pointer (some ⟨b31, 0, none⟩))) 25 (.pointer (some ⟨b38, 0, none⟩))) 26 (.int .i64 y32.2)) 27 (.pointer (some ⟨b45, 0, none⟩))) 119 (.bool (y56 && (((((((y46 == y48) && (y10.1 == y12.1)) && (y10.2 == y12.2)) && (y14.1 == y16.fA)) && (y14.2.1 == y16.fB)) && (y14.2.2.1 == y16.fIs)) && (y14.2.2.2 == y16.fE)))))) (fun tm0 => ?_) (fun key => ?_)
                  · refine qx_y rfl (y_move_bool rfl) ?_
                    obtain ⟨b60, hb61, h⟩ := bind_some h
                    refine qx_join 10 (fun tm0 => (upd (upd (upd (upd (upd (upd (upd (upd tm0 12 (.bool false)) 22 (.slice A21 y19.1.length c22)) 23 (.int .i64 y19.2)) 24 (.pointer (some ⟨b31, 0, none⟩))) 25 (.pointer (some ⟨b38, 0, none⟩))) 26 (.int .i64 y32.2)) 27 (.pointer (some ⟨b45, 0, none⟩))) 130 (.bool b60))) (fun tm0 => ?_) (fun key => ?_)
                    · refine qx_y rfl (y_move_bool rfl) ?_
                      obtain ⟨b63, hb64, h⟩ := bind_some h
                      refine qx_join 5 (fun tm0 => (upd (upd (upd (upd (upd (upd (upd tm0 12 (.bool false)) 23 (.int .i64 y19.2)) 24 (.pointer (some ⟨b31, 0, none⟩))) 25 (.pointer (some ⟨b38, 0, none⟩))) 26 (.int .i64 y32.2)) 27 (.pointer (some ⟨b45, 0, none⟩))) 136 (.bool b63))) (fun tm0 => ?_) (fun key => ?_)
                      · refine qx_y rfl (y_move_bool rfl) ?_
                        refine qx_join 5 (fun tm0 => (upd (upd (upd (upd (upd tm0 12 (.bool false)) 25 (.pointer (some ⟨b38, 0, none⟩))) 26 (.int .i64 y32.2)) 27 (.pointer (some ⟨b45, 0, none⟩))) 142 (.bool (b63 && (y19.2 == y25.fE))))) (fun tm0 => ?_) (fun key => ?_)
                        · refine qx_y rfl (y_move_bool rfl) ?_
                          obtain ⟨b67, hb68, h⟩ := bind_some h
                          refine qx_join 5 (fun tm0 => (upd (upd (upd (upd tm0 12 (.bool false)) 26 (.int .i64 y32.2)) 27 (.pointer (some ⟨b45, 0, none⟩))) 148 (.bool b67))) (fun tm0 => ?_) (fun key => ?_)
                          · refine qx_y rfl (y_move_bool rfl) ?_
                            refine qx_join 5 (fun tm0 => (upd (upd tm0 12 (.bool false)) 154 (.bool (b67 && (y32.2 == y39.fE))))) (fun tm0 => ?_) (fun key => ?_)
                            · refine qx_y rfl (y_assign_bool rfl) ?_
                              refine qx_nil ?_
                              refine ox_nil ?_
                              refine ex_then ?_
                              refine cx_ret ?_
                              obtain rfl := Option.some.inj h
                              exact ex_res1 (.inl rfl) rfl (resV_tmp (v := .bool (b67 && (y32.2 == y39.fE))) rfl) (fun W2 hW2 => ⟨rfl, hW2.none⟩)
                            · rcases bool_cases b67 with hp69 | hp69
                              · refine qx_y (sees_t rfl rfl rfl rfl hp69) (y_move_int rfl) ?_
                                refine qx_y (sees_t rfl rfl rfl rfl hp69) (y_fieldAddr fo_77_1 rfl) ?_
                                refine qx_y (sees_t rfl rfl rfl rfl hp69) (y_load1 10 (v := .int .i64 y39.fE) sc_28 rfl rfl rfl) ?_
                                refine qx_y (sees_t rfl rfl rfl rfl hp69) (y_eql rfl rfl) ?_
                                refine qx_y rfl (y_pick_tb (congrArg Value.bool hp69) rfl) ?_
                                exact key _ _ (keep (keep rfl rfl) (congrArg Value.bool (and_t hp69)))
                              · refine qx_skip (sees_f rfl rfl rfl rfl hp69) ?_
                                refine qx_skip (sees_f rfl rfl rfl rfl hp69) ?_
                                refine qx_skip (sees_f rfl rfl rfl rfl hp69) ?_
                                refine qx_skip (sees_f rfl rfl rfl rfl hp69) ?_
                                refine qx_y rfl (y_pick_fb (congrArg Value.bool hp69) rfl) ?_
                                exact key _ _ (keep (keep rfl rfl) (congrArg Value.bool (and_f hp69)))
                          · clear h; rcases ite_some hb68 with ⟨hp66, h⟩ | ⟨hp66, h⟩
                            · refine qx_y (sees_t rfl rfl rfl rfl hp66) (y_loadN 8 [.int .i64 y32.1.fRise, .int .i64 y32.1.fFall, .int .i64 y32.1.fUp, .int .i64 y32.1.fDown, .slice A34 y32.1.fLooks.length c35] ag_24 rfl rfl rfl) ?_
                              refine qx_y (sees_t rfl rfl rfl rfl hp66) (y_fieldAddr fo_77_0 rfl) ?_
                              refine qx_y (sees_t rfl rfl rfl rfl hp66) (y_loadN 10 [.int .i64 y39.fF.fRise, .int .i64 y39.fF.fFall, .int .i64 y39.fF.fUp, .int .i64 y39.fF.fDown, .slice A41 y39.fF.fLooks.length c42] ag_24 rfl rfl rfl) ?_
                              obtain ⟨y70, hy71, h⟩ := bind_some h
                              refine qx_y (sees_t rfl rfl rfl rfl hp66) (y_call [.agg #[.int .i64 y32.1.fRise, .int .i64 y32.1.fFall, .int .i64 y32.1.fUp, .int .i64 y32.1.fDown, .slice A34 y32.1.fLooks.length c35], .agg #[.int .i64 y39.fF.fRise, .int .i64 y39.fF.fFall, .int .i64 y39.fF.fUp, .int .i64 y39.fF.fDown, .slice A41 y39.fF.fLooks.length c42]] go_37 rfl (fun W2 hW2 => calxref02_SameFire_ok y32.1 y39.fF y70 hy71 W2 A34 y32.1.fLooks.length c35 rfl ((RdL.row 7 rfl) W2 hW2) A41 y39.fF.fLooks.length c42 rfl ((RdL.row 9 rfl) W2 hW2)) rfl) ?_
                              refine qx_y rfl (y_pick_tb (congrArg Value.bool hp66) rfl) ?_
                              obtain rfl := Option.some.inj h
                              exact key _ _ (keep (keep (keep (keep rfl rfl) rfl) rfl) rfl)
                            · refine qx_skip (sees_f rfl rfl rfl rfl hp66) ?_
                              refine qx_skip (sees_f rfl rfl rfl rfl hp66) ?_
                              refine qx_skip (sees_f rfl rfl rfl rfl hp66) ?_
                              refine qx_skip (sees_f rfl rfl rfl rfl hp66) ?_
                              refine qx_y rfl (y_pick_fb (congrArg Value.bool hp66) rfl) ?_
                              obtain rfl := Option.some.inj h
                              exact key _ _ (keep (keep (keep (keep rfl rfl) rfl) rfl) rfl)
                        · rcases bool_cases b63 with hp65 | hp65
                          · refine qx_y (sees_t rfl rfl rfl rfl hp65) (y_move_int rfl) ?_
                            refine qx_y (sees_t rfl rfl rfl rfl hp65) (y_fieldAddr fo_74_1 rfl) ?_
                            refine qx_y (sees_t rfl rfl rfl rfl hp65) (y_load1 6 (v := .int .i64 y25.fE) sc_28 rfl rfl rfl) ?_
                            refine qx_y (sees_t rfl rfl rfl rfl hp65) (y_eql rfl rfl) ?_
                            refine qx_y rfl (y_pick_tb (congrArg Value.bool hp65) rfl) ?_
                            exact key _ _ (keep (keep (keep (keep (keep rfl rfl) rfl) rfl) rfl) (congrArg Value.bool (and_t hp65)))
                          · refine qx_skip (sees_f rfl rfl rfl rfl hp65) ?_
                            refine qx_skip (sees_f rfl rfl rfl rfl hp65) ?_
                            refine qx_skip (sees_f rfl rfl rfl rfl hp65) ?_
                            refine qx_skip (sees_f rfl rfl rfl rfl hp65) ?_
                            refine qx_y rfl (y_pick_fb (congrArg Value.bool hp65) rfl) ?_
                            exact key _ _ (keep (keep (keep (keep (keep rfl rfl) rfl) rfl) rfl) (congrArg Value.bool (and_f hp65)))
                      · clear h; rcases ite_some hb64 with ⟨hp62, h⟩ | ⟨hp62, h⟩
                        · refine qx_y (sees_t rfl rfl rfl rfl hp62) (y_move_slice rfl) ?_
                          refine qx_y (sees_t rfl rfl rfl rfl hp62) (y_fieldAddr fo_74_0 rfl) ?_
                          refine qx_y (sees_t rfl rfl rfl rfl hp62) (y_load1 6 (v := .slice A27 y25.fL.length c28) sc_41 rfl rfl rfl) ?_
                          obtain ⟨y72, hy73, h⟩ := bind_some h
                          refine qx_y (sees_t rfl rfl rfl rfl hp62) (y_call [.slice A21 y19.1.length c22, .slice A27 y25.fL.length c28] go_17 rfl (fun W2 hW2 => calxref02_SameInts_ok y19.1 y25.fL y72 hy73 W2 A21 y19.1.length c22 rfl ((RdL.row 4 rfl) W2 hW2) A27 y25.fL.length c28 rfl ((RdL.row 5 rfl) W2 hW2)) rfl) ?_
                          refine qx_y rfl (y_pick_tb (congrArg Value.bool hp62) rfl) ?_
                          obtain rfl := Option.some.inj h
                          exact key _ _ (keep (keep (keep (keep (keep (keep (keep rfl rfl) rfl) rfl) rfl) rfl) rfl) rfl)
                        · refine qx_skip (sees_f rfl rfl rfl rfl hp62) ?_
                          refine qx_skip (sees_f rfl rfl rfl rfl hp62) ?_
                          refine qx_skip (sees_f rfl rfl rfl rfl hp62) ?_
                          refine qx_skip (sees_f rfl rfl rfl rfl hp62) ?_
                          refine qx_y rfl (y_pick_fb (congrArg Value.bool hp62) rfl) ?_
                          obtain rfl := Option.some.inj h
                          exact key _ _ (keep (keep (keep (keep (keep (keep (keep rfl rfl) rfl) rfl) rfl) rfl) rfl) rfl)
                    · clear h; rcases ite_some hb61 with ⟨hp59, h⟩ | ⟨hp59, h⟩
                      · refine qx_y (sees_t rfl rfl rfl rfl hp59) (y_loadN 0 [.int .i64 p0.fRise, .int .i64 p0.fFall, .int .i64 p0.fUp, .int .i64 p0.fDown, .slice A0_4 p0.fLooks.length c0_4] ag_24 rfl rfl rfl) ?_
                        refine qx_y (sees_t rfl rfl rfl rfl hp59) (y_move_int rfl) ?_
                        refine qx_y (sees_t rfl rfl rfl rfl hp59) (y_move_int rfl) ?_
                        obtain ⟨y74, hy75, h⟩ := bind_some h
                        refine qx_y (sees_t rfl rfl rfl rfl hp59) (y_call [.agg #[.int .i64 p0.fRise, .int .i64 p0.fFall, .int .i64 p0.fUp, .int .i64 p0.fDown, .slice A0_4 p0.fLooks.length c0_4], .int .i64 p3, .int .i64 p4] go_28 rfl (fun W2 hW2 => fire_CheckClash_ok p0 p3 p4 y74 hy75 W2 A0_4 p0.fLooks.length c0_4 rfl ((RdL.arg hr0_4) W2 hW2)) rfl) ?_
                        refine qx_y (sees_t rfl rfl rfl rfl hp59) (y_loadN 0 [.int .i64 p0.fRise, .int .i64 p0.fFall, .int .i64 p0.fUp, .int .i64 p0.fDown, .slice A0_4 p0.fLooks.length c0_4] ag_24 rfl rfl rfl) ?_
                        refine qx_y (sees_t rfl rfl rfl rfl hp59) (y_move_int rfl) ?_
                        refine qx_y (sees_t rfl rfl rfl rfl hp59) (y_move_int rfl) ?_
                        obtain ⟨y76, hy77, h⟩ := bind_some h
                        refine qx_y (sees_t rfl rfl rfl rfl hp59) (y_call [.agg #[.int .i64 p0.fRise, .int .i64 p0.fFall, .int .i64 p0.fUp, .int .i64 p0.fDown, .slice A0_4 p0.fLooks.length c0_4], .int .i64 p3, .int .i64 p4] go_36 rfl (fun W2 hW2 => calxref02_CheckClash_ok p0 p3 p4 y76 hy77 W2 A0_4 p0.fLooks.length c0_4 rfl ((RdL.arg hr0_4) W2 hW2)) rfl) ?_
                        refine qx_y (sees_t rfl rfl rfl rfl hp59) (y_eql rfl rfl) ?_
                        refine qx_y rfl (y_pick_tb (congrArg Value.bool hp59) rfl) ?_
                        obtain rfl := Option.some.inj h
                        exact key _ _ (keep (keep (keep (keep (keep (keep (keep (keep rfl rfl) rfl) rfl) rfl) rfl) rfl) rfl) rfl)
                      · refine qx_skip (sees_f rfl rfl rfl rfl hp59) ?_
                        refine qx_skip (sees_f rfl rfl rfl rfl hp59) ?_
                        refine qx_skip (sees_f rfl rfl rfl rfl hp59) ?_
                        refine qx_skip (sees_f rfl rfl rfl rfl hp59) ?_
                        refine qx_skip (sees_f rfl rfl rfl rfl hp59) ?_
                        refine qx_skip (sees_f rfl rfl rfl rfl hp59) ?_
                        refine qx_skip (sees_f rfl rfl rfl rfl hp59) ?_
                        refine qx_skip (sees_f rfl rfl rfl rfl hp59) ?_
                        refine qx_skip (sees_f rfl rfl rfl rfl hp59) ?_
                        refine qx_y rfl (y_pick_fb (congrArg Value.bool hp59) rfl) ?_
                        obtain rfl := Option.some.inj h
                        exact key _ _ (keep (keep (keep (keep (keep (keep (keep (keep rfl rfl) rfl) rfl) rfl) rfl) rfl) rfl) rfl)
                  · rcases bool_cases y56 with hp58 | hp58
                    · refine qx_y (sees_t rfl rfl rfl rfl hp58) (y_move_bool rfl) ?_
                      refine qx_y rfl (y_pick_tb (congrArg Value.bool hp58) rfl) ?_
                      exact key _ _ (keep (keep (keep (keep (keep (keep (keep (keep (keep (keep (keep rfl rfl) rfl) rfl) rfl) rfl) rfl) rfl) rfl) rfl) rfl) (congrArg Value.bool (and_t hp58)))
                    · refine qx_skip (sees_f rfl rfl rfl rfl hp58) ?_
                      refine qx_y rfl (y_pick_fb (congrArg Value.bool hp58) rfl) ?_
                      exact key _ _ (keep (keep (keep (keep (keep (keep (keep (keep (keep (keep (keep rfl rfl) rfl) rfl) rfl) rfl) rfl) rfl) rfl) rfl) rfl) (congrArg Value.bool (and_f hp58)))
                · rcases bool_cases ((((((y46 == y48) && (y10.1 == y12.1)) && (y10.2 == y12.2)) && (y14.1 == y16.fA)) && (y14.2.1 == y16.fB)) && (y14.2.2.1 == y16.fIs)) with hp55 | hp55
                  · refine qx_y (sees_t rfl rfl rfl rfl hp55) (y_move_int rfl) ?_
                    refine qx_y (sees_t rfl rfl rfl rfl hp55) (y_fieldAddr fo_71_3 rfl) ?_
                    refine qx_y (sees_t rfl rfl rfl rfl hp55) (y_load1 3 (v := .int .i64 y16.fE) sc_28 rfl rfl rfl) ?_
                    refine qx_y (sees_t rfl rfl rfl rfl hp55) (y_eql rfl rfl) ?_
                    refine qx_y rfl (y_pick_tb (congrArg Value.bool hp55) rfl) ?_
                    exact key _ _ (keep (keep (keep (keep (keep (keep (keep (keep (keep (keep (keep rfl rfl) rfl) rfl) rfl) rfl) rfl) rfl) rfl) rfl) rfl) (congrArg Value.bool (and_t hp55)))
                  · refine qx_skip (sees_f rfl rfl rfl rfl hp55) ?_
                    refine qx_skip (sees_f rfl rfl rfl rfl hp55) ?_
                    refine qx_skip (sees_f rfl rfl rfl rfl hp55) ?_
                    refine qx_skip (sees_f rfl rfl rfl rfl hp55) ?_
                    refine qx_y rfl (y_pick_fb (congrArg Value.bool hp55) rfl) ?_
                    exact key _ _ (keep (keep (keep (keep (keep (keep (keep (keep (keep (keep (keep rfl rfl) rfl) rfl) rfl) rfl) rfl) rfl) rfl) rfl) rfl) (congrArg Value.bool (and_f hp55)))
              · rcases bool_cases (((((y46 == y48) && (y10.1 == y12.1)) && (y10.2 == y12.2)) && (y14.1 == y16.fA)) && (y14.2.1 == y16.fB)) with hp54 | hp54
                · refine qx_y (sees_t rfl rfl rfl rfl hp54) (y_move_bool rfl) ?_
                  refine qx_y (sees_t rfl rfl rfl rfl hp54) (y_fieldAddr fo_71_2 rfl) ?_
                  refine qx_y (sees_t rfl rfl rfl rfl hp54) (y_load1 3 (v := .bool y16.fIs) sc_4 rfl rfl rfl) ?_
                  refine qx_y (sees_t rfl rfl rfl rfl hp54) (y_eqlb ub_4 rfl rfl) ?_
                  refine qx_y rfl (y_pick_tb (congrArg Value.bool hp54) rfl) ?_
                  exact key _ _ (keep (keep (keep (keep (keep (keep (keep (keep (keep (keep (keep (keep (keep rfl rfl) rfl) rfl) rfl) rfl) rfl) rfl) rfl) rfl) rfl) rfl) rfl) (congrArg Value.bool (and_t hp54)))
                · refine qx_skip (sees_f rfl rfl rfl rfl hp54) ?_
                  refine qx_skip (sees_f rfl rfl rfl rfl hp54) ?_
                  refine qx_skip (sees_f rfl rfl rfl rfl hp54) ?_
                  refine qx_skip (sees_f rfl rfl rfl rfl hp54) ?_
                  refine qx_y rfl (y_pick_fb (congrArg Value.bool hp54) rfl) ?_
                  exact key _ _ (keep (keep (keep (keep (keep (keep (keep (keep (keep (keep (keep (keep (keep rfl rfl) rfl) rfl) rfl) rfl) rfl) rfl) rfl) rfl) rfl) rfl) rfl) (congrArg Value.bool (and_f hp54)))
            · rcases bool_cases ((((y46 == y48) && (y10.1 == y12.1)) && (y10.2 == y12.2)) && (y14.1 == y16.fA)) with hp53 | hp53
              · refine qx_y (sees_t rfl rfl rfl rfl hp53) (y_move_int rfl) ?_
                refine qx_y (sees_t rfl rfl rfl rfl hp53) (y_fieldAddr fo_71_1 rfl) ?_
                refine qx_y (sees_t rfl rfl rfl rfl hp53) (y_load1 3 (v := .int .i64 y16.fB) sc_3 rfl rfl rfl) ?_
                refine qx_y (sees_t rfl rfl rfl rfl hp53) (y_eql rfl rfl) ?_
                refine qx_y rfl (y_pick_tb (congrArg Value.bool hp53) rfl) ?_
                exact key _ _ (keep (keep (keep (keep (keep (keep (keep (keep (keep (keep (keep (keep (keep (keep rfl rfl) rfl) rfl) rfl) rfl) rfl) rfl) rfl) rfl) rfl) rfl) rfl) rfl) (congrArg Value.bool (and_t hp53)))
              · refine qx_skip (sees_f rfl rfl rfl rfl hp53) ?_
                refine qx_skip (sees_f rfl rfl rfl rfl hp53) ?_
                refine qx_skip (sees_f rfl rfl rfl rfl hp53) ?_
                refine qx_skip (sees_f rfl rfl rfl rfl hp53) ?_
                refine qx_y rfl (y_pick_fb (congrArg Value.bool hp53) rfl) ?_
                exact key _ _ (keep (keep (keep (keep (keep (keep (keep (keep (keep (keep (keep (keep (keep (keep rfl rfl) rfl) rfl) rfl) rfl) rfl) rfl) rfl) rfl) rfl) rfl) rfl) rfl) (congrArg Value.bool (and_f hp53)))
          · rcases bool_cases (((y46 == y48) && (y10.1 == y12.1)) && (y10.2 == y12.2)) with hp52 | hp52
            · refine qx_y (sees_t rfl rfl rfl rfl hp52) (y_move_int rfl) ?_
              refine qx_y (sees_t rfl rfl rfl rfl hp52) (y_fieldAddr fo_71_0 rfl) ?_
              refine qx_y (sees_t rfl rfl rfl rfl hp52) (y_load1 3 (v := .int .i64 y16.fA) sc_3 rfl rfl rfl) ?_
              refine qx_y (sees_t rfl rfl rfl rfl hp52) (y_eql rfl rfl) ?_
              refine qx_y rfl (y_pick_tb (congrArg Value.bool hp52) rfl) ?_
              exact key _ _ (keep (keep (keep (keep (keep (keep (keep (keep (keep (keep (keep (keep (keep (keep (keep rfl rfl) rfl) rfl) rfl) rfl) rfl) rfl) rfl) rfl) rfl) rfl) rfl) rfl) rfl) (congrArg Value.bool (and_t hp52)))
            · refine qx_skip (sees_f rfl rfl rfl rfl hp52) ?_
              refine qx_skip (sees_f rfl rfl rfl rfl hp52) ?_
              refine qx_skip (sees_f rfl rfl rfl rfl hp52) ?_
              refine qx_skip (sees_f rfl rfl rfl rfl hp52) ?_
              refine qx_y rfl (y_pick_fb (congrArg Value.bool hp52) rfl) ?_
              exact key _ _ (keep (keep (keep (keep (keep (keep (keep (keep (keep (keep (keep (keep (keep (keep (keep rfl rfl) rfl) rfl) rfl) rfl) rfl) rfl) rfl) rfl) rfl) rfl) rfl) rfl) rfl) (congrArg Value.bool (and_f hp52)))
        · rcases bool_cases ((y46 == y48) && (y10.1 == y12.1)) with hp51 | hp51
          · refine qx_y (sees_t rfl rfl rfl rfl hp51) (y_move_int rfl) ?_
            refine qx_y (sees_t rfl rfl rfl rfl hp51) (y_move_int rfl) ?_
            refine qx_y (sees_t rfl rfl rfl rfl hp51) (y_eql rfl rfl) ?_
            refine qx_y rfl (y_pick_tb (congrArg Value.bool hp51) rfl) ?_
            exact key _ _ (keep (keep (keep (keep (keep (keep (keep (keep (keep (keep (keep (keep (keep (keep (keep (keep rfl rfl) rfl) rfl) rfl) rfl) rfl) rfl) rfl) rfl) rfl) rfl) rfl) rfl) rfl) rfl) (congrArg Value.bool (and_t hp51)))
          · refine qx_skip (sees_f rfl rfl rfl rfl hp51) ?_
            refine qx_skip (sees_f rfl rfl rfl rfl hp51) ?_
            refine qx_skip (sees_f rfl rfl rfl rfl hp51) ?_
            refine qx_y rfl (y_pick_fb (congrArg Value.bool hp51) rfl) ?_
            exact key _ _ (keep (keep (keep (keep (keep (keep (keep (keep (keep (keep (keep (keep (keep (keep (keep (keep rfl rfl) rfl) rfl) rfl) rfl) rfl) rfl) rfl) rfl) rfl) rfl) rfl) rfl) rfl) rfl) (congrArg Value.bool (and_f hp51)))
      · rcases bool_cases (y46 == y48) with hp50 | hp50
        · refine qx_y (sees_t rfl rfl rfl rfl hp50) (y_move_int rfl) ?_
          refine qx_y (sees_t rfl rfl rfl rfl hp50) (y_move_int rfl) ?_
          refine qx_y (sees_t rfl rfl rfl rfl hp50) (y_eql rfl rfl) ?_
          refine qx_y rfl (y_pick_tb (congrArg Value.bool hp50) rfl) ?_
          exact key _ _ (keep (keep (keep (keep (keep (keep (keep (keep (keep (keep (keep (keep (keep (keep (keep (keep (keep (keep rfl rfl) rfl) rfl) rfl) rfl) rfl) rfl) rfl) rfl) rfl) rfl) rfl) rfl) rfl) rfl) rfl) rfl) (congrArg Value.bool (and_t hp50)))
        · refine qx_skip (sees_f rfl rfl rfl rfl hp50) ?_
          refine qx_skip (sees_f rfl rfl rfl rfl hp50) ?_
          refine qx_skip (sees_f rfl rfl rfl rfl hp50) ?_
          refine qx_y rfl (y_pick_fb (congrArg Value.bool hp50) rfl) ?_
          exact key _ _ (keep (keep (keep (keep (keep (keep (keep (keep (keep (keep (keep (keep (keep (keep (keep (keep (keep (keep rfl rfl) rfl) rfl) rfl) rfl) rfl) rfl) rfl) rfl) rfl) rfl) rfl) rfl) rfl) rfl) rfl) rfl) (congrArg Value.bool (and_f hp50)))
  · rcases bool_cases (!y4) with hp6 | hp6
    · refine ox_skip (sees_f rfl rfl rfl rfl hp6) ?_
      refine ox_skip (sees_f rfl rfl rfl rfl hp6) ?_
      refine ox_skip (sees_f rfl rfl rfl rfl hp6) ?_
      refine ox_y rfl (y_pick_tb (congrArg Value.bool hp6) rfl) ?_
      exact key _ _ (keep (keep (keep (keep (keep (keep (keep (keep rfl rfl) rfl) rfl) rfl) rfl) rfl) rfl) (congrArg Value.bool (or_t hp6)))
    · refine ox_y (sees_t rfl rfl rfl rfl hp6) (y_move_slice rfl) ?_
      refine ox_y (sees_t rfl rfl rfl rfl hp6) (y_len (us := []) us_41 rfl) ?_
      refine ox_y (sees_t rfl rfl rfl rfl hp6) (y_gtr rfl rfl) ?_
      refine ox_y rfl (y_pick_fb (congrArg Value.bool hp6) rfl) ?_
      exact key _ _ (keep (keep (keep (keep (keep (keep (keep (keep rfl rfl) rfl) rfl) rfl) rfl) rfl) rfl) (congrArg Value.bool (or_f hp6)))

end Go.Proofs.Ytndajeiecdmhnaa
