/- The calls hand back what the plain functions say. -/
import Derived.Test.YtndajeiecdmhnaaF
import Derived.Test.YtndajeiecdmhnaaC0
import Derived.Test.YtndajeiecdmhnaaC2
import Derived.Test.YtndajeiecdmhnaaC4
import Derived.Test.YtndajeiecdmhnaaC5
import Derived.Test.YtndajeiecdmhnaaC6
import Derived.Test.YtndajeiecdmhnaaC11
set_option linter.unusedVariables false
set_option maxHeartbeats 4000000
namespace Go.Proofs.Ytndajeiecdmhnaa
open Go.RowKit (Below)
attribute [local irreducible] OX QX CX EX OpY Calls CallsIn

/-! calx/calxlaw02.FireMore -/
set_option maxRecDepth 100000 in
theorem calxlaw02_FireMore_ok (p0 : TFire) (p1 : TLook) (p2 : TSpot) (p3 : Int) (res : Bool) (h : calxlaw02_FireMore p0 p1 p2 p3 = some res) (W : World) (A0_4 : Option Addr) (n0_4 c0_4 : Nat) (hn0_4 : n0_4 = p0.fLooks.length) (hr0_4 : Rd W A0_4 n0_4 c0_4 (encL TLook_cells p0.fLooks)) :
    Calls Try.prog 7 [.agg #[.int .i64 p0.fRise, .int .i64 p0.fFall, .int .i64 p0.fUp, .int .i64 p0.fDown, .slice A0_4 n0_4 c0_4], .agg #[.int .i64 p1.fID, .int .i64 p1.fAt.fFoot, .int .i64 p1.fAt.fHour, .int .i64 p1.fHeat.fLo, .int .i64 p1.fHeat.fHi], .agg #[.int .i64 p2.fFoot, .int .i64 p2.fHour], .int .i64 p3].toArray W fun e W2 => e = .returned (.bool res) ∧ Ext W W2 [] := by
  subst hn0_4
  unfold calxlaw02_FireMore at h
  refine calls_enter (m := 153) Try.func7 rfl rfl (Nat.le_of_ble_eq_true rfl) ?_
  refine cx_seq ?_
  refine cx_region ?_
  refine ox_box [.int .i64 p0.fRise, .int .i64 p0.fFall, .int .i64 p0.fUp, .int .i64 p0.fDown, .slice A0_4 p0.fLooks.length c0_4] rfl rfl rfl (fun b1 => ?_)
  refine ox_box [.int .i64 p1.fID, .int .i64 p1.fAt.fFoot, .int .i64 p1.fAt.fHour, .int .i64 p1.fHeat.fLo, .int .i64 p1.fHeat.fHi] rfl rfl rfl (fun b2 => ?_)
  refine ox_box [.int .i64 p2.fFoot, .int .i64 p2.fHour] rfl rfl rfl (fun b3 => ?_)
  refine ox_y rfl (y_assign_bool rfl) ?_
  refine ox_nil ?_
  refine ex_then ?_
  refine cx_seq ?_
  refine cx_seq ?_
  refine cx_region ?_
  refine ox_y rfl (y_loadN 0 [.int .i64 p0.fRise, .int .i64 p0.fFall, .int .i64 p0.fUp, .int .i64 p0.fDown, .slice A0_4 p0.fLooks.length c0_4] ag_24 rfl rfl rfl) ?_
  obtain ⟨y4, hy5, h⟩ := bind_some h
  refine ox_y rfl (y_call [.agg #[.int .i64 p0.fRise, .int .i64 p0.fFall, .int .i64 p0.fUp, .int .i64 p0.fDown, .slice A0_4 p0.fLooks.length c0_4]] go_11 rfl (fun W2 hW2 => calxlaw02_few_ok p0 y4 hy5 W2 A0_4 p0.fLooks.length c0_4 rfl ((RdL.arg hr0_4) W2 hW2)) rfl) ?_
  refine ox_y rfl (y_not rfl) ?_
  refine ox_nil ?_
  refine ex_then ?_
  rcases ite_some h with ⟨hp6, h⟩ | ⟨hp6, h⟩
  · refine cx_true (congrArg Value.bool hp6) ?_
    refine cx_seq ?_
    refine cx_region ?_
    obtain ⟨y7, hy8, h⟩ := bind_some h
    refine ox_y rfl (y_call [] go_13 rfl (fun W2 hW2 => calxlaw02_sanity_ok  y7 hy8 W2 ) rfl) ?_
    refine ox_y rfl (y_assign_bool rfl) ?_
    refine ox_nil ?_
    refine ex_then ?_
    refine cx_ret ?_
    refine ex_then_ret ?_
    obtain rfl := Option.some.inj h
    exact ex_res1 (.inl rfl) rfl (resV_tmp (v := .bool y7) rfl) (fun W2 hW2 => ⟨rfl, hW2.none⟩)
  · refine cx_false (congrArg Value.bool hp6) ?_
    refine cx_skip ?_
    refine ex_then ?_
    refine cx_seq ?_
    refine cx_region ?_
    refine ox_y rfl (y_loadN 0 [.int .i64 p0.fRise, .int .i64 p0.fFall, .int .i64 p0.fUp, .int .i64 p0.fDown, .slice A0_4 p0.fLooks.length c0_4] ag_24 rfl rfl rfl) ?_
    refine ox_y rfl (y_loadN 2 [.int .i64 p2.fFoot, .int .i64 p2.fHour] ag_26 rfl rfl rfl) ?_
    obtain ⟨y9, hy10, h⟩ := bind_some h
    refine ox_y rfl (y_call [.agg #[.int .i64 p0.fRise, .int .i64 p0.fFall, .int .i64 p0.fUp, .int .i64 p0.fDown, .slice A0_4 p0.fLooks.length c0_4], .agg #[.int .i64 p2.fFoot, .int .i64 p2.fHour]] go_14 rfl (fun W2 hW2 => fire_Ends_ok p0 p2 y9 hy10 W2 A0_4 p0.fLooks.length c0_4 rfl ((RdL.arg hr0_4) W2 hW2)) rfl) ?_
    refine ox_y rfl (y_move_tuple rfl) ?_
    refine ox_y rfl (y_extract (vs := [.agg #[.int .i64 y9.1.fSpan.fLo, .int .i64 y9.1.fSpan.fHi, .int .i64 y9.1.fLow, .int .i64 y9.1.fHigh], .int .i64 y9.2]) (v := .agg #[.int .i64 y9.1.fSpan.fLo, .int .i64 y9.1.fSpan.fHi, .int .i64 y9.1.fLow, .int .i64 y9.1.fHigh]) rfl rfl) ?_
    refine ox_y rfl (y_extract (vs := [.agg #[.int .i64 y9.1.fSpan.fLo, .int .i64 y9.1.fSpan.fHi, .int .i64 y9.1.fLow, .int .i64 y9.1.fHigh], .int .i64 y9.2]) (v := .int .i64 y9.2) rfl rfl) ?_
    refine ox_alloc ze_36 rfl (fun b11 => ?_)
    refine ox_n rfl (y_storeN 3 [.int .i64 y9.1.fSpan.fLo, .int .i64 y9.1.fSpan.fHi, .int .i64 y9.1.fLow, .int .i64 y9.1.fHigh] sz_36 rfl (Nat.le_of_ble_eq_true rfl) rfl rfl rfl) ?_
    refine ox_y rfl (y_assign_int rfl) ?_
    refine ox_nil ?_
    refine ex_then ?_
    refine cx_seq ?_
    refine cx_seq ?_
    refine cx_region ?_
    refine ox_y rfl (y_move_int rfl) ?_
    refine ox_y rfl (y_neq rfl rfl) ?_
    refine ox_nil ?_
    refine ex_then ?_
    rcases ite_some h with ⟨hp12, h⟩ | ⟨hp12, h⟩
    · refine cx_true (congrArg Value.bool hp12) ?_
      refine cx_seq ?_
      refine cx_region ?_
      obtain ⟨y13, hy14, h⟩ := bind_some h
      refine ox_y rfl (y_call [] go_13 rfl (fun W2 hW2 => calxlaw02_sanity_ok  y13 hy14 W2 ) rfl) ?_
      refine ox_y rfl (y_assign_bool rfl) ?_
      refine ox_nil ?_
      refine ex_then ?_
      refine cx_ret ?_
      refine ex_then_ret ?_
      obtain rfl := Option.some.inj h
      exact ex_res1 (.inl rfl) rfl (resV_tmp (v := .bool y13) rfl) (fun W2 hW2 => ⟨rfl, hW2.none⟩)
    · refine cx_false (congrArg Value.bool hp12) ?_
      refine cx_skip ?_
      refine ex_then ?_
      refine cx_seq ?_
      refine cx_region ?_
      refine ox_y rfl (y_loadN 0 [.int .i64 p0.fRise, .int .i64 p0.fFall, .int .i64 p0.fUp, .int .i64 p0.fDown, .slice A0_4 p0.fLooks.length c0_4] ag_24 rfl rfl rfl) ?_
      refine ox_y rfl (y_loadN 1 [.int .i64 p1.fID, .int .i64 p1.fAt.fFoot, .int .i64 p1.fAt.fHour, .int .i64 p1.fHeat.fLo, .int .i64 p1.fHeat.fHi] ag_34 rfl rfl rfl) ?_
      refine ox_y rfl (y_loadN 2 [.int .i64 p2.fFoot, .int .i64 p2.fHour] ag_26 rfl rfl rfl) ?_
      obtain ⟨y15, hy16, h⟩ := bind_some h
      refine ox_y rfl (y_call [.agg #[.int .i64 p0.fRise, .int .i64 p0.fFall, .int .i64 p0.fUp, .int .i64 p0.fDown, .slice A0_4 p0.fLooks.length c0_4], .agg #[.int .i64 p1.fID, .int .i64 p1.fAt.fFoot, .int .i64 p1.fAt.fHour, .int .i64 p1.fHeat.fLo, .int .i64 p1.fHeat.fHi], .agg #[.int .i64 p2.fFoot, .int .i64 p2.fHour]] go_38 rfl (fun W2 hW2 => fire_Would_ok p0 p1 p2 y15 hy16 W2 A0_4 p0.fLooks.length c0_4 rfl ((RdL.arg hr0_4) W2 hW2)) rfl) ?_
      refine ox_y rfl (y_move_tuple rfl) ?_
      refine ox_y rfl (y_extract (vs := [.agg #[.int .i64 y15.1.fSpan.fLo, .int .i64 y15.1.fSpan.fHi, .int .i64 y15.1.fLow, .int .i64 y15.1.fHigh], .int .i64 y15.2]) (v := .agg #[.int .i64 y15.1.fSpan.fLo, .int .i64 y15.1.fSpan.fHi, .int .i64 y15.1.fLow, .int .i64 y15.1.fHigh]) rfl rfl) ?_
      refine ox_y rfl (y_extract (vs := [.agg #[.int .i64 y15.1.fSpan.fLo, .int .i64 y15.1.fSpan.fHi, .int .i64 y15.1.fLow, .int .i64 y15.1.fHigh], .int .i64 y15.2]) (v := .int .i64 y15.2) rfl rfl) ?_
      refine ox_alloc ze_36 rfl (fun b17 => ?_)
      refine ox_n rfl (y_storeN 4 [.int .i64 y15.1.fSpan.fLo, .int .i64 y15.1.fSpan.fHi, .int .i64 y15.1.fLow, .int .i64 y15.1.fHigh] sz_36 rfl (Nat.le_of_ble_eq_true rfl) rfl rfl rfl) ?_
      refine ox_y rfl (y_assign_int rfl) ?_
      refine ox_nil ?_
      refine ex_then ?_
      refine cx_seq ?_
      refine cx_seq ?_
      refine cx_region ?_
      refine ox_y rfl (y_move_int rfl) ?_
      refine ox_y rfl (y_eql rfl rfl) ?_
      refine ox_y rfl (y_move_bool rfl) ?_
      refine ox_join 17 (fun tm0 => (upd (upd (upd (upd (upd (upd (upd tm0 3 (.int .i64 p3)) 4 (.pointer (some ⟨b1, 0, none⟩))) 5 (.pointer (some ⟨b2, 0, none⟩))) 6 (.pointer (some ⟨b3, 0, none⟩))) 8 (.bool false)) 9 (.pointer (some ⟨b11, 0, none⟩))) 65 (.bool ((y15.2 == 0) && ((decide (y15.1.fSpan.fLo < y9.1.fSpan.fLo)) || (decide (y9.1.fSpan.fHi < y15.1.fSpan.fHi))))))) (fun tm0 => ?_) (fun key => ?_)
      · refine ox_nil ?_
        refine ex_then ?_
        rcases ite_some h with ⟨hp19, h⟩ | ⟨hp19, h⟩
        · refine cx_true (congrArg Value.bool hp19) ?_
          refine cx_seq ?_
          refine cx_region ?_
          refine ox_y rfl (y_assign_bool rfl) ?_
          refine ox_nil ?_
          refine ex_then ?_
          refine cx_ret ?_
          refine ex_then_ret ?_
          obtain rfl := Option.some.inj h
          exact ex_res1 (.inl rfl) rfl (resV_tmp (v := .bool false) rfl) (fun W2 hW2 => ⟨rfl, hW2.none⟩)
        · refine cx_false (congrArg Value.bool hp19) ?_
          refine cx_skip ?_
          refine ex_then ?_
          refine cx_seq ?_
          refine cx_region ?_
          refine ox_y rfl (y_loadN 0 [.int .i64 p0.fRise, .int .i64 p0.fFall, .int .i64 p0.fUp, .int .i64 p0.fDown, .slice A0_4 p0.fLooks.length c0_4] ag_24 rfl rfl rfl) ?_
          refine ox_y rfl (y_fieldAddr fo_34_1 rfl) ?_
          refine ox_y rfl (y_loadN 1 [.int .i64 p1.fAt.fFoot, .int .i64 p1.fAt.fHour] ag_26 rfl rfl rfl) ?_
          obtain ⟨y20, hy21, h⟩ := bind_some h
          refine ox_y rfl (y_call [.agg #[.int .i64 p0.fRise, .int .i64 p0.fFall, .int .i64 p0.fUp, .int .i64 p0.fDown, .slice A0_4 p0.fLooks.length c0_4], .agg #[.int .i64 p1.fAt.fFoot, .int .i64 p1.fAt.fHour]] go_14 rfl (fun W2 hW2 => fire_Ends_ok p0 p1.fAt y20 hy21 W2 A0_4 p0.fLooks.length c0_4 rfl ((RdL.arg hr0_4) W2 hW2)) rfl) ?_
          refine ox_y rfl (y_move_tuple rfl) ?_
          refine ox_y rfl (y_extract (vs := [.agg #[.int .i64 y20.1.fSpan.fLo, .int .i64 y20.1.fSpan.fHi, .int .i64 y20.1.fLow, .int .i64 y20.1.fHigh], .int .i64 y20.2]) (v := .agg #[.int .i64 y20.1.fSpan.fLo, .int .i64 y20.1.fSpan.fHi, .int .i64 y20.1.fLow, .int .i64 y20.1.fHigh]) rfl rfl) ?_
          refine ox_y rfl (y_extract (vs := [.agg #[.int .i64 y20.1.fSpan.fLo, .int .i64 y20.1.fSpan.fHi, .int .i64 y20.1.fLow, .int .i64 y20.1.fHigh], .int .i64 y20.2]) (v := .int .i64 y20.2) rfl rfl) ?_
          refine ox_alloc ze_36 rfl (fun b22 => ?_)
          try dsimp only [List.nil_append, List.cons_append, List.set_cons_zero, List.set_cons_succ]
          refine ox_n rfl (y_storeN 5 [.int .i64 y20.1.fSpan.fLo, .int .i64 y20.1.fSpan.fHi, .int .i64 y20.1.fLow, .int .i64 y20.1.fHigh] sz_36 rfl (Nat.le_of_ble_eq_true rfl) rfl rfl rfl) ?_
          refine ox_y rfl (y_assign_int rfl) ?_
          refine ox_nil ?_
          refine ex_then ?_
          refine cx_seq ?_
          refine cx_seq ?_
          refine cx_region ?_
          refine ox_y rfl (y_move_int rfl) ?_
          refine ox_y rfl (y_eql rfl rfl) ?_
          refine ox_nil ?_
          refine ex_then ?_
          rcases ite_some h with ⟨hp23, h⟩ | ⟨hp23, h⟩
          · refine cx_true (congrArg Value.bool hp23) ?_
            refine cx_seq ?_
            refine cx_region ?_
            refine ox_y rfl (y_loadN 1 [.int .i64 p1.fID, .int .i64 p1.fAt.fFoot, .int .i64 p1.fAt.fHour, .int .i64 p1.fHeat.fLo, .int .i64 p1.fHeat.fHi] ag_34 rfl rfl rfl) ?_
            refine ox_alloc ze_34 rfl (fun b24 => ?_)
            try dsimp only [List.nil_append, List.cons_append, List.set_cons_zero, List.set_cons_succ]
            refine ox_n rfl (y_storeN 6 [.int .i64 p1.fID, .int .i64 p1.fAt.fFoot, .int .i64 p1.fAt.fHour, .int .i64 p1.fHeat.fLo, .int .i64 p1.fHeat.fHi] sz_34 rfl (Nat.le_of_ble_eq_true rfl) rfl rfl rfl) ?_
            refine ox_nil ?_
            refine ex_then ?_
            refine cx_seq ?_
            refine cx_region ?_
            refine ox_y rfl (y_fieldAddr fo_36_0 rfl) ?_
            refine ox_y rfl (y_loadN 5 [.int .i64 y20.1.fSpan.fLo, .int .i64 y20.1.fSpan.fHi] ag_32 rfl rfl rfl) ?_
            refine ox_y rfl (y_fieldAddr fo_34_2 rfl) ?_
            refine ox_n rfl (y_storeN 6 [.int .i64 y20.1.fSpan.fLo, .int .i64 y20.1.fSpan.fHi] sz_32 rfl (Nat.le_of_ble_eq_true rfl) rfl rfl rfl) ?_
            refine ox_nil ?_
            refine ex_then ?_
            refine cx_seq ?_
            refine cx_region ?_
            refine ox_y rfl (y_loadN 0 [.int .i64 p0.fRise, .int .i64 p0.fFall, .int .i64 p0.fUp, .int .i64 p0.fDown, .slice A0_4 p0.fLooks.length c0_4] ag_24 rfl rfl rfl) ?_
            refine ox_y rfl (y_loadN 6 [.int .i64 p1.fID, .int .i64 p1.fAt.fFoot, .int .i64 p1.fAt.fHour, .int .i64 y20.1.fSpan.fLo, .int .i64 y20.1.fSpan.fHi] ag_34 rfl rfl rfl) ?_
            refine ox_y rfl (y_loadN 2 [.int .i64 p2.fFoot, .int .i64 p2.fHour] ag_26 rfl rfl rfl) ?_
            obtain ⟨y25, hy26, h⟩ := bind_some h
            refine ox_y rfl (y_call [.agg #[.int .i64 p0.fRise, .int .i64 p0.fFall, .int .i64 p0.fUp, .int .i64 p0.fDown, .slice A0_4 p0.fLooks.length c0_4], .agg #[.int .i64 p1.fID, .int .i64 p1.fAt.fFoot, .int .i64 p1.fAt.fHour, .int .i64 y20.1.fSpan.fLo, .int .i64 y20.1.fSpan.fHi], .agg #[.int .i64 p2.fFoot, .int .i64 p2.fHour]] go_38 rfl (fun W2 hW2 => fire_Would_ok p0 (TLook.mk p1.fID p1.fAt y20.1.fSpan) p2 y25 hy26 W2 A0_4 p0.fLooks.length c0_4 rfl ((RdL.arg hr0_4) W2 hW2)) rfl) ?_
            refine ox_y rfl (y_move_tuple rfl) ?_
            refine ox_y rfl (y_extract (vs := [.agg #[.int .i64 y25.1.fSpan.fLo, .int .i64 y25.1.fSpan.fHi, .int .i64 y25.1.fLow, .int .i64 y25.1.fHigh], .int .i64 y25.2]) (v := .agg #[.int .i64 y25.1.fSpan.fLo, .int .i64 y25.1.fSpan.fHi, .int .i64 y25.1.fLow, .int .i64 y25.1.fHigh]) rfl rfl) ?_
            refine ox_y rfl (y_extract (vs := [.agg #[.int .i64 y25.1.fSpan.fLo, .int .i64 y25.1.fSpan.fHi, .int .i64 y25.1.fLow, .int .i64 y25.1.fHigh], .int .i64 y25.2]) (v := .int .i64 y25.2) rfl rfl) ?_
            refine ox_alloc ze_36 rfl (fun b27 => ?_)
            try dsimp only [List.nil_append, List.cons_append, List.set_cons_zero, List.set_cons_succ]
            refine ox_n rfl (y_storeN 7 [.int .i64 y25.1.fSpan.fLo, .int .i64 y25.1.fSpan.fHi, .int .i64 y25.1.fLow, .int .i64 y25.1.fHigh] sz_36 rfl (Nat.le_of_ble_eq_true rfl) rfl rfl rfl) ?_
            refine ox_y rfl (y_assign_int rfl) ?_
            refine ox_nil ?_
            refine ex_then ?_
            refine cx_seq ?_
            refine cx_region ?_
            refine ox_y rfl (y_move_int rfl) ?_
            refine ox_y rfl (y_eql rfl rfl) ?_
            refine ox_y rfl (y_move_bool rfl) ?_
            refine ox_join 6 (fun tm0 => (upd (upd (upd (upd (upd (upd (upd tm0 3 (.int .i64 p3)) 4 (.pointer (some ⟨b1, 0, none⟩))) 6 (.pointer (some ⟨b3, 0, none⟩))) 8 (.bool false)) 9 (.pointer (some ⟨b11, 0, none⟩))) 17 (.int .i64 y25.2)) 94 (.bool ((y25.2 == 0) && (!((y25.1.fSpan.fLo == y9.1.fSpan.fLo) && (y25.1.fSpan.fHi == y9.1.fSpan.fHi))))))) (fun tm0 => ?_) (fun key => ?_)
            · refine ox_y rfl (y_move_bool rfl) ?_
              refine ox_join 3 (fun tm0 => (upd (upd (upd (upd (upd (upd tm0 3 (.int .i64 p3)) 4 (.pointer (some ⟨b1, 0, none⟩))) 6 (.pointer (some ⟨b3, 0, none⟩))) 8 (.bool false)) 9 (.pointer (some ⟨b11, 0, none⟩))) 98 (.bool (((y25.2 == 0) && (!((y25.1.fSpan.fLo == y9.1.fSpan.fLo) && (y25.1.fSpan.fHi == y9.1.fSpan.fHi)))) || (y25.2 == 9))))) (fun tm0 => ?_) (fun key => ?_)
              · refine ox_nil ?_
                refine ex_then ?_
                rcases ite_some h with ⟨hp30, h⟩ | ⟨hp30, h⟩
                · refine cx_true (congrArg Value.bool hp30) ?_
                  refine cx_seq ?_
                  refine cx_region ?_
                  refine ox_y rfl (y_assign_bool rfl) ?_
                  refine ox_nil ?_
                  refine ex_then ?_
                  refine cx_ret ?_
                  refine ex_then_ret ?_
                  obtain rfl := Option.some.inj h
                  exact ex_res1 (.inl rfl) rfl (resV_tmp (v := .bool false) rfl) (fun W2 hW2 => ⟨rfl, hW2.none⟩)
                · refine cx_false (congrArg Value.bool hp30) ?_
                  refine cx_skip ?_
                  refine ex_then ?_
                  refine cx_seq ?_
                  refine cx_region ?_
                  refine ox_y rfl (y_loadN 0 [.int .i64 p0.fRise, .int .i64 p0.fFall, .int .i64 p0.fUp, .int .i64 p0.fDown, .slice A0_4 p0.fLooks.length c0_4] ag_24 rfl rfl rfl) ?_
                  refine ox_y rfl (y_loadN 2 [.int .i64 p2.fFoot, .int .i64 p2.fHour] ag_26 rfl rfl rfl) ?_
                  obtain ⟨y31, hy32, h⟩ := bind_some h
                  refine ox_call [.agg #[.int .i64 p0.fRise, .int .i64 p0.fFall, .int .i64 p0.fUp, .int .i64 p0.fDown, .slice A0_4 p0.fLooks.length c0_4], .agg #[.int .i64 p2.fFoot, .int .i64 p2.fHour]] _ _ _ rfl go_39 rfl (fun W2 hW2 => fire_Rests_ok p0 p2 y31 hy32 W2 A0_4 p0.fLooks.length c0_4 rfl ((RdL.arg hr0_4) W2 hW2)) ?_
                  rintro ⟨A33, n35, c34⟩ hn36
                  replace hn36 : n35 = y31.1.length := hn36; subst hn36
                  try dsimp only [List.nil_append, List.cons_append, List.set_cons_zero, List.set_cons_succ]
                  refine ox_y rfl (y_move_tuple rfl) ?_
                  refine ox_y rfl (y_extract (vs := [.slice A33 y31.1.length c34, .int .i64 y31.2]) (v := .slice A33 y31.1.length c34) rfl rfl) ?_
                  refine ox_y rfl (y_extract (vs := [.slice A33 y31.1.length c34, .int .i64 y31.2]) (v := .int .i64 y31.2) rfl rfl) ?_
                  refine ox_y rfl (y_assign_slice rfl) ?_
                  refine ox_y rfl (y_assign_int rfl) ?_
                  refine ox_nil ?_
                  refine ex_then ?_
                  refine cx_seq ?_
                  refine cx_region ?_
                  refine ox_y rfl (y_loadN 0 [.int .i64 p0.fRise, .int .i64 p0.fFall, .int .i64 p0.fUp, .int .i64 p0.fDown, .slice A0_4 p0.fLooks.length c0_4] ag_24 rfl rfl rfl) ?_
                  refine ox_y rfl (y_move_int rfl) ?_
                  refine ox_buildSliceE 1 (encL cI [p3]) _ mc_3_1 us_41 ze_3 by_3 (by decide) (by decide) (by kernel_rfl) (encL_len cI_len rfl) rfl (fun b37 => ?_)
                  try dsimp only [List.nil_append, List.cons_append, List.set_cons_zero, List.set_cons_succ]
                  obtain ⟨y38, hy39, h⟩ := bind_some h
                  refine ox_call [.agg #[.int .i64 p0.fRise, .int .i64 p0.fFall, .int .i64 p0.fUp, .int .i64 p0.fDown, .slice A0_4 p0.fLooks.length c0_4], .slice (some ⟨b37, 0, none⟩) 1 1] _ _ _ rfl go_29 rfl (fun W2 hW2 => fire_Without_ok p0 [p3] y38 hy39 W2 A0_4 p0.fLooks.length c0_4 rfl ((RdL.arg hr0_4) W2 hW2) (some ⟨b37, 0, none⟩) 1 1 rfl ((RdL.row 9 rfl) W2 hW2)) ?_
                  rintro ⟨A40, n42, c41⟩ hn43
                  replace hn43 : n42 = y38.1.fLooks.length := hn43; subst hn43
                  try dsimp only [List.nil_append, List.cons_append, List.set_cons_zero, List.set_cons_succ]
                  refine ox_y rfl (y_move_tuple rfl) ?_
                  refine ox_y rfl (y_extract (vs := [.agg #[.int .i64 y38.1.fRise, .int .i64 y38.1.fFall, .int .i64 y38.1.fUp, .int .i64 y38.1.fDown, .slice A40 y38.1.fLooks.length c41], .int .i64 y38.2]) (v := .agg #[.int .i64 y38.1.fRise, .int .i64 y38.1.fFall, .int .i64 y38.1.fUp, .int .i64 y38.1.fDown, .slice A40 y38.1.fLooks.length c41]) rfl rfl) ?_
                  refine ox_y rfl (y_extract (vs := [.agg #[.int .i64 y38.1.fRise, .int .i64 y38.1.fFall, .int .i64 y38.1.fUp, .int .i64 y38.1.fDown, .slice A40 y38.1.fLooks.length c41], .int .i64 y38.2]) (v := .int .i64 y38.2) rfl rfl) ?_
                  refine ox_alloc ze_24 rfl (fun b44 => ?_)
                  try dsimp only [List.nil_append, List.cons_append, List.set_cons_zero, List.set_cons_succ]
                  refine ox_n rfl (y_storeN 11 [.int .i64 y38.1.fRise, .int .i64 y38.1.fFall, .int .i64 y38.1.fUp, .int .i64 y38.1.fDown, .slice A40 y38.1.fLooks.length c41] sz_24 rfl (Nat.le_of_ble_eq_true rfl) rfl rfl rfl) ?_
                  refine ox_y rfl (y_assign_int rfl) ?_
                  refine ox_nil ?_
                  refine ex_then ?_
                  refine cx_seq ?_
                  refine cx_region ?_
                  refine ox_y rfl (y_loadN 11 [.int .i64 y38.1.fRise, .int .i64 y38.1.fFall, .int .i64 y38.1.fUp, .int .i64 y38.1.fDown, .slice A40 y38.1.fLooks.length c41] ag_24 rfl rfl rfl) ?_
                  refine ox_y rfl (y_loadN 2 [.int .i64 p2.fFoot, .int .i64 p2.fHour] ag_26 rfl rfl rfl) ?_
                  obtain ⟨y45, hy46, h⟩ := bind_some h
                  refine ox_y rfl (y_call [.agg #[.int .i64 y38.1.fRise, .int .i64 y38.1.fFall, .int .i64 y38.1.fUp, .int .i64 y38.1.fDown, .slice A40 y38.1.fLooks.length c41], .agg #[.int .i64 p2.fFoot, .int .i64 p2.fHour]] go_14 rfl (fun W2 hW2 => fire_Ends_ok y38.1 p2 y45 hy46 W2 A40 y38.1.fLooks.length c41 rfl ((RdL.row 10 rfl) W2 hW2)) rfl) ?_
                  refine ox_y rfl (y_move_tuple rfl) ?_
                  refine ox_y rfl (y_extract (vs := [.agg #[.int .i64 y45.1.fSpan.fLo, .int .i64 y45.1.fSpan.fHi, .int .i64 y45.1.fLow, .int .i64 y45.1.fHigh], .int .i64 y45.2]) (v := .agg #[.int .i64 y45.1.fSpan.fLo, .int .i64 y45.1.fSpan.fHi, .int .i64 y45.1.fLow, .int .i64 y45.1.fHigh]) rfl rfl) ?_
                  refine ox_y rfl (y_extract (vs := [.agg #[.int .i64 y45.1.fSpan.fLo, .int .i64 y45.1.fSpan.fHi, .int .i64 y45.1.fLow, .int .i64 y45.1.fHigh], .int .i64 y45.2]) (v := .int .i64 y45.2) rfl rfl) ?_
                  refine ox_alloc ze_36 rfl (fun b47 => ?_)
                  try dsimp only [List.nil_append, List.cons_append, List.set_cons_zero, List.set_cons_succ]
                  refine ox_n rfl (y_storeN 12 [.int .i64 y45.1.fSpan.fLo, .int .i64 y45.1.fSpan.fHi, .int .i64 y45.1.fLow, .int .i64 y45.1.fHigh] sz_36 rfl (Nat.le_of_ble_eq_true rfl) rfl rfl rfl) ?_
                  refine ox_y rfl (y_assign_int rfl) ?_
                  refine ox_nil ?_
                  refine ex_then ?_
                  refine cx_seq ?_
                  refine cx_seq ?_
                  refine cx_region ?_
                  refine ox_y rfl (y_move_int rfl) ?_
                  refine ox_y rfl (y_neq rfl rfl) ?_
                  refine ox_y rfl (y_move_bool rfl) ?_
                  refine ox_join 3 (fun tm0 => (upd (upd (upd (upd (upd (upd (upd tm0 3 (.int .i64 p3)) 8 (.bool false)) 9 (.pointer (some ⟨b11, 0, none⟩))) 18 (.slice A33 y31.1.length c34)) 22 (.pointer (some ⟨b47, 0, none⟩))) 23 (.int .i64 y45.2)) 123 (.bool ((y31.2 != 0) || (y38.2 != 0))))) (fun tm0 => ?_) (fun key => ?_)
                  · refine ox_y rfl (y_move_bool rfl) ?_
                    refine ox_join 3 (fun tm0 => (upd (upd (upd (upd (upd (upd tm0 3 (.int .i64 p3)) 8 (.bool false)) 9 (.pointer (some ⟨b11, 0, none⟩))) 18 (.slice A33 y31.1.length c34)) 22 (.pointer (some ⟨b47, 0, none⟩))) 127 (.bool (((y31.2 != 0) || (y38.2 != 0)) || (y45.2 != 0))))) (fun tm0 => ?_) (fun key => ?_)
                    · refine ox_nil ?_
                      refine ex_then ?_
                      rcases ite_some h with ⟨hp50, h⟩ | ⟨hp50, h⟩
                      · refine cx_true (congrArg Value.bool hp50) ?_
                        refine cx_seq ?_
                        refine cx_region ?_
                        refine ox_y rfl (y_assign_bool rfl) ?_
                        refine ox_nil ?_
                        refine ex_then ?_
                        refine cx_ret ?_
                        refine ex_then_ret ?_
                        obtain rfl := Option.some.inj h
                        exact ex_res1 (.inl rfl) rfl (resV_tmp (v := .bool false) rfl) (fun W2 hW2 => ⟨rfl, hW2.none⟩)
                      · refine cx_false (congrArg Value.bool hp50) ?_
                        refine cx_skip ?_
                        refine ex_then ?_
                        refine cx_seq ?_
                        refine cx_region ?_
                        refine ox_y rfl (y_assign_bool rfl) ?_
                        refine ox_nil ?_
                        refine ex_then ?_
                        refine cx_seq ?_
                        refine cx_seq ?_
                        refine cx_region ?_
                        refine ox_y rfl (y_assign_int rfl) ?_
                        refine ox_nil ?_
                        refine ex_then ?_
                        refine cx_block ?_
                        obtain ⟨u53, hl59, h⟩ := bind_some h
                        refine cx_loop (fun (s : (Bool × Int)) L tm => ∃ (tm0 : Nat → Value), L = [cellsR b1 24 [.int .i64 p0.fRise, .int .i64 p0.fFall, .int .i64 p0.fUp, .int .i64 p0.fDown, .slice A0_4 p0.fLooks.length c0_4], cellsR b2 34 [.int .i64 p1.fID, .int .i64 p1.fAt.fFoot, .int .i64 p1.fAt.fHour, .int .i64 p1.fHeat.fLo, .int .i64 p1.fHeat.fHi], cellsR b3 26 [.int .i64 p2.fFoot, .int .i64 p2.fHour], cellsR b11 36 [.int .i64 y9.1.fSpan.fLo, .int .i64 y9.1.fSpan.fHi, .int .i64 y9.1.fLow, .int .i64 y9.1.fHigh], cellsR b17 36 [.int .i64 y15.1.fSpan.fLo, .int .i64 y15.1.fSpan.fHi, .int .i64 y15.1.fLow, .int .i64 y15.1.fHigh], cellsR b22 36 [.int .i64 y20.1.fSpan.fLo, .int .i64 y20.1.fSpan.fHi, .int .i64 y20.1.fLow, .int .i64 y20.1.fHigh], cellsR b24 34 [.int .i64 p1.fID, .int .i64 p1.fAt.fFoot, .int .i64 p1.fAt.fHour, .int .i64 y20.1.fSpan.fLo, .int .i64 y20.1.fSpan.fHi], cellsR b27 36 [.int .i64 y25.1.fSpan.fLo, .int .i64 y25.1.fSpan.fHi, .int .i64 y25.1.fLow, .int .i64 y25.1.fHigh], rowR A33 c34 3 1 y31.1.length (encL cI y31.1), rowR (some ⟨b37, 0, none⟩) 1 3 1 1 (encL cI [p3]), rowR A40 c41 34 5 y38.1.fLooks.length (encL TLook_cells y38.1.fLooks), cellsR b44 24 [.int .i64 y38.1.fRise, .int .i64 y38.1.fFall, .int .i64 y38.1.fUp, .int .i64 y38.1.fDown, .slice A40 y38.1.fLooks.length c41], cellsR b47 36 [.int .i64 y45.1.fSpan.fLo, .int .i64 y45.1.fSpan.fHi, .int .i64 y45.1.fLow, .int .i64 y45.1.fHigh]] ∧ tm = (upd (upd (upd (upd (upd (upd (upd (upd tm0 3 (.int .i64 p3)) 8 (.bool false)) 9 (.pointer (some ⟨b11, 0, none⟩))) 18 (.slice A33 y31.1.length c34)) 22 (.pointer (some ⟨b47, 0, none⟩))) 127 (.bool (((y31.2 != 0) || (y38.2 != 0)) || (y45.2 != 0)))) 24 (.bool s.1)) 25 (.int .i64 s.2))) (fun s e L tm => e = .exit 0 ∧ ∃ (tm0 : Nat → Value), L = [cellsR b1 24 [.int .i64 p0.fRise, .int .i64 p0.fFall, .int .i64 p0.fUp, .int .i64 p0.fDown, .slice A0_4 p0.fLooks.length c0_4], cellsR b2 34 [.int .i64 p1.fID, .int .i64 p1.fAt.fFoot, .int .i64 p1.fAt.fHour, .int .i64 p1.fHeat.fLo, .int .i64 p1.fHeat.fHi], cellsR b3 26 [.int .i64 p2.fFoot, .int .i64 p2.fHour], cellsR b11 36 [.int .i64 y9.1.fSpan.fLo, .int .i64 y9.1.fSpan.fHi, .int .i64 y9.1.fLow, .int .i64 y9.1.fHigh], cellsR b17 36 [.int .i64 y15.1.fSpan.fLo, .int .i64 y15.1.fSpan.fHi, .int .i64 y15.1.fLow, .int .i64 y15.1.fHigh], cellsR b22 36 [.int .i64 y20.1.fSpan.fLo, .int .i64 y20.1.fSpan.fHi, .int .i64 y20.1.fLow, .int .i64 y20.1.fHigh], cellsR b24 34 [.int .i64 p1.fID, .int .i64 p1.fAt.fFoot, .int .i64 p1.fAt.fHour, .int .i64 y20.1.fSpan.fLo, .int .i64 y20.1.fSpan.fHi], cellsR b27 36 [.int .i64 y25.1.fSpan.fLo, .int .i64 y25.1.fSpan.fHi, .int .i64 y25.1.fLow, .int .i64 y25.1.fHigh], rowR A33 c34 3 1 y31.1.length (encL cI y31.1), rowR (some ⟨b37, 0, none⟩) 1 3 1 1 (encL cI [p3]), rowR A40 c41 34 5 y38.1.fLooks.length (encL TLook_cells y38.1.fLooks), cellsR b44 24 [.int .i64 y38.1.fRise, .int .i64 y38.1.fFall, .int .i64 y38.1.fUp, .int .i64 y38.1.fDown, .slice A40 y38.1.fLooks.length c41], cellsR b47 36 [.int .i64 y45.1.fSpan.fLo, .int .i64 y45.1.fSpan.fHi, .int .i64 y45.1.fLow, .int .i64 y45.1.fHigh]] ∧ tm = (upd (upd (upd (upd (upd (upd (upd (upd tm0 3 (.int .i64 p3)) 8 (.bool false)) 9 (.pointer (some ⟨b11, 0, none⟩))) 18 (.slice A33 y31.1.length c34)) 22 (.pointer (some ⟨b47, 0, none⟩))) 127 (.bool (((y31.2 != 0) || (y38.2 != 0)) || (y45.2 != 0)))) 24 (.bool s.1)) 25 (.int .i64 s.2))) hl59 ⟨_, rfl, (keep (keep (keep (keep (keep (keep (keep (keep rfl rfl) rfl) rfl) rfl) rfl) rfl) rfl) rfl)⟩ ?_ ?_
                        · rintro s52 L tm st ⟨tm0_s52, rfl, rfl⟩ h
                          unfold calxlaw02_FireMore_l1 at h
                          refine cx_seq ?_
                          refine cx_seq ?_
                          refine cx_region ?_
                          refine ox_y rfl (y_move_int rfl) ?_
                          refine ox_y rfl (y_move_slice rfl) ?_
                          refine ox_y rfl (y_len (us := []) us_41 rfl) ?_
                          refine ox_y rfl (y_lss rfl rfl) ?_
                          refine ox_nil ?_
                          refine ex_then ?_
                          rcases ite_some h with ⟨hp54, h⟩ | ⟨hp54, h⟩
                          · refine cx_true (congrArg Value.bool hp54) ?_
                            refine cx_skip ?_
                            refine ex_then ?_
                            refine cx_seq ?_
                            refine cx_block ?_
                            refine cx_region ?_
                            refine ox_y rfl (y_move_bool rfl) ?_
                            refine ox_y rfl (y_move_bool rfl) ?_
                            obtain ⟨b56, hb57, h⟩ := bind_some h
                            refine ox_join 7 (fun tm0 => (upd (upd (upd (upd (upd (upd (upd (upd (upd (upd tm0 3 (.int .i64 p3)) 8 (.bool false)) 9 (.pointer (some ⟨b11, 0, none⟩))) 18 (.slice A33 y31.1.length c34)) 22 (.pointer (some ⟨b47, 0, none⟩))) 127 (.bool (((y31.2 != 0) || (y38.2 != 0)) || (y45.2 != 0)))) 24 (.bool s52.1)) 25 (.int .i64 s52.2)) 131 (.bool (decide (s52.2 < ((y31.1.length : Nat) : Int))))) 142 (.bool b56))) (fun tm0 => ?_) (fun key => ?_)
                            · refine ox_y rfl (y_assign_bool rfl) ?_
                              refine ox_nil ?_
                              refine ex_block ?_
                              refine ex_then ?_
                              refine cx_region ?_
                              refine ox_y rfl (y_move_int rfl) ?_
                              refine ox_y rfl (y_add rfl rfl) ?_
                              refine ox_y rfl (y_assign_int rfl) ?_
                              refine ox_nil ?_
                              obtain rfl := Option.some.inj h
                              exact ex_next ⟨_, rfl, (keep (keep (keep (keep (keep (keep (keep (keep rfl rfl) rfl) rfl) rfl) rfl) rfl) rfl) rfl)⟩
                            · clear h; rcases ite_some hb57 with ⟨hp55, h⟩ | ⟨hp55, h⟩
                              · refine ox_skip (sees_f rfl rfl rfl rfl hp55) ?_
                                refine ox_skip (sees_f rfl rfl rfl rfl hp55) ?_
                                refine ox_skip (sees_f rfl rfl rfl rfl hp55) ?_
                                refine ox_skip (sees_f rfl rfl rfl rfl hp55) ?_
                                refine ox_skip (sees_f rfl rfl rfl rfl hp55) ?_
                                refine ox_skip (sees_f rfl rfl rfl rfl hp55) ?_
                                refine ox_y rfl (y_pick_tb (congrArg Value.bool hp55) rfl) ?_
                                obtain rfl := Option.some.inj h
                                exact key _ _ (keep (keep (keep (keep (keep (keep (keep (keep (keep (keep rfl rfl) rfl) rfl) rfl) rfl) rfl) rfl) rfl) rfl) rfl)
                              · refine ox_y (sees_t rfl rfl rfl rfl hp55) (y_move_slice rfl) ?_
                                refine ox_y (sees_t rfl rfl rfl rfl hp55) (y_move_int rfl) ?_
                                obtain ⟨hg58, h⟩ := guardO_some h
                                refine ox_y (sees_t rfl rfl rfl rfl hp55) (y_indexR sl_41 (by decide) hg58.1 hg58.2 (RdL.row 8 rfl) (encL_len cI_len rfl) rfl rfl) ?_
                                refine ox_y (sees_t rfl rfl rfl rfl hp55) (y_loadR1 (A := A33) (j := (Int.toNat s52.2 * 1)) (v := .int .i64 (rdL y31.1 s52.2)) sc_3 (RdL.row 8 rfl) rfl (encL_get0 cI_len hg58.1 (lt_nat hg58.2 rfl) rfl)) ?_
                                refine ox_y (sees_t rfl rfl rfl rfl hp55) (y_move_int rfl) ?_
                                refine ox_y (sees_t rfl rfl rfl rfl hp55) (y_eql rfl rfl) ?_
                                refine ox_y rfl (y_pick_fb (congrArg Value.bool hp55) rfl) ?_
                                obtain rfl := Option.some.inj h
                                exact key _ _ (keep (keep (keep (keep (keep (keep (keep (keep (keep (keep rfl rfl) rfl) rfl) rfl) rfl) rfl) rfl) rfl) rfl) rfl)
                          · refine cx_false (congrArg Value.bool hp54) ?_
                            refine cx_exit ?_
                            refine ex_then_exit ?_
                            obtain rfl := Option.some.inj h
                            exact ex_stop ⟨rfl, _, rfl, (keep (keep (keep (keep (keep (keep (keep (keep rfl rfl) rfl) rfl) rfl) rfl) rfl) rfl) rfl)⟩
                        · intro e L tm hJ
                          obtain ⟨rfl, tm0_u53, rfl, rfl⟩ := hJ
                          refine ⟨(by intro hc; cases hc), ?_⟩
                          refine ex_block_here ?_
                          refine ex_then ?_
                          refine cx_seq ?_
                          refine cx_region ?_
                          obtain ⟨y60, hy61, h⟩ := bind_some h
                          refine ox_y rfl (y_call [] go_13 rfl (fun W2 hW2 => calxlaw02_sanity_ok  y60 hy61 W2 ) rfl) ?_
                          refine ox_y rfl (y_move_bool rfl) ?_
                          refine ox_join 8 (fun tm0 => (upd (upd tm0 8 (.bool false)) 152 (.bool (y60 && (u53.1 == (!((y45.1.fSpan.fLo == y9.1.fSpan.fLo) && (y45.1.fSpan.fHi == y9.1.fSpan.fHi)))))))) (fun tm0 => ?_) (fun key => ?_)
                          · refine ox_y rfl (y_assign_bool rfl) ?_
                            refine ox_nil ?_
                            refine ex_then ?_
                            refine cx_ret ?_
                            obtain rfl := Option.some.inj h
                            exact ex_res1 (.inl rfl) rfl (resV_tmp (v := .bool (y60 && (u53.1 == (!((y45.1.fSpan.fLo == y9.1.fSpan.fLo) && (y45.1.fSpan.fHi == y9.1.fSpan.fHi)))))) rfl) (fun W2 hW2 => ⟨rfl, hW2.none⟩)
                          · rcases bool_cases y60 with hp62 | hp62
                            · refine ox_y (sees_t rfl rfl rfl rfl hp62) (y_move_bool rfl) ?_
                              refine ox_y (sees_t rfl rfl rfl rfl hp62) (y_fieldAddr fo_36_0 rfl) ?_
                              refine ox_y (sees_t rfl rfl rfl rfl hp62) (y_loadN 12 [.int .i64 y45.1.fSpan.fLo, .int .i64 y45.1.fSpan.fHi] ag_32 rfl rfl rfl) ?_
                              refine ox_y (sees_t rfl rfl rfl rfl hp62) (y_fieldAddr fo_36_0 rfl) ?_
                              refine ox_y (sees_t rfl rfl rfl rfl hp62) (y_loadN 3 [.int .i64 y9.1.fSpan.fLo, .int .i64 y9.1.fSpan.fHi] ag_32 rfl rfl rfl) ?_
                              refine ox_y (sees_t rfl rfl rfl rfl hp62) (y_neqa (b := ((y45.1.fSpan.fLo == y9.1.fSpan.fLo) && (y45.1.fSpan.fHi == y9.1.fSpan.fHi))) eg_32 rfl rfl (fun _ => (eqS2 fl_32 (part1 sc_3 rfl) (part1 sc_3 rfl) (part1 sc_3 rfl) (part1 sc_3 rfl) (run_equalIn_int _ _ _ _ _ _ _ ui_3) (run_equalIn_int _ _ _ _ _ _ _ ui_3)))) ?_
                              refine ox_y (sees_t rfl rfl rfl rfl hp62) (y_eqlb ub_4 rfl rfl) ?_
                              refine ox_y rfl (y_pick_tb (congrArg Value.bool hp62) rfl) ?_
                              exact key _ _ (keep (keep rfl rfl) (congrArg Value.bool (and_t hp62)))
                            · refine ox_skip (sees_f rfl rfl rfl rfl hp62) ?_
                              refine ox_skip (sees_f rfl rfl rfl rfl hp62) ?_
                              refine ox_skip (sees_f rfl rfl rfl rfl hp62) ?_
                              refine ox_skip (sees_f rfl rfl rfl rfl hp62) ?_
                              refine ox_skip (sees_f rfl rfl rfl rfl hp62) ?_
                              refine ox_skip (sees_f rfl rfl rfl rfl hp62) ?_
                              refine ox_skip (sees_f rfl rfl rfl rfl hp62) ?_
                              refine ox_y rfl (y_pick_fb (congrArg Value.bool hp62) rfl) ?_
                              exact key _ _ (keep (keep rfl rfl) (congrArg Value.bool (and_f hp62)))
                    · rcases bool_cases ((y31.2 != 0) || (y38.2 != 0)) with hp49 | hp49
                      · refine ox_skip (sees_f rfl rfl rfl rfl hp49) ?_
                        refine ox_skip (sees_f rfl rfl rfl rfl hp49) ?_
                        refine ox_y rfl (y_pick_tb (congrArg Value.bool hp49) rfl) ?_
                        exact key _ _ (keep (keep (keep (keep (keep (keep rfl rfl) rfl) rfl) rfl) rfl) (congrArg Value.bool (or_t hp49)))
                      · refine ox_y (sees_t rfl rfl rfl rfl hp49) (y_move_int rfl) ?_
                        refine ox_y (sees_t rfl rfl rfl rfl hp49) (y_neq rfl rfl) ?_
                        refine ox_y rfl (y_pick_fb (congrArg Value.bool hp49) rfl) ?_
                        exact key _ _ (keep (keep (keep (keep (keep (keep rfl rfl) rfl) rfl) rfl) rfl) (congrArg Value.bool (or_f hp49)))
                  · rcases bool_cases (y31.2 != 0) with hp48 | hp48
                    · refine ox_skip (sees_f rfl rfl rfl rfl hp48) ?_
                      refine ox_skip (sees_f rfl rfl rfl rfl hp48) ?_
                      refine ox_y rfl (y_pick_tb (congrArg Value.bool hp48) rfl) ?_
                      exact key _ _ (keep (keep (keep (keep (keep (keep (keep rfl rfl) rfl) rfl) rfl) rfl) rfl) (congrArg Value.bool (or_t hp48)))
                    · refine ox_y (sees_t rfl rfl rfl rfl hp48) (y_move_int rfl) ?_
                      refine ox_y (sees_t rfl rfl rfl rfl hp48) (y_neq rfl rfl) ?_
                      refine ox_y rfl (y_pick_fb (congrArg Value.bool hp48) rfl) ?_
                      exact key _ _ (keep (keep (keep (keep (keep (keep (keep rfl rfl) rfl) rfl) rfl) rfl) rfl) (congrArg Value.bool (or_f hp48)))
              · rcases bool_cases ((y25.2 == 0) && (!((y25.1.fSpan.fLo == y9.1.fSpan.fLo) && (y25.1.fSpan.fHi == y9.1.fSpan.fHi)))) with hp29 | hp29
                · refine ox_skip (sees_f rfl rfl rfl rfl hp29) ?_
                  refine ox_skip (sees_f rfl rfl rfl rfl hp29) ?_
                  refine ox_y rfl (y_pick_tb (congrArg Value.bool hp29) rfl) ?_
                  exact key _ _ (keep (keep (keep (keep (keep (keep rfl rfl) rfl) rfl) rfl) rfl) (congrArg Value.bool (or_t hp29)))
                · refine ox_y (sees_t rfl rfl rfl rfl hp29) (y_move_int rfl) ?_
                  refine ox_y (sees_t rfl rfl rfl rfl hp29) (y_eql rfl rfl) ?_
                  refine ox_y rfl (y_pick_fb (congrArg Value.bool hp29) rfl) ?_
                  exact key _ _ (keep (keep (keep (keep (keep (keep rfl rfl) rfl) rfl) rfl) rfl) (congrArg Value.bool (or_f hp29)))
            · rcases bool_cases (y25.2 == 0) with hp28 | hp28
              · refine ox_y (sees_t rfl rfl rfl rfl hp28) (y_fieldAddr fo_36_0 rfl) ?_
                refine ox_y (sees_t rfl rfl rfl rfl hp28) (y_loadN 7 [.int .i64 y25.1.fSpan.fLo, .int .i64 y25.1.fSpan.fHi] ag_32 rfl rfl rfl) ?_
                refine ox_y (sees_t rfl rfl rfl rfl hp28) (y_fieldAddr fo_36_0 rfl) ?_
                refine ox_y (sees_t rfl rfl rfl rfl hp28) (y_loadN 3 [.int .i64 y9.1.fSpan.fLo, .int .i64 y9.1.fSpan.fHi] ag_32 rfl rfl rfl) ?_
                refine ox_y (sees_t rfl rfl rfl rfl hp28) (y_neqa (b := ((y25.1.fSpan.fLo == y9.1.fSpan.fLo) && (y25.1.fSpan.fHi == y9.1.fSpan.fHi))) eg_32 rfl rfl (fun _ => (eqS2 fl_32 (part1 sc_3 rfl) (part1 sc_3 rfl) (part1 sc_3 rfl) (part1 sc_3 rfl) (run_equalIn_int _ _ _ _ _ _ _ ui_3) (run_equalIn_int _ _ _ _ _ _ _ ui_3)))) ?_
                refine ox_y rfl (y_pick_tb (congrArg Value.bool hp28) rfl) ?_
                exact key _ _ (keep (keep (keep (keep (keep (keep (keep rfl rfl) rfl) rfl) rfl) rfl) rfl) (congrArg Value.bool (and_t hp28)))
              · refine ox_skip (sees_f rfl rfl rfl rfl hp28) ?_
                refine ox_skip (sees_f rfl rfl rfl rfl hp28) ?_
                refine ox_skip (sees_f rfl rfl rfl rfl hp28) ?_
                refine ox_skip (sees_f rfl rfl rfl rfl hp28) ?_
                refine ox_skip (sees_f rfl rfl rfl rfl hp28) ?_
                refine ox_y rfl (y_pick_fb (congrArg Value.bool hp28) rfl) ?_
                exact key _ _ (keep (keep (keep (keep (keep (keep (keep rfl rfl) rfl) rfl) rfl) rfl) rfl) (congrArg Value.bool (and_f hp28)))
          · refine cx_false (congrArg Value.bool hp23) ?_
            refine cx_skip ?_
            refine ex_then ?_
            refine cx_seq ?_
            refine cx_region ?_
            refine ox_y rfl (y_loadN 0 [.int .i64 p0.fRise, .int .i64 p0.fFall, .int .i64 p0.fUp, .int .i64 p0.fDown, .slice A0_4 p0.fLooks.length c0_4] ag_24 rfl rfl rfl) ?_
            refine ox_y rfl (y_loadN 2 [.int .i64 p2.fFoot, .int .i64 p2.fHour] ag_26 rfl rfl rfl) ?_
            obtain ⟨y63, hy64, h⟩ := bind_some h
            refine ox_call [.agg #[.int .i64 p0.fRise, .int .i64 p0.fFall, .int .i64 p0.fUp, .int .i64 p0.fDown, .slice A0_4 p0.fLooks.length c0_4], .agg #[.int .i64 p2.fFoot, .int .i64 p2.fHour]] _ _ _ rfl go_39 rfl (fun W2 hW2 => fire_Rests_ok p0 p2 y63 hy64 W2 A0_4 p0.fLooks.length c0_4 rfl ((RdL.arg hr0_4) W2 hW2)) ?_
            rintro ⟨A65, n67, c66⟩ hn68
            replace hn68 : n67 = y63.1.length := hn68; subst hn68
            try dsimp only [List.nil_append, List.cons_append, List.set_cons_zero, List.set_cons_succ]
            refine ox_y rfl (y_move_tuple rfl) ?_
            refine ox_y rfl (y_extract (vs := [.slice A65 y63.1.length c66, .int .i64 y63.2]) (v := .slice A65 y63.1.length c66) rfl rfl) ?_
            refine ox_y rfl (y_extract (vs := [.slice A65 y63.1.length c66, .int .i64 y63.2]) (v := .int .i64 y63.2) rfl rfl) ?_
            refine ox_y rfl (y_assign_slice rfl) ?_
            refine ox_y rfl (y_assign_int rfl) ?_
            refine ox_nil ?_
            refine ex_then ?_
            refine cx_seq ?_
            refine cx_region ?_
            refine ox_y rfl (y_loadN 0 [.int .i64 p0.fRise, .int .i64 p0.fFall, .int .i64 p0.fUp, .int .i64 p0.fDown, .slice A0_4 p0.fLooks.length c0_4] ag_24 rfl rfl rfl) ?_
            refine ox_y rfl (y_move_int rfl) ?_
            refine ox_buildSliceE 1 (encL cI [p3]) _ mc_3_1 us_41 ze_3 by_3 (by decide) (by decide) (by kernel_rfl) (encL_len cI_len rfl) rfl (fun b69 => ?_)
            try dsimp only [List.nil_append, List.cons_append, List.set_cons_zero, List.set_cons_succ]
            obtain ⟨y70, hy71, h⟩ := bind_some h
            refine ox_call [.agg #[.int .i64 p0.fRise, .int .i64 p0.fFall, .int .i64 p0.fUp, .int .i64 p0.fDown, .slice A0_4 p0.fLooks.length c0_4], .slice (some ⟨b69, 0, none⟩) 1 1] _ _ _ rfl go_29 rfl (fun W2 hW2 => fire_Without_ok p0 [p3] y70 hy71 W2 A0_4 p0.fLooks.length c0_4 rfl ((RdL.arg hr0_4) W2 hW2) (some ⟨b69, 0, none⟩) 1 1 rfl ((RdL.row 7 rfl) W2 hW2)) ?_
            rintro ⟨A72, n74, c73⟩ hn75
            replace hn75 : n74 = y70.1.fLooks.length := hn75; subst hn75
            try dsimp only [List.nil_append, List.cons_append, List.set_cons_zero, List.set_cons_succ]
            refine ox_y rfl (y_move_tuple rfl) ?_
            refine ox_y rfl (y_extract (vs := [.agg #[.int .i64 y70.1.fRise, .int .i64 y70.1.fFall, .int .i64 y70.1.fUp, .int .i64 y70.1.fDown, .slice A72 y70.1.fLooks.length c73], .int .i64 y70.2]) (v := .agg #[.int .i64 y70.1.fRise, .int .i64 y70.1.fFall, .int .i64 y70.1.fUp, .int .i64 y70.1.fDown, .slice A72 y70.1.fLooks.length c73]) rfl rfl) ?_
            refine ox_y rfl (y_extract (vs := [.agg #[.int .i64 y70.1.fRise, .int .i64 y70.1.fFall, .int .i64 y70.1.fUp, .int .i64 y70.1.fDown, .slice A72 y70.1.fLooks.length c73], .int .i64 y70.2]) (v := .int .i64 y70.2) rfl rfl) ?_
            refine ox_alloc ze_24 rfl (fun b76 => ?_)
            try dsimp only [List.nil_append, List.cons_append, List.set_cons_zero, List.set_cons_succ]
            refine ox_n rfl (y_storeN 9 [.int .i64 y70.1.fRise, .int .i64 y70.1.fFall, .int .i64 y70.1.fUp, .int .i64 y70.1.fDown, .slice A72 y70.1.fLooks.length c73] sz_24 rfl (Nat.le_of_ble_eq_true rfl) rfl rfl rfl) ?_
            refine ox_y rfl (y_assign_int rfl) ?_
            refine ox_nil ?_
            refine ex_then ?_
            refine cx_seq ?_
            refine cx_region ?_
            refine ox_y rfl (y_loadN 9 [.int .i64 y70.1.fRise, .int .i64 y70.1.fFall, .int .i64 y70.1.fUp, .int .i64 y70.1.fDown, .slice A72 y70.1.fLooks.length c73] ag_24 rfl rfl rfl) ?_
            refine ox_y rfl (y_loadN 2 [.int .i64 p2.fFoot, .int .i64 p2.fHour] ag_26 rfl rfl rfl) ?_
            obtain ⟨y77, hy78, h⟩ := bind_some h
            refine ox_y rfl (y_call [.agg #[.int .i64 y70.1.fRise, .int .i64 y70.1.fFall, .int .i64 y70.1.fUp, .int .i64 y70.1.fDown, .slice A72 y70.1.fLooks.length c73], .agg #[.int .i64 p2.fFoot, .int .i64 p2.fHour]] go_14 rfl (fun W2 hW2 => fire_Ends_ok y70.1 p2 y77 hy78 W2 A72 y70.1.fLooks.length c73 rfl ((RdL.row 8 rfl) W2 hW2)) rfl) ?_
            refine ox_y rfl (y_move_tuple rfl) ?_
            refine ox_y rfl (y_extract (vs := [.agg #[.int .i64 y77.1.fSpan.fLo, .int .i64 y77.1.fSpan.fHi, .int .i64 y77.1.fLow, .int .i64 y77.1.fHigh], .int .i64 y77.2]) (v := .agg #[.int .i64 y77.1.fSpan.fLo, .int .i64 y77.1.fSpan.fHi, .int .i64 y77.1.fLow, .int .i64 y77.1.fHigh]) rfl rfl) ?_
            refine ox_y rfl (y_extract (vs := [.agg #[.int .i64 y77.1.fSpan.fLo, .int .i64 y77.1.fSpan.fHi, .int .i64 y77.1.fLow, .int .i64 y77.1.fHigh], .int .i64 y77.2]) (v := .int .i64 y77.2) rfl rfl) ?_
            refine ox_alloc ze_36 rfl (fun b79 => ?_)
            try dsimp only [List.nil_append, List.cons_append, List.set_cons_zero, List.set_cons_succ]
            refine ox_n rfl (y_storeN 10 [.int .i64 y77.1.fSpan.fLo, .int .i64 y77.1.fSpan.fHi, .int .i64 y77.1.fLow, .int .i64 y77.1.fHigh] sz_36 rfl (Nat.le_of_ble_eq_true rfl) rfl rfl rfl) ?_
            refine ox_y rfl (y_assign_int rfl) ?_
            refine ox_nil ?_
            refine ex_then ?_
            refine cx_seq ?_
            refine cx_seq ?_
            refine cx_region ?_
            refine ox_y rfl (y_move_int rfl) ?_
            refine ox_y rfl (y_neq rfl rfl) ?_
            refine ox_y rfl (y_move_bool rfl) ?_
            refine ox_join 3 (fun tm0 => (upd (upd (upd (upd (upd (upd (upd tm0 3 (.int .i64 p3)) 8 (.bool false)) 9 (.pointer (some ⟨b11, 0, none⟩))) 18 (.slice A65 y63.1.length c66)) 22 (.pointer (some ⟨b79, 0, none⟩))) 23 (.int .i64 y77.2)) 123 (.bool ((y63.2 != 0) || (y70.2 != 0))))) (fun tm0 => ?_) (fun key => ?_)
            · refine ox_y rfl (y_move_bool rfl) ?_
              refine ox_join 3 (fun tm0 => (upd (upd (upd (upd (upd (upd tm0 3 (.int .i64 p3)) 8 (.bool false)) 9 (.pointer (some ⟨b11, 0, none⟩))) 18 (.slice A65 y63.1.length c66)) 22 (.pointer (some ⟨b79, 0, none⟩))) 127 (.bool (((y63.2 != 0) || (y70.2 != 0)) || (y77.2 != 0))))) (fun tm0 => ?_) (fun key => ?_)
              · refine ox_nil ?_
                refine ex_then ?_
                rcases ite_some h with ⟨hp82, h⟩ | ⟨hp82, h⟩
                · refine cx_true (congrArg Value.bool hp82) ?_
                  refine cx_seq ?_
                  refine cx_region ?_
                  refine ox_y rfl (y_assign_bool rfl) ?_
                  refine ox_nil ?_
                  refine ex_then ?_
                  refine cx_ret ?_
                  refine ex_then_ret ?_
                  obtain rfl := Option.some.inj h
                  exact ex_res1 (.inl rfl) rfl (resV_tmp (v := .bool false) rfl) (fun W2 hW2 => ⟨rfl, hW2.none⟩)
                · refine cx_false (congrArg Value.bool hp82) ?_
                  refine cx_skip ?_
                  refine ex_then ?_
                  refine cx_seq ?_
                  refine cx_region ?_
                  refine ox_y rfl (y_assign_bool rfl) ?_
                  refine ox_nil ?_
                  refine ex_then ?_
                  refine cx_seq ?_
                  refine cx_seq ?_
                  refine cx_region ?_
                  refine ox_y rfl (y_assign_int rfl) ?_
                  refine ox_nil ?_
                  refine ex_then ?_
                  refine cx_block ?_
                  obtain ⟨u85, hl91, h⟩ := bind_some h
                  refine cx_loop (fun (s : (Bool × Int)) L tm => ∃ (tm0 : Nat → Value), L = [cellsR b1 24 [.int .i64 p0.fRise, .int .i64 p0.fFall, .int .i64 p0.fUp, .int .i64 p0.fDown, .slice A0_4 p0.fLooks.length c0_4], cellsR b2 34 [.int .i64 p1.fID, .int .i64 p1.fAt.fFoot, .int .i64 p1.fAt.fHour, .int .i64 p1.fHeat.fLo, .int .i64 p1.fHeat.fHi], cellsR b3 26 [.int .i64 p2.fFoot, .int .i64 p2.fHour], cellsR b11 36 [.int .i64 y9.1.fSpan.fLo, .int .i64 y9.1.fSpan.fHi, .int .i64 y9.1.fLow, .int .i64 y9.1.fHigh], cellsR b17 36 [.int .i64 y15.1.fSpan.fLo, .int .i64 y15.1.fSpan.fHi, .int .i64 y15.1.fLow, .int .i64 y15.1.fHigh], cellsR b22 36 [.int .i64 y20.1.fSpan.fLo, .int .i64 y20.1.fSpan.fHi, .int .i64 y20.1.fLow, .int .i64 y20.1.fHigh], rowR A65 c66 3 1 y63.1.length (encL cI y63.1), rowR (some ⟨b69, 0, none⟩) 1 3 1 1 (encL cI [p3]), rowR A72 c73 34 5 y70.1.fLooks.length (encL TLook_cells y70.1.fLooks), cellsR b76 24 [.int .i64 y70.1.fRise, .int .i64 y70.1.fFall, .int .i64 y70.1.fUp, .int .i64 y70.1.fDown, .slice A72 y70.1.fLooks.length c73], cellsR b79 36 [.int .i64 y77.1.fSpan.fLo, .int .i64 y77.1.fSpan.fHi, .int .i64 y77.1.fLow, .int .i64 y77.1.fHigh]] ∧ tm = (upd (upd (upd (upd (upd (upd (upd (upd tm0 3 (.int .i64 p3)) 8 (.bool false)) 9 (.pointer (some ⟨b11, 0, none⟩))) 18 (.slice A65 y63.1.length c66)) 22 (.pointer (some ⟨b79, 0, none⟩))) 127 (.bool (((y63.2 != 0) || (y70.2 != 0)) || (y77.2 != 0)))) 24 (.bool s.1)) 25 (.int .i64 s.2))) (fun s e L tm => e = .exit 0 ∧ ∃ (tm0 : Nat → Value), L = [cellsR b1 24 [.int .i64 p0.fRise, .int .i64 p0.fFall, .int .i64 p0.fUp, .int .i64 p0.fDown, .slice A0_4 p0.fLooks.length c0_4], cellsR b2 34 [.int .i64 p1.fID, .int .i64 p1.fAt.fFoot, .int .i64 p1.fAt.fHour, .int .i64 p1.fHeat.fLo, .int .i64 p1.fHeat.fHi], cellsR b3 26 [.int .i64 p2.fFoot, .int .i64 p2.fHour], cellsR b11 36 [.int .i64 y9.1.fSpan.fLo, .int .i64 y9.1.fSpan.fHi, .int .i64 y9.1.fLow, .int .i64 y9.1.fHigh], cellsR b17 36 [.int .i64 y15.1.fSpan.fLo, .int .i64 y15.1.fSpan.fHi, .int .i64 y15.1.fLow, .int .i64 y15.1.fHigh], cellsR b22 36 [.int .i64 y20.1.fSpan.fLo, .int .i64 y20.1.fSpan.fHi, .int .i64 y20.1.fLow, .int .i64 y20.1.fHigh], rowR A65 c66 3 1 y63.1.length (encL cI y63.1), rowR (some ⟨b69, 0, none⟩) 1 3 1 1 (encL cI [p3]), rowR A72 c73 34 5 y70.1.fLooks.length (encL TLook_cells y70.1.fLooks), cellsR b76 24 [.int .i64 y70.1.fRise, .int .i64 y70.1.fFall, .int .i64 y70.1.fUp, .int .i64 y70.1.fDown, .slice A72 y70.1.fLooks.length c73], cellsR b79 36 [.int .i64 y77.1.fSpan.fLo, .int .i64 y77.1.fSpan.fHi, .int .i64 y77.1.fLow, .int .i64 y77.1.fHigh]] ∧ tm = (upd (upd (upd (upd (upd (upd (upd (upd tm0 3 (.int .i64 p3)) 8 (.bool false)) 9 (.pointer (some ⟨b11, 0, none⟩))) 18 (.slice A65 y63.1.length c66)) 22 (.pointer (some ⟨b79, 0, none⟩))) 127 (.bool (((y63.2 != 0) || (y70.2 != 0)) || (y77.2 != 0)))) 24 (.bool s.1)) 25 (.int .i64 s.2))) hl91 ⟨_, rfl, (keep (keep (keep (keep (keep (keep (keep (keep rfl rfl) rfl) rfl) rfl) rfl) rfl) rfl) rfl)⟩ ?_ ?_
                  · rintro s84 L tm st ⟨tm0_s84, rfl, rfl⟩ h
                    unfold calxlaw02_FireMore_l2 at h
                    refine cx_seq ?_
                    refine cx_seq ?_
                    refine cx_region ?_
                    refine ox_y rfl (y_move_int rfl) ?_
                    refine ox_y rfl (y_move_slice rfl) ?_
                    refine ox_y rfl (y_len (us := []) us_41 rfl) ?_
                    refine ox_y rfl (y_lss rfl rfl) ?_
                    refine ox_nil ?_
                    refine ex_then ?_
                    rcases ite_some h with ⟨hp86, h⟩ | ⟨hp86, h⟩
                    · refine cx_true (congrArg Value.bool hp86) ?_
                      refine cx_skip ?_
                      refine ex_then ?_
                      refine cx_seq ?_
                      refine cx_block ?_
                      refine cx_region ?_
                      refine ox_y rfl (y_move_bool rfl) ?_
                      refine ox_y rfl (y_move_bool rfl) ?_
                      obtain ⟨b88, hb89, h⟩ := bind_some h
                      refine ox_join 7 (fun tm0 => (upd (upd (upd (upd (upd (upd (upd (upd (upd (upd tm0 3 (.int .i64 p3)) 8 (.bool false)) 9 (.pointer (some ⟨b11, 0, none⟩))) 18 (.slice A65 y63.1.length c66)) 22 (.pointer (some ⟨b79, 0, none⟩))) 127 (.bool (((y63.2 != 0) || (y70.2 != 0)) || (y77.2 != 0)))) 24 (.bool s84.1)) 25 (.int .i64 s84.2)) 131 (.bool (decide (s84.2 < ((y63.1.length : Nat) : Int))))) 142 (.bool b88))) (fun tm0 => ?_) (fun key => ?_)
                      · refine ox_y rfl (y_assign_bool rfl) ?_
                        refine ox_nil ?_
                        refine ex_block ?_
                        refine ex_then ?_
                        refine cx_region ?_
                        refine ox_y rfl (y_move_int rfl) ?_
                        refine ox_y rfl (y_add rfl rfl) ?_
                        refine ox_y rfl (y_assign_int rfl) ?_
                        refine ox_nil ?_
                        obtain rfl := Option.some.inj h
                        exact ex_next ⟨_, rfl, (keep (keep (keep (keep (keep (keep (keep (keep rfl rfl) rfl) rfl) rfl) rfl) rfl) rfl) rfl)⟩
                      · clear h; rcases ite_some hb89 with ⟨hp87, h⟩ | ⟨hp87, h⟩
                        · refine ox_skip (sees_f rfl rfl rfl rfl hp87) ?_
                          refine ox_skip (sees_f rfl rfl rfl rfl hp87) ?_
                          refine ox_skip (sees_f rfl rfl rfl rfl hp87) ?_
                          refine ox_skip (sees_f rfl rfl rfl rfl hp87) ?_
                          refine ox_skip (sees_f rfl rfl rfl rfl hp87) ?_
                          refine ox_skip (sees_f rfl rfl rfl rfl hp87) ?_
                          refine ox_y rfl (y_pick_tb (congrArg Value.bool hp87) rfl) ?_
                          obtain rfl := Option.some.inj h
                          exact key _ _ (keep (keep (keep (keep (keep (keep (keep (keep (keep (keep rfl rfl) rfl) rfl) rfl) rfl) rfl) rfl) rfl) rfl) rfl)
                        · refine ox_y (sees_t rfl rfl rfl rfl hp87) (y_move_slice rfl) ?_
                          refine ox_y (sees_t rfl rfl rfl rfl hp87) (y_move_int rfl) ?_
                          obtain ⟨hg90, h⟩ := guardO_some h
                          refine ox_y (sees_t rfl rfl rfl rfl hp87) (y_indexR sl_41 (by decide) hg90.1 hg90.2 (RdL.row 6 rfl) (encL_len cI_len rfl) rfl rfl) ?_
                          refine ox_y (sees_t rfl rfl rfl rfl hp87) (y_loadR1 (A := A65) (j := (Int.toNat s84.2 * 1)) (v := .int .i64 (rdL y63.1 s84.2)) sc_3 (RdL.row 6 rfl) rfl (encL_get0 cI_len hg90.1 (lt_nat hg90.2 rfl) rfl)) ?_
                          refine ox_y (sees_t rfl rfl rfl rfl hp87) (y_move_int rfl) ?_
                          refine ox_y (sees_t rfl rfl rfl rfl hp87) (y_eql rfl rfl) ?_
                          refine ox_y rfl (y_pick_fb (congrArg Value.bool hp87) rfl) ?_
                          obtain rfl := Option.some.inj h
                          exact key _ _ (keep (keep (keep (keep (keep (keep (keep (keep (keep (keep rfl rfl) rfl) rfl) rfl) rfl) rfl) rfl) rfl) rfl) rfl)
                    · refine cx_false (congrArg Value.bool hp86) ?_
                      refine cx_exit ?_
                      refine ex_then_exit ?_
                      obtain rfl := Option.some.inj h
                      exact ex_stop ⟨rfl, _, rfl, (keep (keep (keep (keep (keep (keep (keep (keep rfl rfl) rfl) rfl) rfl) rfl) rfl) rfl) rfl)⟩
                  · intro e L tm hJ
                    obtain ⟨rfl, tm0_u85, rfl, rfl⟩ := hJ
                    refine ⟨(by intro hc; cases hc), ?_⟩
                    refine ex_block_here ?_
                    refine ex_then ?_
                    refine cx_seq ?_
                    refine cx_region ?_
                    obtain ⟨y92, hy93, h⟩ := bind_some h
                    refine ox_y rfl (y_call [] go_13 rfl (fun W2 hW2 => calxlaw02_sanity_ok  y92 hy93 W2 ) rfl) ?_
                    refine ox_y rfl (y_move_bool rfl) ?_
                    refine ox_join 8 (fun tm0 => (upd (upd tm0 8 (.bool false)) 152 (.bool (y92 && (u85.1 == (!((y77.1.fSpan.fLo == y9.1.fSpan.fLo) && (y77.1.fSpan.fHi == y9.1.fSpan.fHi)))))))) (fun tm0 => ?_) (fun key => ?_)
                    · refine ox_y rfl (y_assign_bool rfl) ?_
                      refine ox_nil ?_
                      refine ex_then ?_
                      refine cx_ret ?_
                      obtain rfl := Option.some.inj h
                      exact ex_res1 (.inl rfl) rfl (resV_tmp (v := .bool (y92 && (u85.1 == (!((y77.1.fSpan.fLo == y9.1.fSpan.fLo) && (y77.1.fSpan.fHi == y9.1.fSpan.fHi)))))) rfl) (fun W2 hW2 => ⟨rfl, hW2.none⟩)
                    · rcases bool_cases y92 with hp94 | hp94
                      · refine ox_y (sees_t rfl rfl rfl rfl hp94) (y_move_bool rfl) ?_
                        refine ox_y (sees_t rfl rfl rfl rfl hp94) (y_fieldAddr fo_36_0 rfl) ?_
                        refine ox_y (sees_t rfl rfl rfl rfl hp94) (y_loadN 10 [.int .i64 y77.1.fSpan.fLo, .int .i64 y77.1.fSpan.fHi] ag_32 rfl rfl rfl) ?_
                        refine ox_y (sees_t rfl rfl rfl rfl hp94) (y_fieldAddr fo_36_0 rfl) ?_
                        refine ox_y (sees_t rfl rfl rfl rfl hp94) (y_loadN 3 [.int .i64 y9.1.fSpan.fLo, .int .i64 y9.1.fSpan.fHi] ag_32 rfl rfl rfl) ?_
                        refine ox_y (sees_t rfl rfl rfl rfl hp94) (y_neqa (b := ((y77.1.fSpan.fLo == y9.1.fSpan.fLo) && (y77.1.fSpan.fHi == y9.1.fSpan.fHi))) eg_32 rfl rfl (fun _ => (eqS2 fl_32 (part1 sc_3 rfl) (part1 sc_3 rfl) (part1 sc_3 rfl) (part1 sc_3 rfl) (run_equalIn_int _ _ _ _ _ _ _ ui_3) (run_equalIn_int _ _ _ _ _ _ _ ui_3)))) ?_
                        refine ox_y (sees_t rfl rfl rfl rfl hp94) (y_eqlb ub_4 rfl rfl) ?_
                        refine ox_y rfl (y_pick_tb (congrArg Value.bool hp94) rfl) ?_
                        exact key _ _ (keep (keep rfl rfl) (congrArg Value.bool (and_t hp94)))
                      · refine ox_skip (sees_f rfl rfl rfl rfl hp94) ?_
                        refine ox_skip (sees_f rfl rfl rfl rfl hp94) ?_
                        refine ox_skip (sees_f rfl rfl rfl rfl hp94) ?_
                        refine ox_skip (sees_f rfl rfl rfl rfl hp94) ?_
                        refine ox_skip (sees_f rfl rfl rfl rfl hp94) ?_
                        refine ox_skip (sees_f rfl rfl rfl rfl hp94) ?_
                        refine ox_skip (sees_f rfl rfl rfl rfl hp94) ?_
                        refine ox_y rfl (y_pick_fb (congrArg Value.bool hp94) rfl) ?_
                        exact key _ _ (keep (keep rfl rfl) (congrArg Value.bool (and_f hp94)))
              · rcases bool_cases ((y63.2 != 0) || (y70.2 != 0)) with hp81 | hp81
                · refine ox_skip (sees_f rfl rfl rfl rfl hp81) ?_
                  refine ox_skip (sees_f rfl rfl rfl rfl hp81) ?_
                  refine ox_y rfl (y_pick_tb (congrArg Value.bool hp81) rfl) ?_
                  exact key _ _ (keep (keep (keep (keep (keep (keep rfl rfl) rfl) rfl) rfl) rfl) (congrArg Value.bool (or_t hp81)))
                · refine ox_y (sees_t rfl rfl rfl rfl hp81) (y_move_int rfl) ?_
                  refine ox_y (sees_t rfl rfl rfl rfl hp81) (y_neq rfl rfl) ?_
                  refine ox_y rfl (y_pick_fb (congrArg Value.bool hp81) rfl) ?_
                  exact key _ _ (keep (keep (keep (keep (keep (keep rfl rfl) rfl) rfl) rfl) rfl) (congrArg Value.bool (or_f hp81)))
            · rcases bool_cases (y63.2 != 0) with hp80 | hp80
              · refine ox_skip (sees_f rfl rfl rfl rfl hp80) ?_
                refine ox_skip (sees_f rfl rfl rfl rfl hp80) ?_
                refine ox_y rfl (y_pick_tb (congrArg Value.bool hp80) rfl) ?_
                exact key _ _ (keep (keep (keep (keep (keep (keep (keep rfl rfl) rfl) rfl) rfl) rfl) rfl) (congrArg Value.bool (or_t hp80)))
              · refine ox_y (sees_t rfl rfl rfl rfl hp80) (y_move_int rfl) ?_
                refine ox_y (sees_t rfl rfl rfl rfl hp80) (y_neq rfl rfl) ?_
                refine ox_y rfl (y_pick_fb (congrArg Value.bool hp80) rfl) ?_
                exact key _ _ (keep (keep (keep (keep (keep (keep (keep rfl rfl) rfl) rfl) rfl) rfl) rfl) (congrArg Value.bool (or_f hp80)))
      · rcases bool_cases (y15.2 == 0) with hp18 | hp18
        · refine ox_y (sees_t rfl rfl rfl rfl hp18) (y_fieldAddr fo_36_0 rfl) ?_
          refine ox_y (sees_t rfl rfl rfl rfl hp18) (y_fieldAddr fo_32_0 rfl) ?_
          refine ox_y (sees_t rfl rfl rfl rfl hp18) (y_load1 4 (v := .int .i64 y15.1.fSpan.fLo) sc_3 rfl rfl rfl) ?_
          refine ox_y (sees_t rfl rfl rfl rfl hp18) (y_fieldAddr fo_36_0 rfl) ?_
          refine ox_y (sees_t rfl rfl rfl rfl hp18) (y_fieldAddr fo_32_0 rfl) ?_
          refine ox_y (sees_t rfl rfl rfl rfl hp18) (y_load1 3 (v := .int .i64 y9.1.fSpan.fLo) sc_3 rfl rfl rfl) ?_
          refine ox_y (sees_t rfl rfl rfl rfl hp18) (y_lss rfl rfl) ?_
          refine ox_y (sees_t rfl rfl rfl rfl hp18) (y_move_bool rfl) ?_
          refine ox_join 8 (fun tm0 => (upd (upd (upd (upd (upd (upd (upd (upd tm0 3 (.int .i64 p3)) 4 (.pointer (some ⟨b1, 0, none⟩))) 5 (.pointer (some ⟨b2, 0, none⟩))) 6 (.pointer (some ⟨b3, 0, none⟩))) 8 (.bool false)) 9 (.pointer (some ⟨b11, 0, none⟩))) 48 (.bool (y15.2 == 0))) 64 (.bool ((decide (y15.1.fSpan.fLo < y9.1.fSpan.fLo)) || (decide (y9.1.fSpan.fHi < y15.1.fSpan.fHi)))))) (fun tm0 => ?_) (fun key => ?_)
          · refine ox_y rfl (y_pick_tb (congrArg Value.bool hp18) rfl) ?_
            exact key _ _ (keep (keep (keep (keep (keep (keep (keep rfl rfl) rfl) rfl) rfl) rfl) rfl) (congrArg Value.bool (and_t hp18)))
          · rcases bool_cases (decide (y15.1.fSpan.fLo < y9.1.fSpan.fLo)) with hp95 | hp95
            · refine ox_skip (sees_f rfl rfl rfl rfl hp95) ?_
              refine ox_skip (sees_f rfl rfl rfl rfl hp95) ?_
              refine ox_skip (sees_f rfl rfl rfl rfl hp95) ?_
              refine ox_skip (sees_f rfl rfl rfl rfl hp95) ?_
              refine ox_skip (sees_f rfl rfl rfl rfl hp95) ?_
              refine ox_skip (sees_f rfl rfl rfl rfl hp95) ?_
              refine ox_skip (sees_f rfl rfl rfl rfl hp95) ?_
              refine ox_y (sees_t rfl rfl rfl rfl hp18) (y_pick_tb (congrArg Value.bool hp95) rfl) ?_
              exact key _ _ (keep (keep (keep (keep (keep (keep (keep (keep rfl rfl) rfl) rfl) rfl) rfl) rfl) rfl) (congrArg Value.bool (or_t hp95)))
            · refine ox_y (sees_t rfl rfl rfl rfl hp95) (y_fieldAddr fo_36_0 rfl) ?_
              refine ox_y (sees_t rfl rfl rfl rfl hp95) (y_fieldAddr fo_32_1 rfl) ?_
              refine ox_y (sees_t rfl rfl rfl rfl hp95) (y_load1 4 (v := .int .i64 y15.1.fSpan.fHi) sc_3 rfl rfl rfl) ?_
              refine ox_y (sees_t rfl rfl rfl rfl hp95) (y_fieldAddr fo_36_0 rfl) ?_
              refine ox_y (sees_t rfl rfl rfl rfl hp95) (y_fieldAddr fo_32_1 rfl) ?_
              refine ox_y (sees_t rfl rfl rfl rfl hp95) (y_load1 3 (v := .int .i64 y9.1.fSpan.fHi) sc_3 rfl rfl rfl) ?_
              refine ox_y (sees_t rfl rfl rfl rfl hp95) (y_gtr rfl rfl) ?_
              refine ox_y (sees_t rfl rfl rfl rfl hp18) (y_pick_fb (congrArg Value.bool hp95) rfl) ?_
              exact key _ _ (keep (keep (keep (keep (keep (keep (keep (keep rfl rfl) rfl) rfl) rfl) rfl) rfl) rfl) (congrArg Value.bool (or_f hp95)))
        · refine ox_skip (sees_f rfl rfl rfl rfl hp18) ?_
          refine ox_skip (sees_f rfl rfl rfl rfl hp18) ?_
          refine ox_skip (sees_f rfl rfl rfl rfl hp18) ?_
          refine ox_skip (sees_f rfl rfl rfl rfl hp18) ?_
          refine ox_skip (sees_f rfl rfl rfl rfl hp18) ?_
          refine ox_skip (sees_f rfl rfl rfl rfl hp18) ?_
          refine ox_skip (sees_f rfl rfl rfl rfl hp18) ?_
          refine ox_skip (sees_f rfl rfl rfl rfl hp18) ?_
          refine ox_skip rfl ?_
          refine ox_skip rfl ?_
          refine ox_skip rfl ?_
          refine ox_skip rfl ?_
          refine ox_skip rfl ?_
          refine ox_skip rfl ?_
          refine ox_skip rfl ?_
          refine ox_skip (sees_f rfl rfl rfl rfl hp18) ?_
          refine ox_y rfl (y_pick_fb (congrArg Value.bool hp18) rfl) ?_
          exact key _ _ (keep (keep (keep (keep (keep (keep (keep rfl rfl) rfl) rfl) rfl) rfl) rfl) (congrArg Value.bool (and_f hp18)))

end Go.Proofs.Ytndajeiecdmhnaa
