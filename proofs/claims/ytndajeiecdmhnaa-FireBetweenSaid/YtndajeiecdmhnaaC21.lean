/- The calls hand back what the plain functions say. -/
import Derived.Test.YtndajeiecdmhnaaF
import Derived.Test.YtndajeiecdmhnaaGy
import Derived.Test.YtndajeiecdmhnaaC0
import Derived.Test.YtndajeiecdmhnaaC1
import Derived.Test.YtndajeiecdmhnaaC3
import Derived.Test.YtndajeiecdmhnaaC4
import Derived.Test.YtndajeiecdmhnaaC11
import Derived.Test.YtndajeiecdmhnaaC20
set_option linter.unusedVariables false
set_option maxHeartbeats 4000000
namespace Go.Proofs.Ytndajeiecdmhnaa
open Go.RowKit (Below)
attribute [local irreducible] OX QX CX EX OpY Calls CallsIn

/-! calx/calxlaw02.FireBetween -/
set_option maxRecDepth 100000 in
theorem calxlaw02_FireBetween_ok (p0 : TFire) (p1 : (List TSpot)) (p2 : (List Int)) (res : Bool) (h : calxlaw02_FireBetween p0 p1 p2 = some res) (W : World) (A0_4 : Option Addr) (n0_4 c0_4 : Nat) (hn0_4 : n0_4 = p0.fLooks.length) (hr0_4 : Rd W A0_4 n0_4 c0_4 (encL TLook_cells p0.fLooks)) (A1_0 : Option Addr) (n1_0 c1_0 : Nat) (hn1_0 : n1_0 = p1.length) (hr1_0 : Rd W A1_0 n1_0 c1_0 (encL TSpot_cells p1)) (A2_0 : Option Addr) (n2_0 c2_0 : Nat) (hn2_0 : n2_0 = p2.length) (hr2_0 : Rd W A2_0 n2_0 c2_0 (encL cI p2)) :
    Calls Try.prog 10 [.agg #[.int .i64 p0.fRise, .int .i64 p0.fFall, .int .i64 p0.fUp, .int .i64 p0.fDown, .slice A0_4 n0_4 c0_4], .slice A1_0 n1_0 c1_0, .slice A2_0 n2_0 c2_0].toArray W fun e W2 => e = .returned (.bool res) ∧ Ext W W2 [] := by
  subst hn0_4
  subst hn1_0
  subst hn2_0
  unfold calxlaw02_FireBetween at h
  refine calls_enter (m := 237) Try.func10 rfl rfl (Nat.le_of_ble_eq_true rfl) ?_
  refine cx_seq ?_
  refine cx_region ?_
  refine ox_box [.int .i64 p0.fRise, .int .i64 p0.fFall, .int .i64 p0.fUp, .int .i64 p0.fDown, .slice A0_4 p0.fLooks.length c0_4] rfl rfl rfl (fun b1 => ?_)
  refine ox_y rfl (y_assign_bool rfl) ?_
  refine ox_nil ?_
  refine ex_then ?_
  refine cx_seq ?_
  refine cx_seq ?_
  refine cx_region ?_
  refine ox_y rfl (y_loadN 0 [.int .i64 p0.fRise, .int .i64 p0.fFall, .int .i64 p0.fUp, .int .i64 p0.fDown, .slice A0_4 p0.fLooks.length c0_4] ag_24 rfl rfl rfl) ?_
  obtain ⟨y2, hy3, h⟩ := bind_some h
  refine ox_y rfl (y_call [.agg #[.int .i64 p0.fRise, .int .i64 p0.fFall, .int .i64 p0.fUp, .int .i64 p0.fDown, .slice A0_4 p0.fLooks.length c0_4]] go_11 rfl (fun W2 hW2 => calxlaw02_few_ok p0 y2 hy3 W2 A0_4 p0.fLooks.length c0_4 rfl ((RdL.arg hr0_4) W2 hW2)) rfl) ?_
  refine ox_y rfl (y_not rfl) ?_
  refine ox_y rfl (y_move_bool rfl) ?_
  obtain ⟨b5, hb6, h⟩ := bind_some h
  refine ox_join 4 (fun tm0 => (upd (upd (upd (upd (upd tm0 1 (.slice A1_0 p1.length c1_0)) 2 (.slice A2_0 p2.length c2_0)) 3 (.pointer (some ⟨b1, 0, none⟩))) 6 (.bool false)) 30 (.bool b5))) (fun tm0 => ?_) (fun key => ?_)
  · refine ox_y rfl (y_move_bool rfl) ?_
    refine ox_join 4 (fun tm0 => (upd (upd (upd (upd (upd tm0 1 (.slice A1_0 p1.length c1_0)) 2 (.slice A2_0 p2.length c2_0)) 3 (.pointer (some ⟨b1, 0, none⟩))) 6 (.bool false)) 35 (.bool (b5 || (decide (40 < ((p2.length : Nat) : Int))))))) (fun tm0 => ?_) (fun key => ?_)
    · refine ox_nil ?_
      refine ex_then ?_
      rcases ite_some h with ⟨hp8, h⟩ | ⟨hp8, h⟩
      · refine cx_true (congrArg Value.bool hp8) ?_
        refine cx_seq ?_
        refine cx_region ?_
        obtain ⟨y9, hy10, h⟩ := bind_some h
        refine ox_y rfl (y_call [] go_13 rfl (fun W2 hW2 => calxlaw02_sanity_ok  y9 hy10 W2 ) rfl) ?_
        refine ox_y rfl (y_assign_bool rfl) ?_
        refine ox_nil ?_
        refine ex_then ?_
        refine cx_ret ?_
        refine ex_then_ret ?_
        obtain rfl := Option.some.inj h
        exact ex_res1 (.inl rfl) rfl (resV_tmp (v := .bool y9) rfl) (fun W2 hW2 => ⟨rfl, hW2.none⟩)
      · refine cx_false (congrArg Value.bool hp8) ?_
        refine cx_skip ?_
        refine ex_then ?_
        refine cx_seq ?_
        refine cx_region ?_
        refine ox_y rfl (y_loadN 0 [.int .i64 p0.fRise, .int .i64 p0.fFall, .int .i64 p0.fUp, .int .i64 p0.fDown, .slice A0_4 p0.fLooks.length c0_4] ag_24 rfl rfl rfl) ?_
        refine ox_y rfl (y_move_slice rfl) ?_
        obtain ⟨y11, hy12, h⟩ := bind_some h
        refine ox_call [.agg #[.int .i64 p0.fRise, .int .i64 p0.fFall, .int .i64 p0.fUp, .int .i64 p0.fDown, .slice A0_4 p0.fLooks.length c0_4], .slice A1_0 p1.length c1_0] _ _ _ rfl go_47 rfl (fun W2 hW2 => fire_Coolest_ok p0 p1 y11 hy12 W2 A0_4 p0.fLooks.length c0_4 rfl ((RdL.arg hr0_4) W2 hW2) A1_0 p1.length c1_0 rfl ((RdL.arg hr1_0) W2 hW2)) ?_
        rintro ⟨A13, n15, c14⟩ hn16
        replace hn16 : n15 = y11.1.length := hn16; subst hn16
        refine ox_y rfl (y_move_tuple rfl) ?_
        refine ox_y rfl (y_extract (vs := [.slice A13 y11.1.length c14, .int .i64 y11.2]) (v := .slice A13 y11.1.length c14) rfl rfl) ?_
        refine ox_y rfl (y_extract (vs := [.slice A13 y11.1.length c14, .int .i64 y11.2]) (v := .int .i64 y11.2) rfl rfl) ?_
        refine ox_y rfl (y_assign_slice rfl) ?_
        refine ox_y rfl (y_assign_int rfl) ?_
        refine ox_nil ?_
        refine ex_then ?_
        refine cx_seq ?_
        refine cx_region ?_
        refine ox_y rfl (y_loadN 0 [.int .i64 p0.fRise, .int .i64 p0.fFall, .int .i64 p0.fUp, .int .i64 p0.fDown, .slice A0_4 p0.fLooks.length c0_4] ag_24 rfl rfl rfl) ?_
        refine ox_y rfl (y_move_slice rfl) ?_
        obtain ⟨y17, hy18, h⟩ := bind_some h
        refine ox_call [.agg #[.int .i64 p0.fRise, .int .i64 p0.fFall, .int .i64 p0.fUp, .int .i64 p0.fDown, .slice A0_4 p0.fLooks.length c0_4], .slice A1_0 p1.length c1_0] _ _ _ rfl go_48 rfl (fun W2 hW2 => fire_Hottest_ok p0 p1 y17 hy18 W2 A0_4 p0.fLooks.length c0_4 rfl ((RdL.arg hr0_4) W2 hW2) A1_0 p1.length c1_0 rfl ((RdL.arg hr1_0) W2 hW2)) ?_
        rintro ⟨A19, n21, c20⟩ hn22
        replace hn22 : n21 = y17.1.length := hn22; subst hn22
        refine ox_y rfl (y_move_tuple rfl) ?_
        refine ox_y rfl (y_extract (vs := [.slice A19 y17.1.length c20, .int .i64 y17.2]) (v := .slice A19 y17.1.length c20) rfl rfl) ?_
        refine ox_y rfl (y_extract (vs := [.slice A19 y17.1.length c20, .int .i64 y17.2]) (v := .int .i64 y17.2) rfl rfl) ?_
        refine ox_y rfl (y_assign_slice rfl) ?_
        refine ox_y rfl (y_assign_int rfl) ?_
        refine ox_nil ?_
        refine ex_then ?_
        refine cx_seq ?_
        refine cx_seq ?_
        refine cx_region ?_
        refine ox_y rfl (y_move_int rfl) ?_
        refine ox_y rfl (y_move_int rfl) ?_
        refine ox_y rfl (y_neq rfl rfl) ?_
        refine ox_nil ?_
        refine ex_then ?_
        rcases ite_some h with ⟨hp23, h⟩ | ⟨hp23, h⟩
        · refine cx_true (congrArg Value.bool hp23) ?_
          refine cx_seq ?_
          refine cx_region ?_
          refine ox_y rfl (y_assign_bool rfl) ?_
          refine ox_nil ?_
          refine ex_then ?_
          refine cx_ret ?_
          refine ex_then_ret ?_
          obtain rfl := Option.some.inj h
          exact ex_res1 (.inl rfl) rfl (resV_tmp (v := .bool false) rfl) (fun W2 hW2 => ⟨rfl, hW2.none⟩)
        · refine cx_false (congrArg Value.bool hp23) ?_
          refine cx_skip ?_
          refine ex_then ?_
          refine cx_seq ?_
          refine cx_seq ?_
          refine cx_region ?_
          refine ox_y rfl (y_move_int rfl) ?_
          refine ox_y rfl (y_neq rfl rfl) ?_
          refine ox_nil ?_
          refine ex_then ?_
          rcases ite_some h with ⟨hp24, h⟩ | ⟨hp24, h⟩
          · refine cx_true (congrArg Value.bool hp24) ?_
            refine cx_seq ?_
            refine cx_region ?_
            obtain ⟨y25, hy26, h⟩ := bind_some h
            refine ox_y rfl (y_call [] go_13 rfl (fun W2 hW2 => calxlaw02_sanity_ok  y25 hy26 W2 ) rfl) ?_
            refine ox_y rfl (y_assign_bool rfl) ?_
            refine ox_nil ?_
            refine ex_then ?_
            refine cx_ret ?_
            refine ex_then_ret ?_
            obtain rfl := Option.some.inj h
            exact ex_res1 (.inl rfl) rfl (resV_tmp (v := .bool y25) rfl) (fun W2 hW2 => ⟨rfl, hW2.none⟩)
          · refine cx_false (congrArg Value.bool hp24) ?_
            refine cx_skip ?_
            refine ex_then ?_
            refine cx_seq ?_
            refine cx_region ?_
            refine ox_y rfl (y_loadN 0 [.int .i64 p0.fRise, .int .i64 p0.fFall, .int .i64 p0.fUp, .int .i64 p0.fDown, .slice A0_4 p0.fLooks.length c0_4] ag_24 rfl rfl rfl) ?_
            refine ox_y rfl (y_move_slice rfl) ?_
            refine ox_y rfl (y_move_slice rfl) ?_
            obtain ⟨y27, hy28, h⟩ := bind_some h
            refine ox_y rfl (y_call [.agg #[.int .i64 p0.fRise, .int .i64 p0.fFall, .int .i64 p0.fUp, .int .i64 p0.fDown, .slice A0_4 p0.fLooks.length c0_4], .slice A1_0 p1.length c1_0, .slice A13 y11.1.length c14] go_40 rfl (fun W2 hW2 => fire_Fits_ok p0 p1 y11.1 y27 hy28 W2 A0_4 p0.fLooks.length c0_4 rfl ((RdL.arg hr0_4) W2 hW2) A1_0 p1.length c1_0 rfl ((RdL.arg hr1_0) W2 hW2) A13 y11.1.length c14 rfl ((RdL.row 1 rfl) W2 hW2)) rfl) ?_
            refine ox_y rfl (y_move_tuple rfl) ?_
            refine ox_y rfl (y_extract (vs := [.bool y27.1, .int .i64 y27.2]) (v := .bool y27.1) rfl rfl) ?_
            refine ox_y rfl (y_extract (vs := [.bool y27.1, .int .i64 y27.2]) (v := .int .i64 y27.2) rfl rfl) ?_
            refine ox_y rfl (y_assign_bool rfl) ?_
            refine ox_y rfl (y_assign_int rfl) ?_
            refine ox_nil ?_
            refine ex_then ?_
            refine cx_seq ?_
            refine cx_region ?_
            refine ox_y rfl (y_loadN 0 [.int .i64 p0.fRise, .int .i64 p0.fFall, .int .i64 p0.fUp, .int .i64 p0.fDown, .slice A0_4 p0.fLooks.length c0_4] ag_24 rfl rfl rfl) ?_
            refine ox_y rfl (y_move_slice rfl) ?_
            refine ox_y rfl (y_move_slice rfl) ?_
            obtain ⟨y29, hy30, h⟩ := bind_some h
            refine ox_y rfl (y_call [.agg #[.int .i64 p0.fRise, .int .i64 p0.fFall, .int .i64 p0.fUp, .int .i64 p0.fDown, .slice A0_4 p0.fLooks.length c0_4], .slice A1_0 p1.length c1_0, .slice A19 y17.1.length c20] go_40 rfl (fun W2 hW2 => fire_Fits_ok p0 p1 y17.1 y29 hy30 W2 A0_4 p0.fLooks.length c0_4 rfl ((RdL.arg hr0_4) W2 hW2) A1_0 p1.length c1_0 rfl ((RdL.arg hr1_0) W2 hW2) A19 y17.1.length c20 rfl ((RdL.row 2 rfl) W2 hW2)) rfl) ?_
            refine ox_y rfl (y_move_tuple rfl) ?_
            refine ox_y rfl (y_extract (vs := [.bool y29.1, .int .i64 y29.2]) (v := .bool y29.1) rfl rfl) ?_
            refine ox_y rfl (y_extract (vs := [.bool y29.1, .int .i64 y29.2]) (v := .int .i64 y29.2) rfl rfl) ?_
            refine ox_y rfl (y_assign_bool rfl) ?_
            refine ox_y rfl (y_assign_int rfl) ?_
            refine ox_nil ?_
            refine ex_then ?_
            refine cx_seq ?_
            refine cx_region ?_
            refine ox_y rfl (y_loadN 0 [.int .i64 p0.fRise, .int .i64 p0.fFall, .int .i64 p0.fUp, .int .i64 p0.fDown, .slice A0_4 p0.fLooks.length c0_4] ag_24 rfl rfl rfl) ?_
            refine ox_y rfl (y_move_slice rfl) ?_
            refine ox_y rfl (y_move_slice rfl) ?_
            obtain ⟨y31, hy32, h⟩ := bind_some h
            refine ox_y rfl (y_call [.agg #[.int .i64 p0.fRise, .int .i64 p0.fFall, .int .i64 p0.fUp, .int .i64 p0.fDown, .slice A0_4 p0.fLooks.length c0_4], .slice A1_0 p1.length c1_0, .slice A2_0 p2.length c2_0] go_40 rfl (fun W2 hW2 => fire_Fits_ok p0 p1 p2 y31 hy32 W2 A0_4 p0.fLooks.length c0_4 rfl ((RdL.arg hr0_4) W2 hW2) A1_0 p1.length c1_0 rfl ((RdL.arg hr1_0) W2 hW2) A2_0 p2.length c2_0 rfl ((RdL.arg hr2_0) W2 hW2)) rfl) ?_
            refine ox_y rfl (y_move_tuple rfl) ?_
            refine ox_y rfl (y_extract (vs := [.bool y31.1, .int .i64 y31.2]) (v := .bool y31.1) rfl rfl) ?_
            refine ox_y rfl (y_extract (vs := [.bool y31.1, .int .i64 y31.2]) (v := .int .i64 y31.2) rfl rfl) ?_
            refine ox_y rfl (y_assign_bool rfl) ?_
            refine ox_y rfl (y_assign_int rfl) ?_
            refine ox_nil ?_
            refine ex_then ?_
            refine cx_seq ?_
            refine cx_seq ?_
            refine cx_region ?_
            refine ox_y rfl (y_move_slice rfl) ?_
            refine ox_y rfl (y_len (us := []) us_41 rfl) ?_
            refine ox_y rfl (y_move_slice rfl) ?_
            refine ox_y rfl (y_len (us := []) us_46 rfl) ?_
            refine ox_y rfl (y_neq rfl rfl) ?_
            refine ox_y rfl (y_move_bool rfl) ?_
            refine ox_join 6 (fun tm0 => (upd (upd (upd (upd (upd (upd (upd (upd (upd (upd (upd (upd (upd tm0 1 (.slice A1_0 p1.length c1_0)) 2 (.slice A2_0 p2.length c2_0)) 3 (.pointer (some ⟨b1, 0, none⟩))) 6 (.bool false)) 7 (.slice A13 y11.1.length c14)) 9 (.slice A19 y17.1.length c20)) 11 (.bool y27.1)) 12 (.int .i64 y27.2)) 13 (.bool y29.1)) 14 (.int .i64 y29.2)) 15 (.bool y31.1)) 16 (.int .i64 y31.2)) 87 (.bool ((((y11.1.length : Nat) : Int) != ((p1.length : Nat) : Int)) || (((y17.1.length : Nat) : Int) != ((p1.length : Nat) : Int)))))) (fun tm0 => ?_) (fun key => ?_)
            · refine ox_y rfl (y_move_bool rfl) ?_
              refine ox_join 3 (fun tm0 => (upd (upd (upd (upd (upd (upd (upd (upd (upd (upd (upd (upd tm0 1 (.slice A1_0 p1.length c1_0)) 2 (.slice A2_0 p2.length c2_0)) 3 (.pointer (some ⟨b1, 0, none⟩))) 6 (.bool false)) 7 (.slice A13 y11.1.length c14)) 9 (.slice A19 y17.1.length c20)) 11 (.bool y27.1)) 13 (.bool y29.1)) 14 (.int .i64 y29.2)) 15 (.bool y31.1)) 16 (.int .i64 y31.2)) 91 (.bool (((((y11.1.length : Nat) : Int) != ((p1.length : Nat) : Int)) || (((y17.1.length : Nat) : Int) != ((p1.length : Nat) : Int))) || (y27.2 != 0))))) (fun tm0 => ?_) (fun key => ?_)
              · refine ox_y rfl (y_move_bool rfl) ?_
                refine ox_join 3 (fun tm0 => (upd (upd (upd (upd (upd (upd (upd (upd (upd (upd (upd tm0 1 (.slice A1_0 p1.length c1_0)) 2 (.slice A2_0 p2.length c2_0)) 3 (.pointer (some ⟨b1, 0, none⟩))) 6 (.bool false)) 7 (.slice A13 y11.1.length c14)) 9 (.slice A19 y17.1.length c20)) 11 (.bool y27.1)) 13 (.bool y29.1)) 15 (.bool y31.1)) 16 (.int .i64 y31.2)) 95 (.bool ((((((y11.1.length : Nat) : Int) != ((p1.length : Nat) : Int)) || (((y17.1.length : Nat) : Int) != ((p1.length : Nat) : Int))) || (y27.2 != 0)) || (y29.2 != 0))))) (fun tm0 => ?_) (fun key => ?_)
                · refine ox_y rfl (y_move_bool rfl) ?_
                  refine ox_join 3 (fun tm0 => (upd (upd (upd (upd (upd (upd (upd (upd (upd (upd tm0 1 (.slice A1_0 p1.length c1_0)) 2 (.slice A2_0 p2.length c2_0)) 3 (.pointer (some ⟨b1, 0, none⟩))) 6 (.bool false)) 7 (.slice A13 y11.1.length c14)) 9 (.slice A19 y17.1.length c20)) 13 (.bool y29.1)) 15 (.bool y31.1)) 16 (.int .i64 y31.2)) 99 (.bool (((((((y11.1.length : Nat) : Int) != ((p1.length : Nat) : Int)) || (((y17.1.length : Nat) : Int) != ((p1.length : Nat) : Int))) || (y27.2 != 0)) || (y29.2 != 0)) || (!y27.1))))) (fun tm0 => ?_) (fun key => ?_)
                  · refine ox_y rfl (y_move_bool rfl) ?_
                    refine ox_join 3 (fun tm0 => (upd (upd (upd (upd (upd (upd (upd (upd (upd tm0 1 (.slice A1_0 p1.length c1_0)) 2 (.slice A2_0 p2.length c2_0)) 3 (.pointer (some ⟨b1, 0, none⟩))) 6 (.bool false)) 7 (.slice A13 y11.1.length c14)) 9 (.slice A19 y17.1.length c20)) 15 (.bool y31.1)) 16 (.int .i64 y31.2)) 103 (.bool ((((((((y11.1.length : Nat) : Int) != ((p1.length : Nat) : Int)) || (((y17.1.length : Nat) : Int) != ((p1.length : Nat) : Int))) || (y27.2 != 0)) || (y29.2 != 0)) || (!y27.1)) || (!y29.1))))) (fun tm0 => ?_) (fun key => ?_)
                    · refine ox_nil ?_
                      refine ex_then ?_
                      rcases ite_some h with ⟨hp38, h⟩ | ⟨hp38, h⟩
                      · refine cx_true (congrArg Value.bool hp38) ?_
                        refine cx_seq ?_
                        refine cx_region ?_
                        refine ox_y rfl (y_assign_bool rfl) ?_
                        refine ox_nil ?_
                        refine ex_then ?_
                        refine cx_ret ?_
                        refine ex_then_ret ?_
                        obtain rfl := Option.some.inj h
                        exact ex_res1 (.inl rfl) rfl (resV_tmp (v := .bool false) rfl) (fun W2 hW2 => ⟨rfl, hW2.none⟩)
                      · refine cx_false (congrArg Value.bool hp38) ?_
                        refine cx_skip ?_
                        refine ex_then ?_
                        refine cx_seq ?_
                        refine cx_seq ?_
                        refine cx_region ?_
                        refine ox_y rfl (y_assign_int rfl) ?_
                        refine ox_nil ?_
                        refine ex_then ?_
                        refine cx_block ?_
                        obtain ⟨u41, hl102, h⟩ := bind_some h
                        refine cx_loop (fun (s : (Bool × Int)) L tm => ∃ (tm0 : Nat → Value), L = [cellsR b1 24 [.int .i64 p0.fRise, .int .i64 p0.fFall, .int .i64 p0.fUp, .int .i64 p0.fDown, .slice A0_4 p0.fLooks.length c0_4], rowR A13 c14 3 1 y11.1.length (encL cI y11.1), rowR A19 c20 3 1 y17.1.length (encL cI y17.1)] ∧ tm = (upd (upd (upd (upd (upd (upd (upd (upd (upd (upd tm0 1 (.slice A1_0 p1.length c1_0)) 2 (.slice A2_0 p2.length c2_0)) 3 (.pointer (some ⟨b1, 0, none⟩))) 6 (.bool s.1)) 7 (.slice A13 y11.1.length c14)) 9 (.slice A19 y17.1.length c20)) 15 (.bool y31.1)) 16 (.int .i64 y31.2)) 103 (.bool ((((((((y11.1.length : Nat) : Int) != ((p1.length : Nat) : Int)) || (((y17.1.length : Nat) : Int) != ((p1.length : Nat) : Int))) || (y27.2 != 0)) || (y29.2 != 0)) || (!y27.1)) || (!y29.1)))) 17 (.int .i64 s.2))) (fun | (.inl s), e, L, tm => e = .ret ∧ ∃ (tm0 : Nat → Value), L = [cellsR b1 24 [.int .i64 p0.fRise, .int .i64 p0.fFall, .int .i64 p0.fUp, .int .i64 p0.fDown, .slice A0_4 p0.fLooks.length c0_4], rowR A13 c14 3 1 y11.1.length (encL cI y11.1), rowR A19 c20 3 1 y17.1.length (encL cI y17.1)] ∧ tm = (upd (upd (upd (upd (upd (upd (upd (upd (upd (upd tm0 1 (.slice A1_0 p1.length c1_0)) 2 (.slice A2_0 p2.length c2_0)) 3 (.pointer (some ⟨b1, 0, none⟩))) 6 (.bool s.1)) 7 (.slice A13 y11.1.length c14)) 9 (.slice A19 y17.1.length c20)) 15 (.bool y31.1)) 16 (.int .i64 y31.2)) 103 (.bool ((((((((y11.1.length : Nat) : Int) != ((p1.length : Nat) : Int)) || (((y17.1.length : Nat) : Int) != ((p1.length : Nat) : Int))) || (y27.2 != 0)) || (y29.2 != 0)) || (!y27.1)) || (!y29.1)))) 17 (.int .i64 s.2)) | (.inr s), e, L, tm => e = .exit 0 ∧ ∃ (tm0 : Nat → Value), L = [cellsR b1 24 [.int .i64 p0.fRise, .int .i64 p0.fFall, .int .i64 p0.fUp, .int .i64 p0.fDown, .slice A0_4 p0.fLooks.length c0_4], rowR A13 c14 3 1 y11.1.length (encL cI y11.1), rowR A19 c20 3 1 y17.1.length (encL cI y17.1)] ∧ tm = (upd (upd (upd (upd (upd (upd (upd (upd (upd (upd tm0 1 (.slice A1_0 p1.length c1_0)) 2 (.slice A2_0 p2.length c2_0)) 3 (.pointer (some ⟨b1, 0, none⟩))) 6 (.bool s.1)) 7 (.slice A13 y11.1.length c14)) 9 (.slice A19 y17.1.length c20)) 15 (.bool y31.1)) 16 (.int .i64 y31.2)) 103 (.bool ((((((((y11.1.length : Nat) : Int) != ((p1.length : Nat) : Int)) || (((y17.1.length : Nat) : Int) != ((p1.length : Nat) : Int))) || (y27.2 != 0)) || (y29.2 != 0)) || (!y27.1)) || (!y29.1)))) 17 (.int .i64 s.2))) hl102 ⟨_, rfl, (keep (keep (keep (keep (keep (keep (keep (keep (keep (keep rfl rfl) rfl) rfl) rfl) rfl) rfl) rfl) rfl) rfl) rfl)⟩ ?_ ?_
                        · rintro s40 L tm st ⟨tm0_s40, rfl, rfl⟩ h
                          unfold calxlaw02_FireBetween_l1 at h
                          refine cx_seq ?_
                          refine cx_seq ?_
                          refine cx_region ?_
                          refine ox_y rfl (y_move_int rfl) ?_
                          refine ox_y rfl (y_move_slice rfl) ?_
                          refine ox_y rfl (y_len (us := []) us_46 rfl) ?_
                          refine ox_y rfl (y_lss rfl rfl) ?_
                          refine ox_nil ?_
                          refine ex_then ?_
                          rcases ite_some h with ⟨hp42, h⟩ | ⟨hp42, h⟩
                          · refine cx_true (congrArg Value.bool hp42) ?_
                            refine cx_skip ?_
                            refine ex_then ?_
                            refine cx_seq ?_
                            refine cx_block ?_
                            refine cx_seq ?_
                            obtain ⟨hg44, h⟩ := guardO_some h
                            obtain ⟨y45, hy46, h⟩ := bind_some h
                            refine cx_drawsG [[], [], [], [1, 2], [1, 2, 3], [0, 1, 2, 3, 4], [0, 1, 2, 3, 4, 5], [0, 1, 2, 3, 4, 5, 6], [0, 1, 2, 3, 4, 5, 6], [], [0, 1, 2, 3, 4, 5, 6, 7, 9], [0, 1, 2, 3, 4, 5, 6, 7, 8, 9, 10]] [(none, 0, [true, true, true]), (none, 0, [true, true, true]), (none, 0, [true, true, true]), (none, 0, [true, true, true]), (none, 0, [true, true, true]), (none, 0, [true, true, true]), (none, 0, [true, true, true]), (none, 0, [true, true, true]), (none, 0, [true, true, true]), (none, 1, [true, true, true]), (some 3, 0, [true, true, true, true]), (none, 0, [true, true, true, true])] [⟨fun _ => .agg #[.int .i64 p0.fRise, .int .i64 p0.fFall, .int .i64 p0.fUp, .int .i64 p0.fDown, .slice A0_4 p0.fLooks.length c0_4], fun _ => noR, fun _ => []⟩, ⟨fun _ => .slice A1_0 p1.length c1_0, fun _ => noR, fun _ => []⟩, ⟨fun _ => .int .i64 s40.2, fun _ => noR, fun _ => []⟩, ⟨fun _ => slA A1_0 (Int.toNat s40.2 * 2), fun _ => noR, fun _ => []⟩, ⟨fun _ => .agg #[.int .i64 ((rdL p1 s40.2).fFoot), .int .i64 ((rdL p1 s40.2).fHour)], fun _ => noR, fun _ => []⟩, ⟨fun _ => .tuple #[.agg #[.int .i64 y45.1.fSpan.fLo, .int .i64 y45.1.fSpan.fHi, .int .i64 y45.1.fLow, .int .i64 y45.1.fHigh], .int .i64 y45.2], fun _ => noR, fun _ => []⟩, ⟨fun _ => .tuple #[.agg #[.int .i64 y45.1.fSpan.fLo, .int .i64 y45.1.fSpan.fHi, .int .i64 y45.1.fLow, .int .i64 y45.1.fHigh], .int .i64 y45.2], fun _ => noR, fun _ => []⟩, ⟨fun _ => .agg #[.int .i64 y45.1.fSpan.fLo, .int .i64 y45.1.fSpan.fHi, .int .i64 y45.1.fLow, .int .i64 y45.1.fHigh], fun _ => noR, fun _ => []⟩, ⟨fun _ => .int .i64 y45.2, fun _ => noR, fun _ => []⟩, ⟨fun ξ43 => .pointer (some ⟨(ξ43 9 0).2.1, 0, none⟩), fun _ => noR, fun ξ43 => [cellsR (ξ43 9 0).2.1 36 [.int .i64 0, .int .i64 0, .int .i64 0, .int .i64 0]]⟩, ⟨fun _ => undef, fun ξ43 => cellsR (ξ43 9 0).2.1 36 [.int .i64 y45.1.fSpan.fLo, .int .i64 y45.1.fSpan.fHi, .int .i64 y45.1.fLow, .int .i64 y45.1.fHigh], fun _ => []⟩, ⟨fun _ => .int .i64 y45.2, fun _ => noR, fun _ => []⟩] 3 mixed (by kernel_rfl) (by kernel_rfl) ⟨⟨fun ξ43 ξ43' h => ⟨rfl, rfl, rfl⟩, fun _ => rfl⟩, ⟨fun ξ43 ξ43' h => ⟨rfl, rfl, rfl⟩, fun _ => rfl⟩, ⟨fun ξ43 ξ43' h => ⟨rfl, rfl, rfl⟩, fun _ => rfl⟩, ⟨fun ξ43 ξ43' h => ⟨rfl, rfl, rfl⟩, fun _ => rfl⟩, ⟨fun ξ43 ξ43' h => ⟨rfl, rfl, rfl⟩, fun _ => rfl⟩, ⟨fun ξ43 ξ43' h => ⟨rfl, rfl, rfl⟩, fun _ => rfl⟩, ⟨fun ξ43 ξ43' h => ⟨rfl, rfl, rfl⟩, fun _ => rfl⟩, ⟨fun ξ43 ξ43' h => ⟨rfl, rfl, rfl⟩, fun _ => rfl⟩, ⟨fun ξ43 ξ43' h => ⟨rfl, rfl, rfl⟩, fun _ => rfl⟩, ⟨fun ξ43 ξ43' h => ⟨by simp only [h 9 (.inl rfl)], rfl, by simp only [h 9 (.inl rfl)]⟩, fun _ => rfl⟩, ⟨fun ξ43 ξ43' h => ⟨rfl, by simp only [h 9 (.inr rfl)], rfl⟩, fun _ => rfl⟩, ⟨fun ξ43 ξ43' h => ⟨rfl, rfl, rfl⟩, fun _ => rfl⟩, trivial⟩ rfl (fun ξ43 => ?_)
                            refine gx_o rfl (fun L2 => ?_) ?_
                            · dsimp only [maskL, List.cons_append, List.nil_append]
                              refine ox_y rfl (y_loadN 0 [.int .i64 p0.fRise, .int .i64 p0.fFall, .int .i64 p0.fUp, .int .i64 p0.fDown, .slice A0_4 p0.fLooks.length c0_4] ag_24 rfl rfl rfl) ?_
                              refine ox_nil ?_
                              exact ex_capG (fun _ => (none, 0, 0)) rfl (List.append_nil _)
                            dsimp only [aftL, List.set_cons_zero, List.set_cons_succ, List.nil_append, List.cons_append, List.append_nil]
                            refine gx_o rfl (fun L2 => ?_) ?_
                            · dsimp only [maskL, List.cons_append, List.nil_append]
                              refine ox_y rfl (y_move_slice rfl) ?_
                              refine ox_nil ?_
                              exact ex_capG (fun _ => (none, 0, 0)) rfl (List.append_nil _)
                            dsimp only [aftL, List.set_cons_zero, List.set_cons_succ, List.nil_append, List.cons_append, List.append_nil]
                            refine gx_o rfl (fun L2 => ?_) ?_
                            · dsimp only [maskL, List.cons_append, List.nil_append]
                              refine ox_y rfl (y_move_int rfl) ?_
                              refine ox_nil ?_
                              exact ex_capG (fun _ => (none, 0, 0)) rfl (List.append_nil _)
                            dsimp only [aftL, List.set_cons_zero, List.set_cons_succ, List.nil_append, List.cons_append, List.append_nil]
                            refine gx_o rfl (fun L2 => ?_) ?_
                            · dsimp only [maskL, List.cons_append, List.nil_append]
                              refine ox_y rfl (y_indexR sl_46 (by decide) hg44.1 hg44.2 (RdL.arg hr1_0) (encL_len TSpot_cells_len rfl) rfl rfl) ?_
                              refine ox_nil ?_
                              exact ex_capG (fun _ => (none, 0, 0)) rfl (List.append_nil _)
                            dsimp only [aftL, List.set_cons_zero, List.set_cons_succ, List.nil_append, List.cons_append, List.append_nil]
                            refine gx_o rfl (fun L2 => ?_) ?_
                            · dsimp only [maskL, List.cons_append, List.nil_append]
                              refine ox_y rfl (y_loadRN (A := A1_0) (j := (Int.toNat s40.2 * 2)) [.int .i64 ((rdL p1 s40.2).fFoot), .int .i64 ((rdL p1 s40.2).fHour)] ag_26 (Nat.succ_pos _) (RdL.arg hr1_0) rfl (encL_gets TSpot_cells_len hg44.1 (lt_nat hg44.2 rfl))) ?_
                              refine ox_nil ?_
                              exact ex_capG (fun _ => (none, 0, 0)) rfl (List.append_nil _)
                            dsimp only [aftL, List.set_cons_zero, List.set_cons_succ, List.nil_append, List.cons_append, List.append_nil]
                            refine gx_o rfl (fun L2 => ?_) ?_
                            · dsimp only [maskL, List.cons_append, List.nil_append]
                              refine ox_y rfl (y_call [.agg #[.int .i64 p0.fRise, .int .i64 p0.fFall, .int .i64 p0.fUp, .int .i64 p0.fDown, .slice A0_4 p0.fLooks.length c0_4], .agg #[.int .i64 ((rdL p1 s40.2).fFoot), .int .i64 ((rdL p1 s40.2).fHour)]] go_14 rfl (fun W2 hW2 => fire_Ends_ok p0 (TSpot.mk ((rdL p1 s40.2).fFoot) ((rdL p1 s40.2).fHour)) y45 hy46 W2 A0_4 p0.fLooks.length c0_4 rfl ((RdL.arg hr0_4) W2 hW2)) rfl) ?_
                              refine ox_nil ?_
                              exact ex_capG (fun _ => (none, 0, 0)) rfl (List.append_nil _)
                            dsimp only [aftL, List.set_cons_zero, List.set_cons_succ, List.nil_append, List.cons_append, List.append_nil]
                            refine gx_o rfl (fun L2 => ?_) ?_
                            · dsimp only [maskL, List.cons_append, List.nil_append]
                              refine ox_y rfl (y_move_tuple rfl) ?_
                              refine ox_nil ?_
                              exact ex_capG (fun _ => (none, 0, 0)) rfl (List.append_nil _)
                            dsimp only [aftL, List.set_cons_zero, List.set_cons_succ, List.nil_append, List.cons_append, List.append_nil]
                            refine gx_o rfl (fun L2 => ?_) ?_
                            · dsimp only [maskL, List.cons_append, List.nil_append]
                              refine ox_y rfl (y_extract (vs := [.agg #[.int .i64 y45.1.fSpan.fLo, .int .i64 y45.1.fSpan.fHi, .int .i64 y45.1.fLow, .int .i64 y45.1.fHigh], .int .i64 y45.2]) (v := .agg #[.int .i64 y45.1.fSpan.fLo, .int .i64 y45.1.fSpan.fHi, .int .i64 y45.1.fLow, .int .i64 y45.1.fHigh]) rfl rfl) ?_
                              refine ox_nil ?_
                              exact ex_capG (fun _ => (none, 0, 0)) rfl (List.append_nil _)
                            dsimp only [aftL, List.set_cons_zero, List.set_cons_succ, List.nil_append, List.cons_append, List.append_nil]
                            refine gx_o rfl (fun L2 => ?_) ?_
                            · dsimp only [maskL, List.cons_append, List.nil_append]
                              refine ox_y rfl (y_extract (vs := [.agg #[.int .i64 y45.1.fSpan.fLo, .int .i64 y45.1.fSpan.fHi, .int .i64 y45.1.fLow, .int .i64 y45.1.fHigh], .int .i64 y45.2]) (v := .int .i64 y45.2) rfl rfl) ?_
                              refine ox_nil ?_
                              exact ex_capG (fun _ => (none, 0, 0)) rfl (List.append_nil _)
                            dsimp only [aftL, List.set_cons_zero, List.set_cons_succ, List.nil_append, List.cons_append, List.append_nil]
                            refine gx_o rfl (fun L2 => ?_) ?_
                            · dsimp only [maskL, List.cons_append, List.nil_append]
                              refine ox_alloc ze_36 rfl (fun b47 => ?_)
                              refine ox_nil ?_
                              exact ex_capG (fun _ => (none, b47, 0)) rfl rfl
                            dsimp only [aftL, List.set_cons_zero, List.set_cons_succ, List.nil_append, List.cons_append, List.append_nil]
                            refine gx_n rfl (fun L2 => ?_) ?_
                            · dsimp only [maskL, List.cons_append, List.nil_append]
                              refine ox_n rfl (y_storeN 3 [.int .i64 y45.1.fSpan.fLo, .int .i64 y45.1.fSpan.fHi, .int .i64 y45.1.fLow, .int .i64 y45.1.fHigh] sz_36 rfl (Nat.le_of_ble_eq_true rfl) rfl rfl rfl) ?_
                              refine ox_nil ?_
                              exact ex_capGn (fun _ => (none, 0, 0)) (List.append_nil _)
                            dsimp only [aftL, List.set_cons_zero, List.set_cons_succ, List.nil_append, List.cons_append, List.append_nil]
                            refine gx_o rfl (fun L2 => ?_) ?_
                            · dsimp only [maskL, List.cons_append, List.nil_append]
                              refine ox_y rfl (y_assign_int rfl) ?_
                              refine ox_nil ?_
                              exact ex_capG (fun _ => (none, 0, 0)) rfl (List.append_nil _)
                            dsimp only [aftL, List.set_cons_zero, List.set_cons_succ, List.nil_append, List.cons_append, List.append_nil]
                            refine gx_nil ?_
                            refine ex_then ?_
                            refine cx_seq ?_
                            refine cx_seq ?_
                            refine cx_draws 43 mixed (by kernel_rfl) (by kernel_rfl) ?_
                            refine qx_y rfl (y_move_int rfl) ?_
                            refine qx_y rfl (y_neq rfl rfl) ?_
                            refine qx_y rfl (y_move_bool rfl) ?_
                            obtain ⟨b49, hb50, h⟩ := bind_some h
                            refine qx_join 9 (fun tm0 => (upd (upd (upd (upd (upd (upd (upd (upd (upd (upd (upd (upd (upd (upd tm0 1 (.slice A1_0 p1.length c1_0)) 2 (.slice A2_0 p2.length c2_0)) 3 (.pointer (some ⟨b1, 0, none⟩))) 6 (.bool s40.1)) 7 (.slice A13 y11.1.length c14)) 9 (.slice A19 y17.1.length c20)) 15 (.bool y31.1)) 16 (.int .i64 y31.2)) 103 (.bool ((((((((y11.1.length : Nat) : Int) != ((p1.length : Nat) : Int)) || (((y17.1.length : Nat) : Int) != ((p1.length : Nat) : Int))) || (y27.2 != 0)) || (y29.2 != 0)) || (!y27.1)) || (!y29.1)))) 17 (.int .i64 s40.2)) 107 (.bool (decide (s40.2 < ((p1.length : Nat) : Int))))) 18 (.pointer (some ⟨(ξ43 9 0).2.1, 0, none⟩))) 19 (.int .i64 y45.2)) 130 (.bool b49))) (fun tm0 => ?_) (fun key => ?_)
                            · refine qx_y rfl (y_move_bool rfl) ?_
                              obtain ⟨b52, hb53, h⟩ := bind_some h
                              refine qx_join 9 (fun tm0 => (upd (upd (upd (upd (upd (upd (upd (upd (upd (upd (upd (upd (upd (upd tm0 1 (.slice A1_0 p1.length c1_0)) 2 (.slice A2_0 p2.length c2_0)) 3 (.pointer (some ⟨b1, 0, none⟩))) 6 (.bool s40.1)) 7 (.slice A13 y11.1.length c14)) 9 (.slice A19 y17.1.length c20)) 15 (.bool y31.1)) 16 (.int .i64 y31.2)) 103 (.bool ((((((((y11.1.length : Nat) : Int) != ((p1.length : Nat) : Int)) || (((y17.1.length : Nat) : Int) != ((p1.length : Nat) : Int))) || (y27.2 != 0)) || (y29.2 != 0)) || (!y27.1)) || (!y29.1)))) 17 (.int .i64 s40.2)) 107 (.bool (decide (s40.2 < ((p1.length : Nat) : Int))))) 18 (.pointer (some ⟨(ξ43 9 0).2.1, 0, none⟩))) 19 (.int .i64 y45.2)) 140 (.bool b52))) (fun tm0 => ?_) (fun key => ?_)
                              · refine qx_y rfl (y_move_bool rfl) ?_
                                obtain ⟨b55, hb56, h⟩ := bind_some h
                                refine qx_join 10 (fun tm0 => (upd (upd (upd (upd (upd (upd (upd (upd (upd (upd (upd (upd (upd (upd tm0 1 (.slice A1_0 p1.length c1_0)) 2 (.slice A2_0 p2.length c2_0)) 3 (.pointer (some ⟨b1, 0, none⟩))) 6 (.bool s40.1)) 7 (.slice A13 y11.1.length c14)) 9 (.slice A19 y17.1.length c20)) 15 (.bool y31.1)) 16 (.int .i64 y31.2)) 103 (.bool ((((((((y11.1.length : Nat) : Int) != ((p1.length : Nat) : Int)) || (((y17.1.length : Nat) : Int) != ((p1.length : Nat) : Int))) || (y27.2 != 0)) || (y29.2 != 0)) || (!y27.1)) || (!y29.1)))) 17 (.int .i64 s40.2)) 107 (.bool (decide (s40.2 < ((p1.length : Nat) : Int))))) 18 (.pointer (some ⟨(ξ43 9 0).2.1, 0, none⟩))) 19 (.int .i64 y45.2)) 151 (.bool b55))) (fun tm0 => ?_) (fun key => ?_)
                                · refine qx_y rfl (y_move_bool rfl) ?_
                                  obtain ⟨b58, hb59, h⟩ := bind_some h
                                  refine qx_join 9 (fun tm0 => (upd (upd (upd (upd (upd (upd (upd (upd (upd (upd (upd (upd (upd (upd tm0 1 (.slice A1_0 p1.length c1_0)) 2 (.slice A2_0 p2.length c2_0)) 3 (.pointer (some ⟨b1, 0, none⟩))) 6 (.bool s40.1)) 7 (.slice A13 y11.1.length c14)) 9 (.slice A19 y17.1.length c20)) 15 (.bool y31.1)) 16 (.int .i64 y31.2)) 103 (.bool ((((((((y11.1.length : Nat) : Int) != ((p1.length : Nat) : Int)) || (((y17.1.length : Nat) : Int) != ((p1.length : Nat) : Int))) || (y27.2 != 0)) || (y29.2 != 0)) || (!y27.1)) || (!y29.1)))) 17 (.int .i64 s40.2)) 107 (.bool (decide (s40.2 < ((p1.length : Nat) : Int))))) 18 (.pointer (some ⟨(ξ43 9 0).2.1, 0, none⟩))) 19 (.int .i64 y45.2)) 161 (.bool b58))) (fun tm0 => ?_) (fun key => ?_)
                                  · refine qx_nil ?_
                                    refine ox_nil ?_
                                    refine ex_then ?_
                                    rcases ite_some h with ⟨hp60, h⟩ | ⟨hp60, h⟩
                                    · refine cx_true (congrArg Value.bool hp60) ?_
                                      refine cx_seq ?_
                                      refine cx_region ?_
                                      refine ox_y rfl (y_assign_bool rfl) ?_
                                      refine ox_nil ?_
                                      refine ex_then ?_
                                      refine cx_ret ?_
                                      refine ex_then_ret ?_
                                      refine ex_block_ret ?_
                                      refine ex_then_ret ?_
                                      refine ex_take 3 ?_
                                      obtain rfl := Option.some.inj h
                                      exact ex_stop ⟨rfl, _, rfl, (keep (keep (keep (keep (keep (keep (keep (keep (keep (keep rfl rfl) rfl) rfl) rfl) rfl) rfl) rfl) rfl) rfl) rfl)⟩
                                    · refine cx_false (congrArg Value.bool hp60) ?_
                                      refine cx_skip ?_
                                      refine ex_then ?_
                                      refine cx_seq ?_
                                      refine cx_seq ?_
                                      refine cx_draws 27 mixed (by kernel_rfl) (by kernel_rfl) ?_
                                      refine qx_y rfl (y_move_int rfl) ?_
                                      refine qx_y rfl (y_eql rfl rfl) ?_
                                      refine qx_y rfl (y_move_bool rfl) ?_
                                      refine qx_join 2 (fun tm0 => (upd (upd (upd (upd (upd (upd (upd (upd (upd (upd (upd (upd (upd (upd (upd tm0 1 (.slice A1_0 p1.length c1_0)) 2 (.slice A2_0 p2.length c2_0)) 3 (.pointer (some ⟨b1, 0, none⟩))) 6 (.bool s40.1)) 7 (.slice A13 y11.1.length c14)) 9 (.slice A19 y17.1.length c20)) 15 (.bool y31.1)) 16 (.int .i64 y31.2)) 103 (.bool ((((((((y11.1.length : Nat) : Int) != ((p1.length : Nat) : Int)) || (((y17.1.length : Nat) : Int) != ((p1.length : Nat) : Int))) || (y27.2 != 0)) || (y29.2 != 0)) || (!y27.1)) || (!y29.1)))) 17 (.int .i64 s40.2)) 107 (.bool (decide (s40.2 < ((p1.length : Nat) : Int))))) 18 (.pointer (some ⟨(ξ43 9 0).2.1, 0, none⟩))) 19 (.int .i64 y45.2)) 161 (.bool b58)) 166 (.bool ((y31.2 == 0) && y31.1)))) (fun tm0 => ?_) (fun key => ?_)
                                      · refine qx_y rfl (y_move_bool rfl) ?_
                                        obtain ⟨b63, hb64, h⟩ := bind_some h
                                        refine qx_join 21 (fun tm0 => (upd (upd (upd (upd (upd (upd (upd (upd (upd (upd (upd (upd (upd (upd (upd tm0 1 (.slice A1_0 p1.length c1_0)) 2 (.slice A2_0 p2.length c2_0)) 3 (.pointer (some ⟨b1, 0, none⟩))) 6 (.bool s40.1)) 7 (.slice A13 y11.1.length c14)) 9 (.slice A19 y17.1.length c20)) 15 (.bool y31.1)) 16 (.int .i64 y31.2)) 103 (.bool ((((((((y11.1.length : Nat) : Int) != ((p1.length : Nat) : Int)) || (((y17.1.length : Nat) : Int) != ((p1.length : Nat) : Int))) || (y27.2 != 0)) || (y29.2 != 0)) || (!y27.1)) || (!y29.1)))) 17 (.int .i64 s40.2)) 107 (.bool (decide (s40.2 < ((p1.length : Nat) : Int))))) 18 (.pointer (some ⟨(ξ43 9 0).2.1, 0, none⟩))) 19 (.int .i64 y45.2)) 161 (.bool b58)) 188 (.bool b63))) (fun tm0 => ?_) (fun key => ?_)
                                        · refine qx_nil ?_
                                          refine ox_nil ?_
                                          refine ex_then ?_
                                          rcases ite_some h with ⟨hp65, h⟩ | ⟨hp65, h⟩
                                          · refine cx_true (congrArg Value.bool hp65) ?_
                                            refine cx_seq ?_
                                            refine cx_region ?_
                                            refine ox_y rfl (y_assign_bool rfl) ?_
                                            refine ox_nil ?_
                                            refine ex_then ?_
                                            refine cx_ret ?_
                                            refine ex_then_ret ?_
                                            refine ex_block_ret ?_
                                            refine ex_then_ret ?_
                                            refine ex_take 3 ?_
                                            obtain rfl := Option.some.inj h
                                            exact ex_stop ⟨rfl, _, rfl, (keep (keep (keep (keep (keep (keep (keep (keep (keep (keep rfl rfl) rfl) rfl) rfl) rfl) rfl) rfl) rfl) rfl) rfl)⟩
                                          · refine cx_false (congrArg Value.bool hp65) ?_
                                            refine cx_skip ?_
                                            refine ex_then ?_
                                            refine cx_seq ?_
                                            refine cx_region ?_
                                            refine ox_y rfl (y_assign_int rfl) ?_
                                            refine ox_nil ?_
                                            refine ex_then ?_
                                            refine cx_block ?_
                                            obtain ⟨u68, hl85, h⟩ := bind_some h
                                            refine cx_loop (fun (s : (Bool × Int)) L tm => ∃ (tm0 : Nat → Value), L = [cellsR b1 24 [.int .i64 p0.fRise, .int .i64 p0.fFall, .int .i64 p0.fUp, .int .i64 p0.fDown, .slice A0_4 p0.fLooks.length c0_4], rowR A13 c14 3 1 y11.1.length (encL cI y11.1), rowR A19 c20 3 1 y17.1.length (encL cI y17.1), cellsR (ξ43 9 0).2.1 36 [.int .i64 y45.1.fSpan.fLo, .int .i64 y45.1.fSpan.fHi, .int .i64 y45.1.fLow, .int .i64 y45.1.fHigh]] ∧ tm = (upd (upd (upd (upd (upd (upd (upd (upd (upd (upd (upd (upd (upd (upd (upd (upd tm0 1 (.slice A1_0 p1.length c1_0)) 2 (.slice A2_0 p2.length c2_0)) 3 (.pointer (some ⟨b1, 0, none⟩))) 6 (.bool s.1)) 7 (.slice A13 y11.1.length c14)) 9 (.slice A19 y17.1.length c20)) 15 (.bool y31.1)) 16 (.int .i64 y31.2)) 103 (.bool ((((((((y11.1.length : Nat) : Int) != ((p1.length : Nat) : Int)) || (((y17.1.length : Nat) : Int) != ((p1.length : Nat) : Int))) || (y27.2 != 0)) || (y29.2 != 0)) || (!y27.1)) || (!y29.1)))) 17 (.int .i64 s40.2)) 107 (.bool (decide (s40.2 < ((p1.length : Nat) : Int))))) 18 (.pointer (some ⟨(ξ43 9 0).2.1, 0, none⟩))) 19 (.int .i64 y45.2)) 161 (.bool b58)) 188 (.bool b63)) 20 (.int .i64 s.2))) (fun | (.inl s), e, L, tm => e = .ret ∧ ∃ (tm0 : Nat → Value), L = [cellsR b1 24 [.int .i64 p0.fRise, .int .i64 p0.fFall, .int .i64 p0.fUp, .int .i64 p0.fDown, .slice A0_4 p0.fLooks.length c0_4], rowR A13 c14 3 1 y11.1.length (encL cI y11.1), rowR A19 c20 3 1 y17.1.length (encL cI y17.1), cellsR (ξ43 9 0).2.1 36 [.int .i64 y45.1.fSpan.fLo, .int .i64 y45.1.fSpan.fHi, .int .i64 y45.1.fLow, .int .i64 y45.1.fHigh]] ∧ tm = (upd (upd (upd (upd (upd (upd (upd (upd (upd (upd (upd (upd (upd (upd (upd (upd tm0 1 (.slice A1_0 p1.length c1_0)) 2 (.slice A2_0 p2.length c2_0)) 3 (.pointer (some ⟨b1, 0, none⟩))) 6 (.bool s.1)) 7 (.slice A13 y11.1.length c14)) 9 (.slice A19 y17.1.length c20)) 15 (.bool y31.1)) 16 (.int .i64 y31.2)) 103 (.bool ((((((((y11.1.length : Nat) : Int) != ((p1.length : Nat) : Int)) || (((y17.1.length : Nat) : Int) != ((p1.length : Nat) : Int))) || (y27.2 != 0)) || (y29.2 != 0)) || (!y27.1)) || (!y29.1)))) 17 (.int .i64 s40.2)) 107 (.bool (decide (s40.2 < ((p1.length : Nat) : Int))))) 18 (.pointer (some ⟨(ξ43 9 0).2.1, 0, none⟩))) 19 (.int .i64 y45.2)) 161 (.bool b58)) 188 (.bool b63)) 20 (.int .i64 s.2)) | (.inr s), e, L, tm => e = .exit 2 ∧ ∃ (tm0 : Nat → Value), L = [cellsR b1 24 [.int .i64 p0.fRise, .int .i64 p0.fFall, .int .i64 p0.fUp, .int .i64 p0.fDown, .slice A0_4 p0.fLooks.length c0_4], rowR A13 c14 3 1 y11.1.length (encL cI y11.1), rowR A19 c20 3 1 y17.1.length (encL cI y17.1), cellsR (ξ43 9 0).2.1 36 [.int .i64 y45.1.fSpan.fLo, .int .i64 y45.1.fSpan.fHi, .int .i64 y45.1.fLow, .int .i64 y45.1.fHigh]] ∧ tm = (upd (upd (upd (upd (upd (upd (upd (upd (upd (upd (upd (upd (upd (upd (upd (upd tm0 1 (.slice A1_0 p1.length c1_0)) 2 (.slice A2_0 p2.length c2_0)) 3 (.pointer (some ⟨b1, 0, none⟩))) 6 (.bool s.1)) 7 (.slice A13 y11.1.length c14)) 9 (.slice A19 y17.1.length c20)) 15 (.bool y31.1)) 16 (.int .i64 y31.2)) 103 (.bool ((((((((y11.1.length : Nat) : Int) != ((p1.length : Nat) : Int)) || (((y17.1.length : Nat) : Int) != ((p1.length : Nat) : Int))) || (y27.2 != 0)) || (y29.2 != 0)) || (!y27.1)) || (!y29.1)))) 17 (.int .i64 s40.2)) 107 (.bool (decide (s40.2 < ((p1.length : Nat) : Int))))) 18 (.pointer (some ⟨(ξ43 9 0).2.1, 0, none⟩))) 19 (.int .i64 y45.2)) 161 (.bool b58)) 188 (.bool b63)) 20 (.int .i64 s.2))) hl85 ⟨_, rfl, (keep (keep (keep (keep (keep (keep (keep (keep (keep (keep (keep (keep (keep (keep (keep (keep rfl rfl) rfl) rfl) rfl) rfl) rfl) rfl) rfl) rfl) rfl) rfl) rfl) rfl) rfl) rfl) rfl)⟩ ?_ ?_
                                            · rintro s67 L tm st ⟨tm0_s67, rfl, rfl⟩ h
                                              unfold calxlaw02_FireBetween_l2 at h
                                              refine cx_seq ?_
                                              refine cx_seq ?_
                                              refine cx_region ?_
                                              refine ox_y rfl (y_move_int rfl) ?_
                                              refine ox_y rfl (y_move_slice rfl) ?_
                                              refine ox_y rfl (y_len (us := []) us_46 rfl) ?_
                                              refine ox_y rfl (y_lss rfl rfl) ?_
                                              refine ox_nil ?_
                                              refine ex_then ?_
                                              rcases ite_some h with ⟨hp69, h⟩ | ⟨hp69, h⟩
                                              · refine cx_true (congrArg Value.bool hp69) ?_
                                                refine cx_skip ?_
                                                refine ex_then ?_
                                                refine cx_seq ?_
                                                refine cx_block ?_
                                                refine cx_seq ?_
                                                refine cx_draws 15 mixed (by kernel_rfl) (by kernel_rfl) ?_
                                                refine qx_y rfl (y_loadN 0 [.int .i64 p0.fRise, .int .i64 p0.fFall, .int .i64 p0.fUp, .int .i64 p0.fDown, .slice A0_4 p0.fLooks.length c0_4] ag_24 rfl rfl rfl) ?_
                                                refine qx_y rfl (y_move_slice rfl) ?_
                                                refine qx_y rfl (y_move_int rfl) ?_
                                                obtain ⟨hg70, h⟩ := guardO_some h
                                                refine qx_y rfl (y_indexR sl_46 (by decide) hg70.1 hg70.2 (RdL.arg hr1_0) (encL_len TSpot_cells_len rfl) rfl rfl) ?_
                                                refine qx_y rfl (y_loadRN (A := A1_0) (j := (Int.toNat s67.2 * 2)) [.int .i64 ((rdL p1 s67.2).fFoot), .int .i64 ((rdL p1 s67.2).fHour)] ag_26 (Nat.succ_pos _) (RdL.arg hr1_0) rfl (encL_gets TSpot_cells_len hg70.1 (lt_nat hg70.2 rfl))) ?_
                                                refine qx_y rfl (y_move_slice rfl) ?_
                                                refine qx_y rfl (y_move_int rfl) ?_
                                                obtain ⟨hg71, h⟩ := guardO_some h
                                                refine qx_y rfl (y_indexR sl_46 (by decide) hg71.1 hg71.2 (RdL.arg hr1_0) (encL_len TSpot_cells_len rfl) rfl rfl) ?_
                                                refine qx_y rfl (y_loadRN (A := A1_0) (j := (Int.toNat s40.2 * 2)) [.int .i64 ((rdL p1 s40.2).fFoot), .int .i64 ((rdL p1 s40.2).fHour)] ag_26 (Nat.succ_pos _) (RdL.arg hr1_0) rfl (encL_gets TSpot_cells_len hg71.1 (lt_nat hg71.2 rfl))) ?_
                                                obtain ⟨y72, hy73, h⟩ := bind_some h
                                                refine qx_y rfl (y_call [.agg #[.int .i64 p0.fRise, .int .i64 p0.fFall, .int .i64 p0.fUp, .int .i64 p0.fDown, .slice A0_4 p0.fLooks.length c0_4], .agg #[.int .i64 ((rdL p1 s67.2).fFoot), .int .i64 ((rdL p1 s67.2).fHour)], .agg #[.int .i64 ((rdL p1 s40.2).fFoot), .int .i64 ((rdL p1 s40.2).fHour)]] go_30 rfl (fun W2 hW2 => fire_Far_ok p0 (TSpot.mk ((rdL p1 s67.2).fFoot) ((rdL p1 s67.2).fHour)) (TSpot.mk ((rdL p1 s40.2).fFoot) ((rdL p1 s40.2).fHour)) y72 hy73 W2 A0_4 p0.fLooks.length c0_4 rfl ((RdL.arg hr0_4) W2 hW2)) rfl) ?_
                                                refine qx_y rfl (y_move_tuple rfl) ?_
                                                refine qx_y rfl (y_extract (vs := [.int .i64 y72.1, .int .i64 y72.2]) (v := .int .i64 y72.1) rfl rfl) ?_
                                                refine qx_y rfl (y_extract (vs := [.int .i64 y72.1, .int .i64 y72.2]) (v := .int .i64 y72.2) rfl rfl) ?_
                                                refine qx_y rfl (y_assign_int rfl) ?_
                                                refine qx_y rfl (y_assign_int rfl) ?_
                                                refine qx_nil ?_
                                                refine ox_nil ?_
                                                refine ex_then ?_
                                                refine cx_seq ?_
                                                refine cx_draws 28 mixed (by kernel_rfl) (by kernel_rfl) ?_
                                                refine qx_y rfl (y_move_int rfl) ?_
                                                refine qx_y rfl (y_neq rfl rfl) ?_
                                                refine qx_y rfl (y_move_bool rfl) ?_
                                                obtain ⟨b75, hb76, h⟩ := bind_some h
                                                refine qx_join 12 (fun tm0 => (upd (upd (upd (upd (upd (upd (upd (upd (upd (upd (upd (upd (upd (upd (upd (upd (upd (upd (upd (upd tm0 1 (.slice A1_0 p1.length c1_0)) 2 (.slice A2_0 p2.length c2_0)) 3 (.pointer (some ⟨b1, 0, none⟩))) 6 (.bool s67.1)) 7 (.slice A13 y11.1.length c14)) 9 (.slice A19 y17.1.length c20)) 15 (.bool y31.1)) 16 (.int .i64 y31.2)) 103 (.bool ((((((((y11.1.length : Nat) : Int) != ((p1.length : Nat) : Int)) || (((y17.1.length : Nat) : Int) != ((p1.length : Nat) : Int))) || (y27.2 != 0)) || (y29.2 != 0)) || (!y27.1)) || (!y29.1)))) 17 (.int .i64 s40.2)) 107 (.bool (decide (s40.2 < ((p1.length : Nat) : Int))))) 18 (.pointer (some ⟨(ξ43 9 0).2.1, 0, none⟩))) 19 (.int .i64 y45.2)) 161 (.bool b58)) 188 (.bool b63)) 20 (.int .i64 s67.2)) 192 (.bool (decide (s67.2 < ((p1.length : Nat) : Int))))) 21 (.int .i64 y72.1)) 22 (.int .i64 y72.2)) 222 (.bool b75))) (fun tm0 => ?_) (fun key => ?_)
                                                · refine qx_y rfl (y_move_bool rfl) ?_
                                                  obtain ⟨b78, hb79, h⟩ := bind_some h
                                                  refine qx_join 12 (fun tm0 => (upd (upd (upd (upd (upd (upd (upd (upd (upd (upd (upd (upd (upd (upd (upd (upd (upd (upd (upd (upd tm0 1 (.slice A1_0 p1.length c1_0)) 2 (.slice A2_0 p2.length c2_0)) 3 (.pointer (some ⟨b1, 0, none⟩))) 6 (.bool s67.1)) 7 (.slice A13 y11.1.length c14)) 9 (.slice A19 y17.1.length c20)) 15 (.bool y31.1)) 16 (.int .i64 y31.2)) 103 (.bool ((((((((y11.1.length : Nat) : Int) != ((p1.length : Nat) : Int)) || (((y17.1.length : Nat) : Int) != ((p1.length : Nat) : Int))) || (y27.2 != 0)) || (y29.2 != 0)) || (!y27.1)) || (!y29.1)))) 17 (.int .i64 s40.2)) 107 (.bool (decide (s40.2 < ((p1.length : Nat) : Int))))) 18 (.pointer (some ⟨(ξ43 9 0).2.1, 0, none⟩))) 19 (.int .i64 y45.2)) 161 (.bool b58)) 188 (.bool b63)) 20 (.int .i64 s67.2)) 192 (.bool (decide (s67.2 < ((p1.length : Nat) : Int))))) 21 (.int .i64 y72.1)) 22 (.int .i64 y72.2)) 235 (.bool b78))) (fun tm0 => ?_) (fun key => ?_)
                                                  · refine qx_nil ?_
                                                    refine ox_nil ?_
                                                    refine ex_then ?_
                                                    rcases ite_some h with ⟨hp80, h⟩ | ⟨hp80, h⟩
                                                    · refine cx_true (congrArg Value.bool hp80) ?_
                                                      refine cx_seq ?_
                                                      refine cx_region ?_
                                                      refine ox_y rfl (y_assign_bool rfl) ?_
                                                      refine ox_nil ?_
                                                      refine ex_then ?_
                                                      refine cx_ret ?_
                                                      refine ex_block_ret ?_
                                                      refine ex_then_ret ?_
                                                      obtain rfl := Option.some.inj h
                                                      exact ex_stop ⟨rfl, _, rfl, (keep (keep (keep (keep (keep (keep (keep (keep (keep (keep (keep (keep (keep (keep (keep (keep rfl rfl) rfl) rfl) rfl) rfl) rfl) rfl) rfl) rfl) rfl) rfl) rfl) rfl) rfl) rfl) rfl)⟩
                                                    · refine cx_false (congrArg Value.bool hp80) ?_
                                                      refine cx_skip ?_
                                                      refine ex_block ?_
                                                      refine ex_then ?_
                                                      refine cx_region ?_
                                                      refine ox_y rfl (y_move_int rfl) ?_
                                                      refine ox_y rfl (y_add rfl rfl) ?_
                                                      refine ox_y rfl (y_assign_int rfl) ?_
                                                      refine ox_nil ?_
                                                      obtain rfl := Option.some.inj h
                                                      exact ex_next ⟨_, rfl, (keep (keep (keep (keep (keep (keep (keep (keep (keep (keep (keep (keep (keep (keep (keep (keep rfl rfl) rfl) rfl) rfl) rfl) rfl) rfl) rfl) rfl) rfl) rfl) rfl) rfl) rfl) rfl) rfl)⟩
                                                  · clear h; rcases ite_some hb79 with ⟨hp77, h⟩ | ⟨hp77, h⟩
                                                    · refine qx_skip (sees_f rfl rfl rfl rfl hp77) ?_
                                                      refine qx_skip (sees_f rfl rfl rfl rfl hp77) ?_
                                                      refine qx_skip (sees_f rfl rfl rfl rfl hp77) ?_
                                                      refine qx_skip (sees_f rfl rfl rfl rfl hp77) ?_
                                                      refine qx_skip (sees_f rfl rfl rfl rfl hp77) ?_
                                                      refine qx_skip (sees_f rfl rfl rfl rfl hp77) ?_
                                                      refine qx_skip (sees_f rfl rfl rfl rfl hp77) ?_
                                                      refine qx_skip (sees_f rfl rfl rfl rfl hp77) ?_
                                                      refine qx_skip (sees_f rfl rfl rfl rfl hp77) ?_
                                                      refine qx_skip (sees_f rfl rfl rfl rfl hp77) ?_
                                                      refine qx_skip (sees_f rfl rfl rfl rfl hp77) ?_
                                                      refine qx_y rfl (y_pick_tb (congrArg Value.bool hp77) rfl) ?_
                                                      obtain rfl := Option.some.inj h
                                                      exact key _ _ (keep (keep (keep (keep (keep (keep (keep (keep (keep (keep (keep (keep (keep (keep (keep (keep (keep (keep (keep (keep rfl rfl) rfl) rfl) rfl) rfl) rfl) rfl) rfl) rfl) rfl) rfl) rfl) rfl) rfl) rfl) rfl) rfl) rfl) rfl) rfl)
                                                    · refine qx_y (sees_t rfl rfl rfl rfl hp77) (y_move_slice rfl) ?_
                                                      refine qx_y (sees_t rfl rfl rfl rfl hp77) (y_move_int rfl) ?_
                                                      obtain ⟨hg81, h⟩ := guardO_some h
                                                      refine qx_y (sees_t rfl rfl rfl rfl hp77) (y_indexR sl_41 (by decide) hg81.1 hg81.2 (RdL.row 2 rfl) (encL_len cI_len rfl) rfl rfl) ?_
                                                      refine qx_y (sees_t rfl rfl rfl rfl hp77) (y_loadR1 (A := A19) (j := (Int.toNat s40.2 * 1)) (v := .int .i64 (rdL y17.1 s40.2)) sc_3 (RdL.row 2 rfl) rfl (encL_get0 cI_len hg81.1 (lt_nat hg81.2 rfl) rfl)) ?_
                                                      refine qx_y (sees_t rfl rfl rfl rfl hp77) (y_move_slice rfl) ?_
                                                      refine qx_y (sees_t rfl rfl rfl rfl hp77) (y_move_int rfl) ?_
                                                      obtain ⟨hg82, h⟩ := guardO_some h
                                                      refine qx_y (sees_t rfl rfl rfl rfl hp77) (y_indexR sl_41 (by decide) hg82.1 hg82.2 (RdL.row 2 rfl) (encL_len cI_len rfl) rfl rfl) ?_
                                                      refine qx_y (sees_t rfl rfl rfl rfl hp77) (y_loadR1 (A := A19) (j := (Int.toNat s67.2 * 1)) (v := .int .i64 (rdL y17.1 s67.2)) sc_3 (RdL.row 2 rfl) rfl (encL_get0 cI_len hg82.1 (lt_nat hg82.2 rfl) rfl)) ?_
                                                      refine qx_y (sees_t rfl rfl rfl rfl hp77) (y_move_int rfl) ?_
                                                      refine qx_y (sees_t rfl rfl rfl rfl hp77) (y_add rfl rfl) ?_
                                                      refine qx_y (sees_t rfl rfl rfl rfl hp77) (y_gtr rfl rfl) ?_
                                                      refine qx_y rfl (y_pick_fb (congrArg Value.bool hp77) rfl) ?_
                                                      obtain rfl := Option.some.inj h
                                                      exact key _ _ (keep (keep (keep (keep (keep (keep (keep (keep (keep (keep (keep (keep (keep (keep (keep (keep (keep (keep (keep (keep rfl rfl) rfl) rfl) rfl) rfl) rfl) rfl) rfl) rfl) rfl) rfl) rfl) rfl) rfl) rfl) rfl) rfl) rfl) rfl) rfl)
                                                · clear h; rcases ite_some hb76 with ⟨hp74, h⟩ | ⟨hp74, h⟩
                                                  · refine qx_skip (sees_f rfl rfl rfl rfl hp74) ?_
                                                    refine qx_skip (sees_f rfl rfl rfl rfl hp74) ?_
                                                    refine qx_skip (sees_f rfl rfl rfl rfl hp74) ?_
                                                    refine qx_skip (sees_f rfl rfl rfl rfl hp74) ?_
                                                    refine qx_skip (sees_f rfl rfl rfl rfl hp74) ?_
                                                    refine qx_skip (sees_f rfl rfl rfl rfl hp74) ?_
                                                    refine qx_skip (sees_f rfl rfl rfl rfl hp74) ?_
                                                    refine qx_skip (sees_f rfl rfl rfl rfl hp74) ?_
                                                    refine qx_skip (sees_f rfl rfl rfl rfl hp74) ?_
                                                    refine qx_skip (sees_f rfl rfl rfl rfl hp74) ?_
                                                    refine qx_skip (sees_f rfl rfl rfl rfl hp74) ?_
                                                    refine qx_y rfl (y_pick_tb (congrArg Value.bool hp74) rfl) ?_
                                                    obtain rfl := Option.some.inj h
                                                    exact key _ _ (keep (keep (keep (keep (keep (keep (keep (keep (keep (keep (keep (keep (keep (keep (keep (keep (keep (keep (keep (keep rfl rfl) rfl) rfl) rfl) rfl) rfl) rfl) rfl) rfl) rfl) rfl) rfl) rfl) rfl) rfl) rfl) rfl) rfl) rfl) rfl)
                                                  · refine qx_y (sees_t rfl rfl rfl rfl hp74) (y_move_slice rfl) ?_
                                                    refine qx_y (sees_t rfl rfl rfl rfl hp74) (y_move_int rfl) ?_
                                                    obtain ⟨hg83, h⟩ := guardO_some h
                                                    refine qx_y (sees_t rfl rfl rfl rfl hp74) (y_indexR sl_41 (by decide) hg83.1 hg83.2 (RdL.row 1 rfl) (encL_len cI_len rfl) rfl rfl) ?_
                                                    refine qx_y (sees_t rfl rfl rfl rfl hp74) (y_loadR1 (A := A13) (j := (Int.toNat s40.2 * 1)) (v := .int .i64 (rdL y11.1 s40.2)) sc_3 (RdL.row 1 rfl) rfl (encL_get0 cI_len hg83.1 (lt_nat hg83.2 rfl) rfl)) ?_
                                                    refine qx_y (sees_t rfl rfl rfl rfl hp74) (y_move_slice rfl) ?_
                                                    refine qx_y (sees_t rfl rfl rfl rfl hp74) (y_move_int rfl) ?_
                                                    obtain ⟨hg84, h⟩ := guardO_some h
                                                    refine qx_y (sees_t rfl rfl rfl rfl hp74) (y_indexR sl_41 (by decide) hg84.1 hg84.2 (RdL.row 1 rfl) (encL_len cI_len rfl) rfl rfl) ?_
                                                    refine qx_y (sees_t rfl rfl rfl rfl hp74) (y_loadR1 (A := A13) (j := (Int.toNat s67.2 * 1)) (v := .int .i64 (rdL y11.1 s67.2)) sc_3 (RdL.row 1 rfl) rfl (encL_get0 cI_len hg84.1 (lt_nat hg84.2 rfl) rfl)) ?_
                                                    refine qx_y (sees_t rfl rfl rfl rfl hp74) (y_move_int rfl) ?_
                                                    refine qx_y (sees_t rfl rfl rfl rfl hp74) (y_add rfl rfl) ?_
                                                    refine qx_y (sees_t rfl rfl rfl rfl hp74) (y_gtr rfl rfl) ?_
                                                    refine qx_y rfl (y_pick_fb (congrArg Value.bool hp74) rfl) ?_
                                                    obtain rfl := Option.some.inj h
                                                    exact key _ _ (keep (keep (keep (keep (keep (keep (keep (keep (keep (keep (keep (keep (keep (keep (keep (keep (keep (keep (keep (keep rfl rfl) rfl) rfl) rfl) rfl) rfl) rfl) rfl) rfl) rfl) rfl) rfl) rfl) rfl) rfl) rfl) rfl) rfl) rfl) rfl)
                                              · refine cx_false (congrArg Value.bool hp69) ?_
                                                refine cx_exit ?_
                                                refine ex_then_exit ?_
                                                obtain rfl := Option.some.inj h
                                                exact ex_stop ⟨rfl, _, rfl, (keep (keep (keep (keep (keep (keep (keep (keep (keep (keep (keep (keep (keep (keep (keep (keep rfl rfl) rfl) rfl) rfl) rfl) rfl) rfl) rfl) rfl) rfl) rfl) rfl) rfl) rfl) rfl) rfl)⟩
                                            · intro e L tm hJ
                                              rcases u68 with u86 | u87
                                              · dsimp only at h hJ
                                                obtain ⟨rfl, tm0_u86, rfl, rfl⟩ := hJ
                                                refine ⟨(by intro hc; cases hc), ?_⟩
                                                refine ex_block_ret ?_
                                                refine ex_block_ret ?_
                                                refine ex_then_ret ?_
                                                refine ex_take 3 ?_
                                                obtain rfl := Option.some.inj h
                                                exact ex_stop ⟨rfl, _, rfl, (keep (keep (keep (keep (keep (keep (keep (keep (keep (keep rfl rfl) rfl) rfl) rfl) rfl) rfl) rfl) rfl) rfl) rfl)⟩
                                              · dsimp only at h hJ
                                                obtain ⟨rfl, tm0_u87, rfl, rfl⟩ := hJ
                                                refine ⟨(by intro hc; cases hc), ?_⟩
                                                refine ex_block_here ?_
                                                refine ex_block ?_
                                                refine ex_then ?_
                                                refine cx_region ?_
                                                refine ox_y rfl (y_move_int rfl) ?_
                                                refine ox_y rfl (y_add rfl rfl) ?_
                                                refine ox_y rfl (y_assign_int rfl) ?_
                                                refine ox_nil ?_
                                                refine ex_take 3 ?_
                                                obtain rfl := Option.some.inj h
                                                exact ex_next ⟨_, rfl, (keep (keep (keep (keep (keep (keep (keep (keep (keep (keep rfl rfl) rfl) rfl) rfl) rfl) rfl) rfl) rfl) rfl) rfl)⟩
                                        · clear h; rcases ite_some hb64 with ⟨hp62, h⟩ | ⟨hp62, h⟩
                                          · refine qx_y (sees_t rfl rfl rfl rfl hp62) (y_move_slice rfl) ?_
                                            refine qx_y (sees_t rfl rfl rfl rfl hp62) (y_move_int rfl) ?_
                                            obtain ⟨hg88, h⟩ := guardO_some h
                                            refine qx_y (sees_t rfl rfl rfl rfl hp62) (y_indexR sl_41 (by decide) hg88.1 hg88.2 (RdL.arg hr2_0) (encL_len cI_len rfl) rfl rfl) ?_
                                            refine qx_y (sees_t rfl rfl rfl rfl hp62) (y_loadR1 (A := A2_0) (j := (Int.toNat s40.2 * 1)) (v := .int .i64 (rdL p2 s40.2)) sc_3 (RdL.arg hr2_0) rfl (encL_get0 cI_len hg88.1 (lt_nat hg88.2 rfl) rfl)) ?_
                                            refine qx_y (sees_t rfl rfl rfl rfl hp62) (y_move_slice rfl) ?_
                                            refine qx_y (sees_t rfl rfl rfl rfl hp62) (y_move_int rfl) ?_
                                            obtain ⟨hg89, h⟩ := guardO_some h
                                            refine qx_y (sees_t rfl rfl rfl rfl hp62) (y_indexR sl_41 (by decide) hg89.1 hg89.2 (RdL.row 1 rfl) (encL_len cI_len rfl) rfl rfl) ?_
                                            refine qx_y (sees_t rfl rfl rfl rfl hp62) (y_loadR1 (A := A13) (j := (Int.toNat s40.2 * 1)) (v := .int .i64 (rdL y11.1 s40.2)) sc_3 (RdL.row 1 rfl) rfl (encL_get0 cI_len hg89.1 (lt_nat hg89.2 rfl) rfl)) ?_
                                            refine qx_y (sees_t rfl rfl rfl rfl hp62) (y_lss rfl rfl) ?_
                                            refine qx_y (sees_t rfl rfl rfl rfl hp62) (y_move_bool rfl) ?_
                                            obtain ⟨b91, hb92, h⟩ := bind_some h
                                            refine qx_join 10 (fun tm0 => (upd (upd (upd (upd (upd (upd (upd (upd (upd (upd (upd (upd (upd (upd (upd (upd tm0 1 (.slice A1_0 p1.length c1_0)) 2 (.slice A2_0 p2.length c2_0)) 3 (.pointer (some ⟨b1, 0, none⟩))) 6 (.bool s40.1)) 7 (.slice A13 y11.1.length c14)) 9 (.slice A19 y17.1.length c20)) 15 (.bool y31.1)) 16 (.int .i64 y31.2)) 103 (.bool ((((((((y11.1.length : Nat) : Int) != ((p1.length : Nat) : Int)) || (((y17.1.length : Nat) : Int) != ((p1.length : Nat) : Int))) || (y27.2 != 0)) || (y29.2 != 0)) || (!y27.1)) || (!y29.1)))) 17 (.int .i64 s40.2)) 107 (.bool (decide (s40.2 < ((p1.length : Nat) : Int))))) 18 (.pointer (some ⟨(ξ43 9 0).2.1, 0, none⟩))) 19 (.int .i64 y45.2)) 161 (.bool b58)) 167 (.bool ((y31.2 == 0) && y31.1))) 187 (.bool b91))) (fun tm0 => ?_) (fun key => ?_)
                                            · refine qx_y rfl (y_pick_tb (congrArg Value.bool hp62) rfl) ?_
                                              obtain rfl := Option.some.inj h
                                              exact key _ _ (keep (keep (keep (keep (keep (keep (keep (keep (keep (keep (keep (keep (keep (keep (keep rfl rfl) rfl) rfl) rfl) rfl) rfl) rfl) rfl) rfl) rfl) rfl) rfl) rfl) rfl) rfl)
                                            · clear h; rcases ite_some hb92 with ⟨hp90, h⟩ | ⟨hp90, h⟩
                                              · refine qx_skip (sees_f rfl rfl rfl rfl hp90) ?_
                                                refine qx_skip (sees_f rfl rfl rfl rfl hp90) ?_
                                                refine qx_skip (sees_f rfl rfl rfl rfl hp90) ?_
                                                refine qx_skip (sees_f rfl rfl rfl rfl hp90) ?_
                                                refine qx_skip (sees_f rfl rfl rfl rfl hp90) ?_
                                                refine qx_skip (sees_f rfl rfl rfl rfl hp90) ?_
                                                refine qx_skip (sees_f rfl rfl rfl rfl hp90) ?_
                                                refine qx_skip (sees_f rfl rfl rfl rfl hp90) ?_
                                                refine qx_skip (sees_f rfl rfl rfl rfl hp90) ?_
                                                refine qx_y (sees_t rfl rfl rfl rfl hp62) (y_pick_tb (congrArg Value.bool hp90) rfl) ?_
                                                obtain rfl := Option.some.inj h
                                                exact key _ _ (keep (keep (keep (keep (keep (keep (keep (keep (keep (keep (keep (keep (keep (keep (keep (keep rfl rfl) rfl) rfl) rfl) rfl) rfl) rfl) rfl) rfl) rfl) rfl) rfl) rfl) rfl) rfl) rfl)
                                              · refine qx_y (sees_t rfl rfl rfl rfl hp90) (y_move_slice rfl) ?_
                                                refine qx_y (sees_t rfl rfl rfl rfl hp90) (y_move_int rfl) ?_
                                                obtain ⟨hg93, h⟩ := guardO_some h
                                                refine qx_y (sees_t rfl rfl rfl rfl hp90) (y_indexR sl_41 (by decide) hg93.1 hg93.2 (RdL.arg hr2_0) (encL_len cI_len rfl) rfl rfl) ?_
                                                refine qx_y (sees_t rfl rfl rfl rfl hp90) (y_loadR1 (A := A2_0) (j := (Int.toNat s40.2 * 1)) (v := .int .i64 (rdL p2 s40.2)) sc_3 (RdL.arg hr2_0) rfl (encL_get0 cI_len hg93.1 (lt_nat hg93.2 rfl) rfl)) ?_
                                                refine qx_y (sees_t rfl rfl rfl rfl hp90) (y_move_slice rfl) ?_
                                                refine qx_y (sees_t rfl rfl rfl rfl hp90) (y_move_int rfl) ?_
                                                obtain ⟨hg94, h⟩ := guardO_some h
                                                refine qx_y (sees_t rfl rfl rfl rfl hp90) (y_indexR sl_41 (by decide) hg94.1 hg94.2 (RdL.row 2 rfl) (encL_len cI_len rfl) rfl rfl) ?_
                                                refine qx_y (sees_t rfl rfl rfl rfl hp90) (y_loadR1 (A := A19) (j := (Int.toNat s40.2 * 1)) (v := .int .i64 (rdL y17.1 s40.2)) sc_3 (RdL.row 2 rfl) rfl (encL_get0 cI_len hg94.1 (lt_nat hg94.2 rfl) rfl)) ?_
                                                refine qx_y (sees_t rfl rfl rfl rfl hp90) (y_gtr rfl rfl) ?_
                                                refine qx_y (sees_t rfl rfl rfl rfl hp62) (y_pick_fb (congrArg Value.bool hp90) rfl) ?_
                                                obtain rfl := Option.some.inj h
                                                exact key _ _ (keep (keep (keep (keep (keep (keep (keep (keep (keep (keep (keep (keep (keep (keep (keep (keep rfl rfl) rfl) rfl) rfl) rfl) rfl) rfl) rfl) rfl) rfl) rfl) rfl) rfl) rfl) rfl) rfl)
                                          · refine qx_skip (sees_f rfl rfl rfl rfl hp62) ?_
                                            refine qx_skip (sees_f rfl rfl rfl rfl hp62) ?_
                                            refine qx_skip (sees_f rfl rfl rfl rfl hp62) ?_
                                            refine qx_skip (sees_f rfl rfl rfl rfl hp62) ?_
                                            refine qx_skip (sees_f rfl rfl rfl rfl hp62) ?_
                                            refine qx_skip (sees_f rfl rfl rfl rfl hp62) ?_
                                            refine qx_skip (sees_f rfl rfl rfl rfl hp62) ?_
                                            refine qx_skip (sees_f rfl rfl rfl rfl hp62) ?_
                                            refine qx_skip (sees_f rfl rfl rfl rfl hp62) ?_
                                            refine qx_skip (sees_f rfl rfl rfl rfl hp62) ?_
                                            refine qx_skip rfl ?_
                                            refine qx_skip rfl ?_
                                            refine qx_skip rfl ?_
                                            refine qx_skip rfl ?_
                                            refine qx_skip rfl ?_
                                            refine qx_skip rfl ?_
                                            refine qx_skip rfl ?_
                                            refine qx_skip rfl ?_
                                            refine qx_skip rfl ?_
                                            refine qx_skip (sees_f rfl rfl rfl rfl hp62) ?_
                                            refine qx_y rfl (y_pick_fb (congrArg Value.bool hp62) rfl) ?_
                                            obtain rfl := Option.some.inj h
                                            exact key _ _ (keep (keep (keep (keep (keep (keep (keep (keep (keep (keep (keep (keep (keep (keep (keep rfl rfl) rfl) rfl) rfl) rfl) rfl) rfl) rfl) rfl) rfl) rfl) rfl) rfl) rfl) rfl)
                                      · rcases bool_cases (y31.2 == 0) with hp61 | hp61
                                        · refine qx_y (sees_t rfl rfl rfl rfl hp61) (y_move_bool rfl) ?_
                                          refine qx_y rfl (y_pick_tb (congrArg Value.bool hp61) rfl) ?_
                                          exact key _ _ (keep (keep (keep (keep (keep (keep (keep (keep (keep (keep (keep (keep (keep (keep (keep rfl rfl) rfl) rfl) rfl) rfl) rfl) rfl) rfl) rfl) rfl) rfl) rfl) rfl) rfl) (congrArg Value.bool (and_t hp61)))
                                        · refine qx_skip (sees_f rfl rfl rfl rfl hp61) ?_
                                          refine qx_y rfl (y_pick_fb (congrArg Value.bool hp61) rfl) ?_
                                          exact key _ _ (keep (keep (keep (keep (keep (keep (keep (keep (keep (keep (keep (keep (keep (keep (keep rfl rfl) rfl) rfl) rfl) rfl) rfl) rfl) rfl) rfl) rfl) rfl) rfl) rfl) rfl) (congrArg Value.bool (and_f hp61)))
                                  · clear h; rcases ite_some hb59 with ⟨hp57, h⟩ | ⟨hp57, h⟩
                                    · refine qx_skip (sees_f rfl rfl rfl rfl hp57) ?_
                                      refine qx_skip (sees_f rfl rfl rfl rfl hp57) ?_
                                      refine qx_skip (sees_f rfl rfl rfl rfl hp57) ?_
                                      refine qx_skip (sees_f rfl rfl rfl rfl hp57) ?_
                                      refine qx_skip (sees_f rfl rfl rfl rfl hp57) ?_
                                      refine qx_skip (sees_f rfl rfl rfl rfl hp57) ?_
                                      refine qx_skip (sees_f rfl rfl rfl rfl hp57) ?_
                                      refine qx_skip (sees_f rfl rfl rfl rfl hp57) ?_
                                      refine qx_y rfl (y_pick_tb (congrArg Value.bool hp57) rfl) ?_
                                      obtain rfl := Option.some.inj h
                                      exact key _ _ (keep (keep (keep (keep (keep (keep (keep (keep (keep (keep (keep (keep (keep (keep rfl rfl) rfl) rfl) rfl) rfl) rfl) rfl) rfl) rfl) rfl) rfl) rfl) rfl) rfl)
                                    · refine qx_y (sees_t rfl rfl rfl rfl hp57) (y_loadN 0 [.int .i64 p0.fRise, .int .i64 p0.fFall, .int .i64 p0.fUp, .int .i64 p0.fDown, .slice A0_4 p0.fLooks.length c0_4] ag_24 rfl rfl rfl) ?_
                                      refine qx_y (sees_t rfl rfl rfl rfl hp57) (y_move_slice rfl) ?_
                                      refine qx_y (sees_t rfl rfl rfl rfl hp57) (y_move_int rfl) ?_
                                      obtain ⟨hg95, h⟩ := guardO_some h
                                      refine qx_y (sees_t rfl rfl rfl rfl hp57) (y_indexR sl_46 (by decide) hg95.1 hg95.2 (RdL.arg hr1_0) (encL_len TSpot_cells_len rfl) rfl rfl) ?_
                                      refine qx_y (sees_t rfl rfl rfl rfl hp57) (y_loadRN (A := A1_0) (j := (Int.toNat s40.2 * 2)) [.int .i64 ((rdL p1 s40.2).fFoot), .int .i64 ((rdL p1 s40.2).fHour)] ag_26 (Nat.succ_pos _) (RdL.arg hr1_0) rfl (encL_gets TSpot_cells_len hg95.1 (lt_nat hg95.2 rfl))) ?_
                                      refine qx_y (sees_t rfl rfl rfl rfl hp57) (y_loadN 3 [.int .i64 y45.1.fSpan.fLo, .int .i64 y45.1.fSpan.fHi, .int .i64 y45.1.fLow, .int .i64 y45.1.fHigh] ag_36 rfl rfl rfl) ?_
                                      obtain ⟨y96, hy97, h⟩ := bind_some h
                                      refine qx_y (sees_t rfl rfl rfl rfl hp57) (y_call [.agg #[.int .i64 p0.fRise, .int .i64 p0.fFall, .int .i64 p0.fUp, .int .i64 p0.fDown, .slice A0_4 p0.fLooks.length c0_4], .agg #[.int .i64 ((rdL p1 s40.2).fFoot), .int .i64 ((rdL p1 s40.2).fHour)], .agg #[.int .i64 y45.1.fSpan.fLo, .int .i64 y45.1.fSpan.fHi, .int .i64 y45.1.fLow, .int .i64 y45.1.fHigh]] go_49 rfl (fun W2 hW2 => fire_CheckEnds_ok p0 (TSpot.mk ((rdL p1 s40.2).fFoot) ((rdL p1 s40.2).fHour)) y45.1 y96 hy97 W2 A0_4 p0.fLooks.length c0_4 rfl ((RdL.arg hr0_4) W2 hW2)) rfl) ?_
                                      refine qx_y (sees_t rfl rfl rfl rfl hp57) (y_neq rfl rfl) ?_
                                      refine qx_y rfl (y_pick_fb (congrArg Value.bool hp57) rfl) ?_
                                      obtain rfl := Option.some.inj h
                                      exact key _ _ (keep (keep (keep (keep (keep (keep (keep (keep (keep (keep (keep (keep (keep (keep rfl rfl) rfl) rfl) rfl) rfl) rfl) rfl) rfl) rfl) rfl) rfl) rfl) rfl) rfl)
                                · clear h; rcases ite_some hb56 with ⟨hp54, h⟩ | ⟨hp54, h⟩
                                  · refine qx_skip (sees_f rfl rfl rfl rfl hp54) ?_
                                    refine qx_skip (sees_f rfl rfl rfl rfl hp54) ?_
                                    refine qx_skip (sees_f rfl rfl rfl rfl hp54) ?_
                                    refine qx_skip (sees_f rfl rfl rfl rfl hp54) ?_
                                    refine qx_skip (sees_f rfl rfl rfl rfl hp54) ?_
                                    refine qx_skip (sees_f rfl rfl rfl rfl hp54) ?_
                                    refine qx_skip (sees_f rfl rfl rfl rfl hp54) ?_
                                    refine qx_skip (sees_f rfl rfl rfl rfl hp54) ?_
                                    refine qx_skip (sees_f rfl rfl rfl rfl hp54) ?_
                                    refine qx_y rfl (y_pick_tb (congrArg Value.bool hp54) rfl) ?_
                                    obtain rfl := Option.some.inj h
                                    exact key _ _ (keep (keep (keep (keep (keep (keep (keep (keep (keep (keep (keep (keep (keep (keep rfl rfl) rfl) rfl) rfl) rfl) rfl) rfl) rfl) rfl) rfl) rfl) rfl) rfl) rfl)
                                  · refine qx_y (sees_t rfl rfl rfl rfl hp54) (y_move_slice rfl) ?_
                                    refine qx_y (sees_t rfl rfl rfl rfl hp54) (y_move_int rfl) ?_
                                    obtain ⟨hg98, h⟩ := guardO_some h
                                    refine qx_y (sees_t rfl rfl rfl rfl hp54) (y_indexR sl_41 (by decide) hg98.1 hg98.2 (RdL.row 1 rfl) (encL_len cI_len rfl) rfl rfl) ?_
                                    refine qx_y (sees_t rfl rfl rfl rfl hp54) (y_loadR1 (A := A13) (j := (Int.toNat s40.2 * 1)) (v := .int .i64 (rdL y11.1 s40.2)) sc_3 (RdL.row 1 rfl) rfl (encL_get0 cI_len hg98.1 (lt_nat hg98.2 rfl) rfl)) ?_
                                    refine qx_y (sees_t rfl rfl rfl rfl hp54) (y_move_slice rfl) ?_
                                    refine qx_y (sees_t rfl rfl rfl rfl hp54) (y_move_int rfl) ?_
                                    obtain ⟨hg99, h⟩ := guardO_some h
                                    refine qx_y (sees_t rfl rfl rfl rfl hp54) (y_indexR sl_41 (by decide) hg99.1 hg99.2 (RdL.row 2 rfl) (encL_len cI_len rfl) rfl rfl) ?_
                                    refine qx_y (sees_t rfl rfl rfl rfl hp54) (y_loadR1 (A := A19) (j := (Int.toNat s40.2 * 1)) (v := .int .i64 (rdL y17.1 s40.2)) sc_3 (RdL.row 2 rfl) rfl (encL_get0 cI_len hg99.1 (lt_nat hg99.2 rfl) rfl)) ?_
                                    refine qx_y (sees_t rfl rfl rfl rfl hp54) (y_gtr rfl rfl) ?_
                                    refine qx_y rfl (y_pick_fb (congrArg Value.bool hp54) rfl) ?_
                                    obtain rfl := Option.some.inj h
                                    exact key _ _ (keep (keep (keep (keep (keep (keep (keep (keep (keep (keep (keep (keep (keep (keep rfl rfl) rfl) rfl) rfl) rfl) rfl) rfl) rfl) rfl) rfl) rfl) rfl) rfl) rfl)
                              · clear h; rcases ite_some hb53 with ⟨hp51, h⟩ | ⟨hp51, h⟩
                                · refine qx_skip (sees_f rfl rfl rfl rfl hp51) ?_
                                  refine qx_skip (sees_f rfl rfl rfl rfl hp51) ?_
                                  refine qx_skip (sees_f rfl rfl rfl rfl hp51) ?_
                                  refine qx_skip (sees_f rfl rfl rfl rfl hp51) ?_
                                  refine qx_skip (sees_f rfl rfl rfl rfl hp51) ?_
                                  refine qx_skip (sees_f rfl rfl rfl rfl hp51) ?_
                                  refine qx_skip (sees_f rfl rfl rfl rfl hp51) ?_
                                  refine qx_skip (sees_f rfl rfl rfl rfl hp51) ?_
                                  refine qx_y rfl (y_pick_tb (congrArg Value.bool hp51) rfl) ?_
                                  obtain rfl := Option.some.inj h
                                  exact key _ _ (keep (keep (keep (keep (keep (keep (keep (keep (keep (keep (keep (keep (keep (keep rfl rfl) rfl) rfl) rfl) rfl) rfl) rfl) rfl) rfl) rfl) rfl) rfl) rfl) rfl)
                                · refine qx_y (sees_t rfl rfl rfl rfl hp51) (y_fieldAddr fo_36_0 rfl) ?_
                                  refine qx_y (sees_t rfl rfl rfl rfl hp51) (y_fieldAddr fo_32_1 rfl) ?_
                                  refine qx_y (sees_t rfl rfl rfl rfl hp51) (y_load1 3 (v := .int .i64 y45.1.fSpan.fHi) sc_3 rfl rfl rfl) ?_
                                  refine qx_y (sees_t rfl rfl rfl rfl hp51) (y_move_slice rfl) ?_
                                  refine qx_y (sees_t rfl rfl rfl rfl hp51) (y_move_int rfl) ?_
                                  obtain ⟨hg100, h⟩ := guardO_some h
                                  refine qx_y (sees_t rfl rfl rfl rfl hp51) (y_indexR sl_41 (by decide) hg100.1 hg100.2 (RdL.row 2 rfl) (encL_len cI_len rfl) rfl rfl) ?_
                                  refine qx_y (sees_t rfl rfl rfl rfl hp51) (y_loadR1 (A := A19) (j := (Int.toNat s40.2 * 1)) (v := .int .i64 (rdL y17.1 s40.2)) sc_3 (RdL.row 2 rfl) rfl (encL_get0 cI_len hg100.1 (lt_nat hg100.2 rfl) rfl)) ?_
                                  refine qx_y (sees_t rfl rfl rfl rfl hp51) (y_neq rfl rfl) ?_
                                  refine qx_y rfl (y_pick_fb (congrArg Value.bool hp51) rfl) ?_
                                  obtain rfl := Option.some.inj h
                                  exact key _ _ (keep (keep (keep (keep (keep (keep (keep (keep (keep (keep (keep (keep (keep (keep rfl rfl) rfl) rfl) rfl) rfl) rfl) rfl) rfl) rfl) rfl) rfl) rfl) rfl) rfl)
                            · clear h; rcases ite_some hb50 with ⟨hp48, h⟩ | ⟨hp48, h⟩
                              · refine qx_skip (sees_f rfl rfl rfl rfl hp48) ?_
                                refine qx_skip (sees_f rfl rfl rfl rfl hp48) ?_
                                refine qx_skip (sees_f rfl rfl rfl rfl hp48) ?_
                                refine qx_skip (sees_f rfl rfl rfl rfl hp48) ?_
                                refine qx_skip (sees_f rfl rfl rfl rfl hp48) ?_
                                refine qx_skip (sees_f rfl rfl rfl rfl hp48) ?_
                                refine qx_skip (sees_f rfl rfl rfl rfl hp48) ?_
                                refine qx_skip (sees_f rfl rfl rfl rfl hp48) ?_
                                refine qx_y rfl (y_pick_tb (congrArg Value.bool hp48) rfl) ?_
                                obtain rfl := Option.some.inj h
                                exact key _ _ (keep (keep (keep (keep (keep (keep (keep (keep (keep (keep (keep (keep (keep (keep rfl rfl) rfl) rfl) rfl) rfl) rfl) rfl) rfl) rfl) rfl) rfl) rfl) rfl) rfl)
                              · refine qx_y (sees_t rfl rfl rfl rfl hp48) (y_fieldAddr fo_36_0 rfl) ?_
                                refine qx_y (sees_t rfl rfl rfl rfl hp48) (y_fieldAddr fo_32_0 rfl) ?_
                                refine qx_y (sees_t rfl rfl rfl rfl hp48) (y_load1 3 (v := .int .i64 y45.1.fSpan.fLo) sc_3 rfl rfl rfl) ?_
                                refine qx_y (sees_t rfl rfl rfl rfl hp48) (y_move_slice rfl) ?_
                                refine qx_y (sees_t rfl rfl rfl rfl hp48) (y_move_int rfl) ?_
                                obtain ⟨hg101, h⟩ := guardO_some h
                                refine qx_y (sees_t rfl rfl rfl rfl hp48) (y_indexR sl_41 (by decide) hg101.1 hg101.2 (RdL.row 1 rfl) (encL_len cI_len rfl) rfl rfl) ?_
                                refine qx_y (sees_t rfl rfl rfl rfl hp48) (y_loadR1 (A := A13) (j := (Int.toNat s40.2 * 1)) (v := .int .i64 (rdL y11.1 s40.2)) sc_3 (RdL.row 1 rfl) rfl (encL_get0 cI_len hg101.1 (lt_nat hg101.2 rfl) rfl)) ?_
                                refine qx_y (sees_t rfl rfl rfl rfl hp48) (y_neq rfl rfl) ?_
                                refine qx_y rfl (y_pick_fb (congrArg Value.bool hp48) rfl) ?_
                                obtain rfl := Option.some.inj h
                                exact key _ _ (keep (keep (keep (keep (keep (keep (keep (keep (keep (keep (keep (keep (keep (keep rfl rfl) rfl) rfl) rfl) rfl) rfl) rfl) rfl) rfl) rfl) rfl) rfl) rfl) rfl)
                          · refine cx_false (congrArg Value.bool hp42) ?_
                            refine cx_exit ?_
                            refine ex_then_exit ?_
                            obtain rfl := Option.some.inj h
                            exact ex_stop ⟨rfl, _, rfl, (keep (keep (keep (keep (keep (keep (keep (keep (keep (keep rfl rfl) rfl) rfl) rfl) rfl) rfl) rfl) rfl) rfl) rfl)⟩
                        · intro e L tm hJ
                          rcases u41 with u103 | u104
                          · dsimp only at h hJ
                            obtain ⟨rfl, tm0_u103, rfl, rfl⟩ := hJ
                            refine ⟨(by intro hc; cases hc), ?_⟩
                            refine ex_block_ret ?_
                            refine ex_then_ret ?_
                            obtain rfl := Option.some.inj h
                            exact ex_res1 (.inl rfl) rfl (resV_tmp (v := .bool u103.1) rfl) (fun W2 hW2 => ⟨rfl, hW2.none⟩)
                          · dsimp only at h hJ
                            obtain ⟨rfl, tm0_u104, rfl, rfl⟩ := hJ
                            refine ⟨(by intro hc; cases hc), ?_⟩
                            refine ex_block_here ?_
                            refine ex_then ?_
                            refine cx_seq ?_
                            refine cx_region ?_
                            obtain ⟨y105, hy106, h⟩ := bind_some h
                            refine ox_y rfl (y_call [] go_13 rfl (fun W2 hW2 => calxlaw02_sanity_ok  y105 hy106 W2 ) rfl) ?_
                            refine ox_y rfl (y_assign_bool rfl) ?_
                            refine ox_nil ?_
                            refine ex_then ?_
                            refine cx_ret ?_
                            obtain rfl := Option.some.inj h
                            exact ex_res1 (.inl rfl) rfl (resV_tmp (v := .bool y105) rfl) (fun W2 hW2 => ⟨rfl, hW2.none⟩)
                    · rcases bool_cases (((((((y11.1.length : Nat) : Int) != ((p1.length : Nat) : Int)) || (((y17.1.length : Nat) : Int) != ((p1.length : Nat) : Int))) || (y27.2 != 0)) || (y29.2 != 0)) || (!y27.1)) with hp37 | hp37
                      · refine ox_skip (sees_f rfl rfl rfl rfl hp37) ?_
                        refine ox_skip (sees_f rfl rfl rfl rfl hp37) ?_
                        refine ox_y rfl (y_pick_tb (congrArg Value.bool hp37) rfl) ?_
                        exact key _ _ (keep (keep (keep (keep (keep (keep (keep (keep (keep rfl rfl) rfl) rfl) rfl) rfl) rfl) rfl) rfl) (congrArg Value.bool (or_t hp37)))
                      · refine ox_y (sees_t rfl rfl rfl rfl hp37) (y_move_bool rfl) ?_
                        refine ox_y (sees_t rfl rfl rfl rfl hp37) (y_not rfl) ?_
                        refine ox_y rfl (y_pick_fb (congrArg Value.bool hp37) rfl) ?_
                        exact key _ _ (keep (keep (keep (keep (keep (keep (keep (keep (keep rfl rfl) rfl) rfl) rfl) rfl) rfl) rfl) rfl) (congrArg Value.bool (or_f hp37)))
                  · rcases bool_cases ((((((y11.1.length : Nat) : Int) != ((p1.length : Nat) : Int)) || (((y17.1.length : Nat) : Int) != ((p1.length : Nat) : Int))) || (y27.2 != 0)) || (y29.2 != 0)) with hp36 | hp36
                    · refine ox_skip (sees_f rfl rfl rfl rfl hp36) ?_
                      refine ox_skip (sees_f rfl rfl rfl rfl hp36) ?_
                      refine ox_y rfl (y_pick_tb (congrArg Value.bool hp36) rfl) ?_
                      exact key _ _ (keep (keep (keep (keep (keep (keep (keep (keep (keep (keep rfl rfl) rfl) rfl) rfl) rfl) rfl) rfl) rfl) rfl) (congrArg Value.bool (or_t hp36)))
                    · refine ox_y (sees_t rfl rfl rfl rfl hp36) (y_move_bool rfl) ?_
                      refine ox_y (sees_t rfl rfl rfl rfl hp36) (y_not rfl) ?_
                      refine ox_y rfl (y_pick_fb (congrArg Value.bool hp36) rfl) ?_
                      exact key _ _ (keep (keep (keep (keep (keep (keep (keep (keep (keep (keep rfl rfl) rfl) rfl) rfl) rfl) rfl) rfl) rfl) rfl) (congrArg Value.bool (or_f hp36)))
                · rcases bool_cases (((((y11.1.length : Nat) : Int) != ((p1.length : Nat) : Int)) || (((y17.1.length : Nat) : Int) != ((p1.length : Nat) : Int))) || (y27.2 != 0)) with hp35 | hp35
                  · refine ox_skip (sees_f rfl rfl rfl rfl hp35) ?_
                    refine ox_skip (sees_f rfl rfl rfl rfl hp35) ?_
                    refine ox_y rfl (y_pick_tb (congrArg Value.bool hp35) rfl) ?_
                    exact key _ _ (keep (keep (keep (keep (keep (keep (keep (keep (keep (keep (keep rfl rfl) rfl) rfl) rfl) rfl) rfl) rfl) rfl) rfl) rfl) (congrArg Value.bool (or_t hp35)))
                  · refine ox_y (sees_t rfl rfl rfl rfl hp35) (y_move_int rfl) ?_
                    refine ox_y (sees_t rfl rfl rfl rfl hp35) (y_neq rfl rfl) ?_
                    refine ox_y rfl (y_pick_fb (congrArg Value.bool hp35) rfl) ?_
                    exact key _ _ (keep (keep (keep (keep (keep (keep (keep (keep (keep (keep (keep rfl rfl) rfl) rfl) rfl) rfl) rfl) rfl) rfl) rfl) rfl) (congrArg Value.bool (or_f hp35)))
              · rcases bool_cases ((((y11.1.length : Nat) : Int) != ((p1.length : Nat) : Int)) || (((y17.1.length : Nat) : Int) != ((p1.length : Nat) : Int))) with hp34 | hp34
                · refine ox_skip (sees_f rfl rfl rfl rfl hp34) ?_
                  refine ox_skip (sees_f rfl rfl rfl rfl hp34) ?_
                  refine ox_y rfl (y_pick_tb (congrArg Value.bool hp34) rfl) ?_
                  exact key _ _ (keep (keep (keep (keep (keep (keep (keep (keep (keep (keep (keep (keep rfl rfl) rfl) rfl) rfl) rfl) rfl) rfl) rfl) rfl) rfl) rfl) (congrArg Value.bool (or_t hp34)))
                · refine ox_y (sees_t rfl rfl rfl rfl hp34) (y_move_int rfl) ?_
                  refine ox_y (sees_t rfl rfl rfl rfl hp34) (y_neq rfl rfl) ?_
                  refine ox_y rfl (y_pick_fb (congrArg Value.bool hp34) rfl) ?_
                  exact key _ _ (keep (keep (keep (keep (keep (keep (keep (keep (keep (keep (keep (keep rfl rfl) rfl) rfl) rfl) rfl) rfl) rfl) rfl) rfl) rfl) rfl) (congrArg Value.bool (or_f hp34)))
            · rcases bool_cases (((y11.1.length : Nat) : Int) != ((p1.length : Nat) : Int)) with hp33 | hp33
              · refine ox_skip (sees_f rfl rfl rfl rfl hp33) ?_
                refine ox_skip (sees_f rfl rfl rfl rfl hp33) ?_
                refine ox_skip (sees_f rfl rfl rfl rfl hp33) ?_
                refine ox_skip (sees_f rfl rfl rfl rfl hp33) ?_
                refine ox_skip (sees_f rfl rfl rfl rfl hp33) ?_
                refine ox_y rfl (y_pick_tb (congrArg Value.bool hp33) rfl) ?_
                exact key _ _ (keep (keep (keep (keep (keep (keep (keep (keep (keep (keep (keep (keep (keep rfl rfl) rfl) rfl) rfl) rfl) rfl) rfl) rfl) rfl) rfl) rfl) rfl) (congrArg Value.bool (or_t hp33)))
              · refine ox_y (sees_t rfl rfl rfl rfl hp33) (y_move_slice rfl) ?_
                refine ox_y (sees_t rfl rfl rfl rfl hp33) (y_len (us := []) us_41 rfl) ?_
                refine ox_y (sees_t rfl rfl rfl rfl hp33) (y_move_slice rfl) ?_
                refine ox_y (sees_t rfl rfl rfl rfl hp33) (y_len (us := []) us_46 rfl) ?_
                refine ox_y (sees_t rfl rfl rfl rfl hp33) (y_neq rfl rfl) ?_
                refine ox_y rfl (y_pick_fb (congrArg Value.bool hp33) rfl) ?_
                exact key _ _ (keep (keep (keep (keep (keep (keep (keep (keep (keep (keep (keep (keep (keep rfl rfl) rfl) rfl) rfl) rfl) rfl) rfl) rfl) rfl) rfl) rfl) rfl) (congrArg Value.bool (or_f hp33)))
    · rcases bool_cases b5 with hp7 | hp7
      · refine ox_skip (sees_f rfl rfl rfl rfl hp7) ?_
        refine ox_skip (sees_f rfl rfl rfl rfl hp7) ?_
        refine ox_skip (sees_f rfl rfl rfl rfl hp7) ?_
        refine ox_y rfl (y_pick_tb (congrArg Value.bool hp7) rfl) ?_
        exact key _ _ (keep (keep (keep (keep (keep rfl rfl) rfl) rfl) rfl) (congrArg Value.bool (or_t hp7)))
      · refine ox_y (sees_t rfl rfl rfl rfl hp7) (y_move_slice rfl) ?_
        refine ox_y (sees_t rfl rfl rfl rfl hp7) (y_len (us := []) us_41 rfl) ?_
        refine ox_y (sees_t rfl rfl rfl rfl hp7) (y_gtr rfl rfl) ?_
        refine ox_y rfl (y_pick_fb (congrArg Value.bool hp7) rfl) ?_
        exact key _ _ (keep (keep (keep (keep (keep rfl rfl) rfl) rfl) rfl) (congrArg Value.bool (or_f hp7)))
  · clear h; rcases ite_some hb6 with ⟨hp4, h⟩ | ⟨hp4, h⟩
    · refine ox_skip (sees_f rfl rfl rfl rfl hp4) ?_
      refine ox_skip (sees_f rfl rfl rfl rfl hp4) ?_
      refine ox_skip (sees_f rfl rfl rfl rfl hp4) ?_
      refine ox_y rfl (y_pick_tb (congrArg Value.bool hp4) rfl) ?_
      obtain rfl := Option.some.inj h
      exact key _ _ (keep (keep (keep (keep (keep rfl rfl) rfl) rfl) rfl) rfl)
    · refine ox_y (sees_t rfl rfl rfl rfl hp4) (y_move_slice rfl) ?_
      obtain ⟨y107, hy108, h⟩ := bind_some h
      refine ox_y (sees_t rfl rfl rfl rfl hp4) (y_call [.slice A1_0 p1.length c1_0] go_46 rfl (fun W2 hW2 => calxlaw02_short_ok p1 y107 hy108 W2 A1_0 p1.length c1_0 rfl ((RdL.arg hr1_0) W2 hW2)) rfl) ?_
      refine ox_y (sees_t rfl rfl rfl rfl hp4) (y_not rfl) ?_
      refine ox_y rfl (y_pick_fb (congrArg Value.bool hp4) rfl) ?_
      obtain rfl := Option.some.inj h
      exact key _ _ (keep (keep (keep (keep (keep rfl rfl) rfl) rfl) rfl) rfl)

end Go.Proofs.Ytndajeiecdmhnaa
