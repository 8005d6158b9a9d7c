/- The calls hand back what the plain functions say. -/
import Derived.Test.YtndajeiecdmhnaaGreatF
import Derived.Test.YtndajeiecdmhnaaGreatC0
import Derived.Test.YtndajeiecdmhnaaGreatC2
import Derived.Test.YtndajeiecdmhnaaGreatC4
import Derived.Test.YtndajeiecdmhnaaGreatC7
import Derived.Test.YtndajeiecdmhnaaGreatC12
set_option linter.unusedVariables false
set_option maxHeartbeats 4000000
namespace Go.Proofs.YtndajeiecdmhnaaGreat
open Go.RowKit (Below)
attribute [local irreducible] OX QX CX EX OpY Calls CallsIn

/-! calx/calxlaw02.FireFields -/
set_option maxRecDepth 100000 in
theorem calxlaw02_FireFields_ok (p0 : TFire) (p1 : (List TSpot)) (p2 : (List Int)) (res : Bool) (h : calxlaw02_FireFields p0 p1 p2 = some res) (W : World) (A0_4 : Option Addr) (n0_4 c0_4 : Nat) (hn0_4 : n0_4 = p0.fLooks.length) (hr0_4 : Rd W A0_4 n0_4 c0_4 (encL TLook_cells p0.fLooks)) (A1_0 : Option Addr) (n1_0 c1_0 : Nat) (hn1_0 : n1_0 = p1.length) (hr1_0 : Rd W A1_0 n1_0 c1_0 (encL TSpot_cells p1)) (A2_0 : Option Addr) (n2_0 c2_0 : Nat) (hn2_0 : n2_0 = p2.length) (hr2_0 : Rd W A2_0 n2_0 c2_0 (encL cI p2)) :
    Calls Tryz.prog 5 [.agg #[.int .i64 p0.fRise, .int .i64 p0.fFall, .int .i64 p0.fUp, .int .i64 p0.fDown, .slice A0_4 n0_4 c0_4], .slice A1_0 n1_0 c1_0, .slice A2_0 n2_0 c2_0].toArray W fun e W2 => e = .returned (.bool res) ∧ Ext W W2 [] := by
  subst hn0_4
  subst hn1_0
  subst hn2_0
  unfold calxlaw02_FireFields at h
  refine calls_enter (m := 98) Tryz.func5 rfl rfl (Nat.le_of_ble_eq_true rfl) ?_
  refine cx_seq ?_
  refine cx_region ?_
  refine ox_box [.int .i64 p0.fRise, .int .i64 p0.fFall, .int .i64 p0.fUp, .int .i64 p0.fDown, .slice A0_4 p0.fLooks.length c0_4] rfl rfl rfl (fun b1 => ?_)
  refine ox_y rfl (y_assign_bool rfl) ?_
  refine ox_nil ?_
  refine ex_then ?_
  refine cx_seq ?_
  refine cx_seq ?_
  refine cx_region ?_
  refine ox_y rfl (y_loadN 0 [.int .i64 p0.fRise, .int .i64 p0.fFall, .int .i64 p0.fUp, .int .i64 p0.fDown, .slice A0_4 p0.fLooks.length c0_4] ag_24 rfl rfl rfl) ?_
  obtain ⟨y2, hy3, h⟩ := bind_some h
  refine ox_y rfl (y_call [.agg #[.int .i64 p0.fRise, .int .i64 p0.fFall, .int .i64 p0.fUp, .int .i64 p0.fDown, .slice A0_4 p0.fLooks.length c0_4]] go_6 rfl (fun W2 hW2 => calxlaw02_few_ok p0 y2 hy3 W2 A0_4 p0.fLooks.length c0_4 rfl ((RdL.arg hr0_4) W2 hW2)) rfl) ?_
  refine ox_y rfl (y_not rfl) ?_
  refine ox_y rfl (y_move_bool rfl) ?_
  obtain ⟨b5, hb6, h⟩ := bind_some h
  refine ox_join 4 (fun tm0 => (upd (upd (upd (upd (upd tm0 1 (.slice A1_0 p1.length c1_0)) 2 (.slice A2_0 p2.length c2_0)) 3 (.pointer (some ⟨b1, 0, none⟩))) 6 (.bool false)) 24 (.bool b5))) (fun tm0 => ?_) (fun key => ?_)
  · refine ox_y rfl (y_move_bool rfl) ?_
    refine ox_join 4 (fun tm0 => (upd (upd (upd (upd (upd tm0 1 (.slice A1_0 p1.length c1_0)) 2 (.slice A2_0 p2.length c2_0)) 3 (.pointer (some ⟨b1, 0, none⟩))) 6 (.bool false)) 29 (.bool (b5 || (decide (40 < ((p2.length : Nat) : Int))))))) (fun tm0 => ?_) (fun key => ?_)
    · refine ox_nil ?_
      refine ex_then ?_
      rcases ite_some h with ⟨hp8, h⟩ | ⟨hp8, h⟩
      · refine cx_true (congrArg Value.bool hp8) ?_
        refine cx_seq ?_
        refine cx_region ?_
        obtain ⟨y9, hy10, h⟩ := bind_some h
        refine ox_y rfl (y_call [] go_7 rfl (fun W2 hW2 => calxlaw02_sanity_ok  y9 hy10 W2 ) rfl) ?_
        refine ox_y rfl (y_assign_bool rfl) ?_
        refine ox_nil ?_
        refine ex_then ?_
        refine cx_ret ?_
        refine ex_then_ret ?_
        obtain rfl := Option.some.inj h
        exact ex_res1 (.inl rfl) rfl (resV_tmp (v := .bool y9) rfl) (fun W2 hW2 => ⟨rfl, hW2.none⟩)
      · refine cx_false (congrArg Value.bool hp8) ?_
        refine cx_skip ?_
        refine ex_then ?_
        refine cx_seq ?_
        refine cx_region ?_
        refine ox_y rfl (y_loadN 0 [.int .i64 p0.fRise, .int .i64 p0.fFall, .int .i64 p0.fUp, .int .i64 p0.fDown, .slice A0_4 p0.fLooks.length c0_4] ag_24 rfl rfl rfl) ?_
        refine ox_y rfl (y_move_slice rfl) ?_
        obtain ⟨y11, hy12, h⟩ := bind_some h
        refine ox_call [.agg #[.int .i64 p0.fRise, .int .i64 p0.fFall, .int .i64 p0.fUp, .int .i64 p0.fDown, .slice A0_4 p0.fLooks.length c0_4], .slice A1_0 p1.length c1_0] _ _ _ rfl go_22 rfl (fun W2 hW2 => fire_Coolest_ok p0 p1 y11 hy12 W2 A0_4 p0.fLooks.length c0_4 rfl ((RdL.arg hr0_4) W2 hW2) A1_0 p1.length c1_0 rfl ((RdL.arg hr1_0) W2 hW2)) ?_
        rintro ⟨A13, n15, c14⟩ hn16
        replace hn16 : n15 = y11.1.length := hn16; subst hn16
        refine ox_y rfl (y_move_tuple rfl) ?_
        refine ox_y rfl (y_extract (vs := [.slice A13 y11.1.length c14, .int .i64 y11.2]) (v := .slice A13 y11.1.length c14) rfl rfl) ?_
        refine ox_y rfl (y_extract (vs := [.slice A13 y11.1.length c14, .int .i64 y11.2]) (v := .int .i64 y11.2) rfl rfl) ?_
        refine ox_y rfl (y_assign_slice rfl) ?_
        refine ox_y rfl (y_assign_int rfl) ?_
        refine ox_nil ?_
        refine ex_then ?_
        refine cx_seq ?_
        refine cx_region ?_
        refine ox_y rfl (y_loadN 0 [.int .i64 p0.fRise, .int .i64 p0.fFall, .int .i64 p0.fUp, .int .i64 p0.fDown, .slice A0_4 p0.fLooks.length c0_4] ag_24 rfl rfl rfl) ?_
        refine ox_y rfl (y_move_slice rfl) ?_
        obtain ⟨y17, hy18, h⟩ := bind_some h
        refine ox_call [.agg #[.int .i64 p0.fRise, .int .i64 p0.fFall, .int .i64 p0.fUp, .int .i64 p0.fDown, .slice A0_4 p0.fLooks.length c0_4], .slice A1_0 p1.length c1_0] _ _ _ rfl go_23 rfl (fun W2 hW2 => calxref02_Coolest_ok p0 p1 y17 hy18 W2 A0_4 p0.fLooks.length c0_4 rfl ((RdL.arg hr0_4) W2 hW2) A1_0 p1.length c1_0 rfl ((RdL.arg hr1_0) W2 hW2)) ?_
        rintro ⟨A19, n21, c20⟩ hn22
        replace hn22 : n21 = y17.fL.length := hn22; subst hn22
        refine ox_alloc ze_43 rfl (fun b23 => ?_)
        refine ox_n rfl (y_storeN 3 [.slice A19 y17.fL.length c20, .int .i64 y17.fE] sz_43 rfl (Nat.le_of_ble_eq_true rfl) rfl rfl rfl) ?_
        refine ox_nil ?_
        refine ex_then ?_
        refine cx_seq ?_
        refine cx_region ?_
        refine ox_y rfl (y_loadN 0 [.int .i64 p0.fRise, .int .i64 p0.fFall, .int .i64 p0.fUp, .int .i64 p0.fDown, .slice A0_4 p0.fLooks.length c0_4] ag_24 rfl rfl rfl) ?_
        refine ox_y rfl (y_move_slice rfl) ?_
        obtain ⟨y24, hy25, h⟩ := bind_some h
        refine ox_call [.agg #[.int .i64 p0.fRise, .int .i64 p0.fFall, .int .i64 p0.fUp, .int .i64 p0.fDown, .slice A0_4 p0.fLooks.length c0_4], .slice A1_0 p1.length c1_0] _ _ _ rfl go_24 rfl (fun W2 hW2 => fire_Hottest_ok p0 p1 y24 hy25 W2 A0_4 p0.fLooks.length c0_4 rfl ((RdL.arg hr0_4) W2 hW2) A1_0 p1.length c1_0 rfl ((RdL.arg hr1_0) W2 hW2)) ?_
        rintro ⟨A26, n28, c27⟩ hn29
        replace hn29 : n28 = y24.1.length := hn29; subst hn29
        refine ox_y rfl (y_move_tuple rfl) ?_
        refine ox_y rfl (y_extract (vs := [.slice A26 y24.1.length c27, .int .i64 y24.2]) (v := .slice A26 y24.1.length c27) rfl rfl) ?_
        refine ox_y rfl (y_extract (vs := [.slice A26 y24.1.length c27, .int .i64 y24.2]) (v := .int .i64 y24.2) rfl rfl) ?_
        refine ox_y rfl (y_assign_slice rfl) ?_
        refine ox_y rfl (y_assign_int rfl) ?_
        refine ox_nil ?_
        refine ex_then ?_
        refine cx_seq ?_
        refine cx_region ?_
        refine ox_y rfl (y_loadN 0 [.int .i64 p0.fRise, .int .i64 p0.fFall, .int .i64 p0.fUp, .int .i64 p0.fDown, .slice A0_4 p0.fLooks.length c0_4] ag_24 rfl rfl rfl) ?_
        refine ox_y rfl (y_move_slice rfl) ?_
        obtain ⟨y30, hy31, h⟩ := bind_some h
        refine ox_call [.agg #[.int .i64 p0.fRise, .int .i64 p0.fFall, .int .i64 p0.fUp, .int .i64 p0.fDown, .slice A0_4 p0.fLooks.length c0_4], .slice A1_0 p1.length c1_0] _ _ _ rfl go_25 rfl (fun W2 hW2 => calxref02_Hottest_ok p0 p1 y30 hy31 W2 A0_4 p0.fLooks.length c0_4 rfl ((RdL.arg hr0_4) W2 hW2) A1_0 p1.length c1_0 rfl ((RdL.arg hr1_0) W2 hW2)) ?_
        rintro ⟨A32, n34, c33⟩ hn35
        replace hn35 : n34 = y30.fL.length := hn35; subst hn35
        try dsimp only [List.nil_append, List.cons_append, List.set_cons_zero, List.set_cons_succ]
        refine ox_alloc ze_43 rfl (fun b36 => ?_)
        try dsimp only [List.nil_append, List.cons_append, List.set_cons_zero, List.set_cons_succ]
        refine ox_n rfl (y_storeN 6 [.slice A32 y30.fL.length c33, .int .i64 y30.fE] sz_43 rfl (Nat.le_of_ble_eq_true rfl) rfl rfl rfl) ?_
        refine ox_nil ?_
        refine ex_then ?_
        refine cx_seq ?_
        refine cx_region ?_
        refine ox_y rfl (y_loadN 0 [.int .i64 p0.fRise, .int .i64 p0.fFall, .int .i64 p0.fUp, .int .i64 p0.fDown, .slice A0_4 p0.fLooks.length c0_4] ag_24 rfl rfl rfl) ?_
        refine ox_y rfl (y_move_slice rfl) ?_
        refine ox_y rfl (y_move_slice rfl) ?_
        obtain ⟨y37, hy38, h⟩ := bind_some h
        refine ox_y rfl (y_call [.agg #[.int .i64 p0.fRise, .int .i64 p0.fFall, .int .i64 p0.fUp, .int .i64 p0.fDown, .slice A0_4 p0.fLooks.length c0_4], .slice A1_0 p1.length c1_0, .slice A2_0 p2.length c2_0] go_26 rfl (fun W2 hW2 => fire_Fits_ok p0 p1 p2 y37 hy38 W2 A0_4 p0.fLooks.length c0_4 rfl ((RdL.arg hr0_4) W2 hW2) A1_0 p1.length c1_0 rfl ((RdL.arg hr1_0) W2 hW2) A2_0 p2.length c2_0 rfl ((RdL.arg hr2_0) W2 hW2)) rfl) ?_
        refine ox_y rfl (y_move_tuple rfl) ?_
        refine ox_y rfl (y_extract (vs := [.bool y37.1, .int .i64 y37.2]) (v := .bool y37.1) rfl rfl) ?_
        refine ox_y rfl (y_extract (vs := [.bool y37.1, .int .i64 y37.2]) (v := .int .i64 y37.2) rfl rfl) ?_
        refine ox_y rfl (y_assign_bool rfl) ?_
        refine ox_y rfl (y_assign_int rfl) ?_
        refine ox_nil ?_
        refine ex_then ?_
        refine cx_seq ?_
        refine cx_region ?_
        refine ox_y rfl (y_loadN 0 [.int .i64 p0.fRise, .int .i64 p0.fFall, .int .i64 p0.fUp, .int .i64 p0.fDown, .slice A0_4 p0.fLooks.length c0_4] ag_24 rfl rfl rfl) ?_
        refine ox_y rfl (y_move_slice rfl) ?_
        refine ox_y rfl (y_move_slice rfl) ?_
        obtain ⟨y39, hy40, h⟩ := bind_some h
        refine ox_y rfl (y_call [.agg #[.int .i64 p0.fRise, .int .i64 p0.fFall, .int .i64 p0.fUp, .int .i64 p0.fDown, .slice A0_4 p0.fLooks.length c0_4], .slice A1_0 p1.length c1_0, .slice A2_0 p2.length c2_0] go_27 rfl (fun W2 hW2 => calxref02_Fits_ok p0 p1 p2 y39 hy40 W2 A0_4 p0.fLooks.length c0_4 rfl ((RdL.arg hr0_4) W2 hW2) A1_0 p1.length c1_0 rfl ((RdL.arg hr1_0) W2 hW2) A2_0 p2.length c2_0 rfl ((RdL.arg hr2_0) W2 hW2)) rfl) ?_
        refine ox_y rfl (y_move_tuple rfl) ?_
        refine ox_y rfl (y_extract (vs := [.bool y39.1, .int .i64 y39.2]) (v := .bool y39.1) rfl rfl) ?_
        refine ox_y rfl (y_extract (vs := [.bool y39.1, .int .i64 y39.2]) (v := .int .i64 y39.2) rfl rfl) ?_
        refine ox_y rfl (y_assign_bool rfl) ?_
        refine ox_y rfl (y_assign_int rfl) ?_
        refine ox_nil ?_
        refine ex_then ?_
        refine cx_seq ?_
        refine cx_region ?_
        obtain ⟨y41, hy42, h⟩ := bind_some h
        refine ox_y rfl (y_call [] go_7 rfl (fun W2 hW2 => calxlaw02_sanity_ok  y41 hy42 W2 ) rfl) ?_
        refine ox_y rfl (y_move_bool rfl) ?_
        obtain ⟨b44, hb45, h⟩ := bind_some h
        refine ox_join 5 (fun tm0 => (upd (upd (upd (upd (upd (upd (upd (upd (upd (upd (upd tm0 6 (.bool false)) 8 (.int .i64 y11.2)) 9 (.pointer (some ⟨b23, 0, none⟩))) 10 (.slice A26 y24.1.length c27)) 11 (.int .i64 y24.2)) 12 (.pointer (some ⟨b36, 0, none⟩))) 13 (.bool y37.1)) 14 (.int .i64 y37.2)) 15 (.bool y39.1)) 16 (.int .i64 y39.2)) 69 (.bool b44))) (fun tm0 => ?_) (fun key => ?_)
        · refine ox_y rfl (y_move_bool rfl) ?_
          refine ox_join 5 (fun tm0 => (upd (upd (upd (upd (upd (upd (upd (upd (upd tm0 6 (.bool false)) 10 (.slice A26 y24.1.length c27)) 11 (.int .i64 y24.2)) 12 (.pointer (some ⟨b36, 0, none⟩))) 13 (.bool y37.1)) 14 (.int .i64 y37.2)) 15 (.bool y39.1)) 16 (.int .i64 y39.2)) 75 (.bool (b44 && (y11.2 == y17.fE))))) (fun tm0 => ?_) (fun key => ?_)
          · refine ox_y rfl (y_move_bool rfl) ?_
            obtain ⟨b48, hb49, h⟩ := bind_some h
            refine ox_join 5 (fun tm0 => (upd (upd (upd (upd (upd (upd (upd (upd tm0 6 (.bool false)) 11 (.int .i64 y24.2)) 12 (.pointer (some ⟨b36, 0, none⟩))) 13 (.bool y37.1)) 14 (.int .i64 y37.2)) 15 (.bool y39.1)) 16 (.int .i64 y39.2)) 81 (.bool b48))) (fun tm0 => ?_) (fun key => ?_)
            · refine ox_y rfl (y_move_bool rfl) ?_
              refine ox_join 5 (fun tm0 => (upd (upd (upd (upd (upd (upd tm0 6 (.bool false)) 13 (.bool y37.1)) 14 (.int .i64 y37.2)) 15 (.bool y39.1)) 16 (.int .i64 y39.2)) 87 (.bool (b48 && (y24.2 == y30.fE))))) (fun tm0 => ?_) (fun key => ?_)
              · refine ox_y rfl (y_move_bool rfl) ?_
                refine ox_join 4 (fun tm0 => (upd (upd (upd (upd tm0 6 (.bool false)) 14 (.int .i64 y37.2)) 16 (.int .i64 y39.2)) 92 (.bool ((b48 && (y24.2 == y30.fE)) && (y37.1 == y39.1))))) (fun tm0 => ?_) (fun key => ?_)
                · refine ox_y rfl (y_move_bool rfl) ?_
                  refine ox_join 4 (fun tm0 => (upd (upd tm0 6 (.bool false)) 97 (.bool (((b48 && (y24.2 == y30.fE)) && (y37.1 == y39.1)) && (y37.2 == y39.2))))) (fun tm0 => ?_) (fun key => ?_)
                  · refine ox_y rfl (y_assign_bool rfl) ?_
                    refine ox_nil ?_
                    refine ex_then ?_
                    refine cx_ret ?_
                    obtain rfl := Option.some.inj h
                    exact ex_res1 (.inl rfl) rfl (resV_tmp (v := .bool (((b48 && (y24.2 == y30.fE)) && (y37.1 == y39.1)) && (y37.2 == y39.2))) rfl) (fun W2 hW2 => ⟨rfl, hW2.none⟩)
                  · rcases bool_cases ((b48 && (y24.2 == y30.fE)) && (y37.1 == y39.1)) with hp52 | hp52
                    · refine ox_y (sees_t rfl rfl rfl rfl hp52) (y_move_int rfl) ?_
                      refine ox_y (sees_t rfl rfl rfl rfl hp52) (y_move_int rfl) ?_
                      refine ox_y (sees_t rfl rfl rfl rfl hp52) (y_eql rfl rfl) ?_
                      refine ox_y rfl (y_pick_tb (congrArg Value.bool hp52) rfl) ?_
                      exact key _ _ (keep (keep rfl rfl) (congrArg Value.bool (and_t hp52)))
                    · refine ox_skip (sees_f rfl rfl rfl rfl hp52) ?_
                      refine ox_skip (sees_f rfl rfl rfl rfl hp52) ?_
                      refine ox_skip (sees_f rfl rfl rfl rfl hp52) ?_
                      refine ox_y rfl (y_pick_fb (congrArg Value.bool hp52) rfl) ?_
                      exact key _ _ (keep (keep rfl rfl) (congrArg Value.bool (and_f hp52)))
                · rcases bool_cases (b48 && (y24.2 == y30.fE)) with hp51 | hp51
                  · refine ox_y (sees_t rfl rfl rfl rfl hp51) (y_move_bool rfl) ?_
                    refine ox_y (sees_t rfl rfl rfl rfl hp51) (y_move_bool rfl) ?_
                    refine ox_y (sees_t rfl rfl rfl rfl hp51) (y_eqlb ub_4 rfl rfl) ?_
                    refine ox_y rfl (y_pick_tb (congrArg Value.bool hp51) rfl) ?_
                    exact key _ _ (keep (keep (keep (keep rfl rfl) rfl) rfl) (congrArg Value.bool (and_t hp51)))
                  · refine ox_skip (sees_f rfl rfl rfl rfl hp51) ?_
                    refine ox_skip (sees_f rfl rfl rfl rfl hp51) ?_
                    refine ox_skip (sees_f rfl rfl rfl rfl hp51) ?_
                    refine ox_y rfl (y_pick_fb (congrArg Value.bool hp51) rfl) ?_
                    exact key _ _ (keep (keep (keep (keep rfl rfl) rfl) rfl) (congrArg Value.bool (and_f hp51)))
              · rcases bool_cases b48 with hp50 | hp50
                · refine ox_y (sees_t rfl rfl rfl rfl hp50) (y_move_int rfl) ?_
                  refine ox_y (sees_t rfl rfl rfl rfl hp50) (y_fieldAddr fo_43_1 rfl) ?_
                  refine ox_y (sees_t rfl rfl rfl rfl hp50) (y_load1 6 (v := .int .i64 y30.fE) sc_33 rfl rfl rfl) ?_
                  refine ox_y (sees_t rfl rfl rfl rfl hp50) (y_eql rfl rfl) ?_
                  refine ox_y rfl (y_pick_tb (congrArg Value.bool hp50) rfl) ?_
                  exact key _ _ (keep (keep (keep (keep (keep (keep rfl rfl) rfl) rfl) rfl) rfl) (congrArg Value.bool (and_t hp50)))
                · refine ox_skip (sees_f rfl rfl rfl rfl hp50) ?_
                  refine ox_skip (sees_f rfl rfl rfl rfl hp50) ?_
                  refine ox_skip (sees_f rfl rfl rfl rfl hp50) ?_
                  refine ox_skip (sees_f rfl rfl rfl rfl hp50) ?_
                  refine ox_y rfl (y_pick_fb (congrArg Value.bool hp50) rfl) ?_
                  exact key _ _ (keep (keep (keep (keep (keep (keep rfl rfl) rfl) rfl) rfl) rfl) (congrArg Value.bool (and_f hp50)))
            · clear h; rcases ite_some hb49 with ⟨hp47, h⟩ | ⟨hp47, h⟩
              · refine ox_y (sees_t rfl rfl rfl rfl hp47) (y_move_slice rfl) ?_
                refine ox_y (sees_t rfl rfl rfl rfl hp47) (y_fieldAddr fo_43_0 rfl) ?_
                refine ox_y (sees_t rfl rfl rfl rfl hp47) (y_load1 6 (v := .slice A32 y30.fL.length c33) sc_39 rfl rfl rfl) ?_
                obtain ⟨y53, hy54, h⟩ := bind_some h
                refine ox_y (sees_t rfl rfl rfl rfl hp47) (y_call [.slice A26 y24.1.length c27, .slice A32 y30.fL.length c33] go_14 rfl (fun W2 hW2 => calxref02_SameInts_ok y24.1 y30.fL y53 hy54 W2 A26 y24.1.length c27 rfl ((RdL.row 4 rfl) W2 hW2) A32 y30.fL.length c33 rfl ((RdL.row 5 rfl) W2 hW2)) rfl) ?_
                refine ox_y rfl (y_pick_tb (congrArg Value.bool hp47) rfl) ?_
                obtain rfl := Option.some.inj h
                exact key _ _ (keep (keep (keep (keep (keep (keep (keep (keep rfl rfl) rfl) rfl) rfl) rfl) rfl) rfl) rfl)
              · refine ox_skip (sees_f rfl rfl rfl rfl hp47) ?_
                refine ox_skip (sees_f rfl rfl rfl rfl hp47) ?_
                refine ox_skip (sees_f rfl rfl rfl rfl hp47) ?_
                refine ox_skip (sees_f rfl rfl rfl rfl hp47) ?_
                refine ox_y rfl (y_pick_fb (congrArg Value.bool hp47) rfl) ?_
                obtain rfl := Option.some.inj h
                exact key _ _ (keep (keep (keep (keep (keep (keep (keep (keep rfl rfl) rfl) rfl) rfl) rfl) rfl) rfl) rfl)
          · rcases bool_cases b44 with hp46 | hp46
            · refine ox_y (sees_t rfl rfl rfl rfl hp46) (y_move_int rfl) ?_
              refine ox_y (sees_t rfl rfl rfl rfl hp46) (y_fieldAddr fo_43_1 rfl) ?_
              refine ox_y (sees_t rfl rfl rfl rfl hp46) (y_load1 3 (v := .int .i64 y17.fE) sc_33 rfl rfl rfl) ?_
              refine ox_y (sees_t rfl rfl rfl rfl hp46) (y_eql rfl rfl) ?_
              refine ox_y rfl (y_pick_tb (congrArg Value.bool hp46) rfl) ?_
              exact key _ _ (keep (keep (keep (keep (keep (keep (keep (keep (keep rfl rfl) rfl) rfl) rfl) rfl) rfl) rfl) rfl) (congrArg Value.bool (and_t hp46)))
            · refine ox_skip (sees_f rfl rfl rfl rfl hp46) ?_
              refine ox_skip (sees_f rfl rfl rfl rfl hp46) ?_
              refine ox_skip (sees_f rfl rfl rfl rfl hp46) ?_
              refine ox_skip (sees_f rfl rfl rfl rfl hp46) ?_
              refine ox_y rfl (y_pick_fb (congrArg Value.bool hp46) rfl) ?_
              exact key _ _ (keep (keep (keep (keep (keep (keep (keep (keep (keep rfl rfl) rfl) rfl) rfl) rfl) rfl) rfl) rfl) (congrArg Value.bool (and_f hp46)))
        · clear h; rcases ite_some hb45 with ⟨hp43, h⟩ | ⟨hp43, h⟩
          · refine ox_y (sees_t rfl rfl rfl rfl hp43) (y_move_slice rfl) ?_
            refine ox_y (sees_t rfl rfl rfl rfl hp43) (y_fieldAddr fo_43_0 rfl) ?_
            refine ox_y (sees_t rfl rfl rfl rfl hp43) (y_load1 3 (v := .slice A19 y17.fL.length c20) sc_39 rfl rfl rfl) ?_
            obtain ⟨y55, hy56, h⟩ := bind_some h
            refine ox_y (sees_t rfl rfl rfl rfl hp43) (y_call [.slice A13 y11.1.length c14, .slice A19 y17.fL.length c20] go_14 rfl (fun W2 hW2 => calxref02_SameInts_ok y11.1 y17.fL y55 hy56 W2 A13 y11.1.length c14 rfl ((RdL.row 1 rfl) W2 hW2) A19 y17.fL.length c20 rfl ((RdL.row 2 rfl) W2 hW2)) rfl) ?_
            refine ox_y rfl (y_pick_tb (congrArg Value.bool hp43) rfl) ?_
            obtain rfl := Option.some.inj h
            exact key _ _ (keep (keep (keep (keep (keep (keep (keep (keep (keep (keep (keep rfl rfl) rfl) rfl) rfl) rfl) rfl) rfl) rfl) rfl) rfl) rfl)
          · refine ox_skip (sees_f rfl rfl rfl rfl hp43) ?_
            refine ox_skip (sees_f rfl rfl rfl rfl hp43) ?_
            refine ox_skip (sees_f rfl rfl rfl rfl hp43) ?_
            refine ox_skip (sees_f rfl rfl rfl rfl hp43) ?_
            refine ox_y rfl (y_pick_fb (congrArg Value.bool hp43) rfl) ?_
            obtain rfl := Option.some.inj h
            exact key _ _ (keep (keep (keep (keep (keep (keep (keep (keep (keep (keep (keep rfl rfl) rfl) rfl) rfl) rfl) rfl) rfl) rfl) rfl) rfl) rfl)
    · rcases bool_cases b5 with hp7 | hp7
      · refine ox_skip (sees_f rfl rfl rfl rfl hp7) ?_
        refine ox_skip (sees_f rfl rfl rfl rfl hp7) ?_
        refine ox_skip (sees_f rfl rfl rfl rfl hp7) ?_
        refine ox_y rfl (y_pick_tb (congrArg Value.bool hp7) rfl) ?_
        exact key _ _ (keep (keep (keep (keep (keep rfl rfl) rfl) rfl) rfl) (congrArg Value.bool (or_t hp7)))
      · refine ox_y (sees_t rfl rfl rfl rfl hp7) (y_move_slice rfl) ?_
        refine ox_y (sees_t rfl rfl rfl rfl hp7) (y_len (us := []) us_39 rfl) ?_
        refine ox_y (sees_t rfl rfl rfl rfl hp7) (y_gtr rfl rfl) ?_
        refine ox_y rfl (y_pick_fb (congrArg Value.bool hp7) rfl) ?_
        exact key _ _ (keep (keep (keep (keep (keep rfl rfl) rfl) rfl) rfl) (congrArg Value.bool (or_f hp7)))
  · clear h; rcases ite_some hb6 with ⟨hp4, h⟩ | ⟨hp4, h⟩
    · refine ox_skip (sees_f rfl rfl rfl rfl hp4) ?_
      refine ox_skip (sees_f rfl rfl rfl rfl hp4) ?_
      refine ox_skip (sees_f rfl rfl rfl rfl hp4) ?_
      refine ox_y rfl (y_pick_tb (congrArg Value.bool hp4) rfl) ?_
      obtain rfl := Option.some.inj h
      exact key _ _ (keep (keep (keep (keep (keep rfl rfl) rfl) rfl) rfl) rfl)
    · refine ox_y (sees_t rfl rfl rfl rfl hp4) (y_move_slice rfl) ?_
      obtain ⟨y57, hy58, h⟩ := bind_some h
      refine ox_y (sees_t rfl rfl rfl rfl hp4) (y_call [.slice A1_0 p1.length c1_0] go_15 rfl (fun W2 hW2 => calxlaw02_short_ok p1 y57 hy58 W2 A1_0 p1.length c1_0 rfl ((RdL.arg hr1_0) W2 hW2)) rfl) ?_
      refine ox_y (sees_t rfl rfl rfl rfl hp4) (y_not rfl) ?_
      refine ox_y rfl (y_pick_fb (congrArg Value.bool hp4) rfl) ?_
      obtain rfl := Option.some.inj h
      exact key _ _ (keep (keep (keep (keep (keep rfl rfl) rfl) rfl) rfl) rfl)

end Go.Proofs.YtndajeiecdmhnaaGreat
