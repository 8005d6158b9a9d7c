/- The calls hand back what the plain functions say. -/
import Derived.Test.YtndajeiecdmhnaaF
import Derived.Test.YtndajeiecdmhnaaGy
import Derived.Test.YtndajeiecdmhnaaGz
set_option linter.unusedVariables false
set_option maxHeartbeats 4000000
namespace Go.Proofs.Ytndajeiecdmhnaa
open Go.RowKit (Below)
attribute [local irreducible] OX QX CX EX OpY Calls CallsIn

/-! calx/calxlaw02.few -/
set_option maxRecDepth 100000 in
theorem calxlaw02_few_ok (p0_f : TFire) (res : Bool) (h : calxlaw02_few p0_f = some res) (W : World) (A0_4 : Option Addr) (n0_4 c0_4 : Nat) (hn0_4 : n0_4 = p0_f.fLooks.length) (hr0_4 : Rd W A0_4 n0_4 c0_4 (encL TLook_cells p0_f.fLooks)) :
    Calls Try.prog 11 [.agg #[.int .i64 p0_f.fRise, .int .i64 p0_f.fFall, .int .i64 p0_f.fUp, .int .i64 p0_f.fDown, .slice A0_4 n0_4 c0_4]].toArray W fun e W2 => e = .returned (.bool res) ∧ Ext W W2 [] := by
  subst hn0_4
  unfold calxlaw02_few at h
  refine calls_enter (m := 19) Try.func11 rfl rfl (Nat.le_of_ble_eq_true rfl) ?_
  refine cx_seq ?_
  refine cx_region ?_
  refine ox_box [.int .i64 p0_f.fRise, .int .i64 p0_f.fFall, .int .i64 p0_f.fUp, .int .i64 p0_f.fDown, .slice A0_4 p0_f.fLooks.length c0_4] rfl rfl rfl (fun b1 => ?_)
  refine ox_y rfl (y_assign_bool rfl) ?_
  refine ox_nil ?_
  refine ex_then ?_
  refine cx_seq ?_
  refine cx_region ?_
  refine ox_y rfl (y_fieldAddr fo_24_4 rfl) ?_
  refine ox_y rfl (y_load1 0 (v := .slice A0_4 p0_f.fLooks.length c0_4) sc_22 rfl rfl rfl) ?_
  refine ox_y rfl (y_len (us := []) us_22 rfl) ?_
  refine ox_y rfl (y_leq rfl rfl) ?_
  refine ox_y rfl (y_move_bool rfl) ?_
  refine ox_join 11 (fun tm0 => (upd (upd tm0 2 (.bool false)) 18 (.bool ((decide (((p0_f.fLooks.length : Nat) : Int) ≤ 12)) || ((decide (24 < ((p0_f.fLooks.length : Nat) : Int))) && (decide (((p0_f.fLooks.length : Nat) : Int) ≤ 40))))))) (fun tm0 => ?_) (fun key => ?_)
  · refine ox_y rfl (y_assign_bool rfl) ?_
    refine ox_nil ?_
    refine ex_then ?_
    refine cx_ret ?_
    obtain rfl := Option.some.inj h
    exact ex_res1 (.inl rfl) rfl (resV_tmp (v := .bool ((decide (((p0_f.fLooks.length : Nat) : Int) ≤ 12)) || ((decide (24 < ((p0_f.fLooks.length : Nat) : Int))) && (decide (((p0_f.fLooks.length : Nat) : Int) ≤ 40))))) rfl) (fun W2 hW2 => ⟨rfl, hW2.none⟩)
  · rcases bool_cases (decide (((p0_f.fLooks.length : Nat) : Int) ≤ 12)) with hp2 | hp2
    · refine ox_skip (sees_f rfl rfl rfl rfl hp2) ?_
      refine ox_skip (sees_f rfl rfl rfl rfl hp2) ?_
      refine ox_skip (sees_f rfl rfl rfl rfl hp2) ?_
      refine ox_skip (sees_f rfl rfl rfl rfl hp2) ?_
      refine ox_skip (sees_f rfl rfl rfl rfl hp2) ?_
      refine ox_skip rfl ?_
      refine ox_skip rfl ?_
      refine ox_skip rfl ?_
      refine ox_skip rfl ?_
      refine ox_skip (sees_f rfl rfl rfl rfl hp2) ?_
      refine ox_y rfl (y_pick_tb (congrArg Value.bool hp2) rfl) ?_
      exact key _ _ (keep (keep rfl rfl) (congrArg Value.bool (or_t hp2)))
    · refine ox_y (sees_t rfl rfl rfl rfl hp2) (y_fieldAddr fo_24_4 rfl) ?_
      refine ox_y (sees_t rfl rfl rfl rfl hp2) (y_load1 0 (v := .slice A0_4 p0_f.fLooks.length c0_4) sc_22 rfl rfl rfl) ?_
      refine ox_y (sees_t rfl rfl rfl rfl hp2) (y_len (us := []) us_22 rfl) ?_
      refine ox_y (sees_t rfl rfl rfl rfl hp2) (y_gtr rfl rfl) ?_
      refine ox_y (sees_t rfl rfl rfl rfl hp2) (y_move_bool rfl) ?_
      refine ox_join 5 (fun tm0 => (upd (upd (upd tm0 2 (.bool false)) 7 (.bool (decide (((p0_f.fLooks.length : Nat) : Int) ≤ 12)))) 17 (.bool ((decide (24 < ((p0_f.fLooks.length : Nat) : Int))) && (decide (((p0_f.fLooks.length : Nat) : Int) ≤ 40)))))) (fun tm0 => ?_) (fun key => ?_)
      · refine ox_y rfl (y_pick_fb (congrArg Value.bool hp2) rfl) ?_
        exact key _ _ (keep (keep rfl rfl) (congrArg Value.bool (or_f hp2)))
      · rcases bool_cases (decide (24 < ((p0_f.fLooks.length : Nat) : Int))) with hp3 | hp3
        · refine ox_y (sees_t rfl rfl rfl rfl hp3) (y_fieldAddr fo_24_4 rfl) ?_
          refine ox_y (sees_t rfl rfl rfl rfl hp3) (y_load1 0 (v := .slice A0_4 p0_f.fLooks.length c0_4) sc_22 rfl rfl rfl) ?_
          refine ox_y (sees_t rfl rfl rfl rfl hp3) (y_len (us := []) us_22 rfl) ?_
          refine ox_y (sees_t rfl rfl rfl rfl hp3) (y_leq rfl rfl) ?_
          refine ox_y (sees_t rfl rfl rfl rfl hp2) (y_pick_tb (congrArg Value.bool hp3) rfl) ?_
          exact key _ _ (keep (keep (keep rfl rfl) rfl) (congrArg Value.bool (and_t hp3)))
        · refine ox_skip (sees_f rfl rfl rfl rfl hp3) ?_
          refine ox_skip (sees_f rfl rfl rfl rfl hp3) ?_
          refine ox_skip (sees_f rfl rfl rfl rfl hp3) ?_
          refine ox_skip (sees_f rfl rfl rfl rfl hp3) ?_
          refine ox_y (sees_t rfl rfl rfl rfl hp2) (y_pick_fb (congrArg Value.bool hp3) rfl) ?_
          exact key _ _ (keep (keep (keep rfl rfl) rfl) (congrArg Value.bool (and_f hp3)))

/-! calx/fire.within -/
set_option maxRecDepth 100000 in
theorem fire_within_ok (p0_n : Int) (p1_lo : Int) (p2_hi : Int) (res : Bool) (h : fire_within p0_n p1_lo p2_hi = some res) (W : World)  :
    Calls Try.prog 50 [.int .i64 p0_n, .int .i64 p1_lo, .int .i64 p2_hi].toArray W fun e W2 => e = .returned (.bool res) ∧ Ext W W2 [] := by
  unfold fire_within at h
  refine calls_enter (m := 15) Try.func50 rfl rfl (Nat.le_of_ble_eq_true rfl) ?_
  refine cx_seq ?_
  refine cx_region ?_
  refine ox_y rfl (y_assign_bool rfl) ?_
  refine ox_nil ?_
  refine ex_then ?_
  refine cx_seq ?_
  refine cx_region ?_
  refine ox_y rfl (y_move_int rfl) ?_
  refine ox_y rfl (y_move_int rfl) ?_
  refine ox_y rfl (y_leq rfl rfl) ?_
  refine ox_y rfl (y_move_bool rfl) ?_
  refine ox_join 4 (fun tm0 => (upd (upd tm0 6 (.bool false)) 14 (.bool ((decide (p1_lo ≤ p0_n)) && (decide (p0_n ≤ p2_hi)))))) (fun tm0 => ?_) (fun key => ?_)
  · refine ox_y rfl (y_assign_bool rfl) ?_
    refine ox_nil ?_
    refine ex_then ?_
    refine cx_ret ?_
    obtain rfl := Option.some.inj h
    exact ex_res1 (.inl rfl) rfl (resV_tmp (v := .bool ((decide (p1_lo ≤ p0_n)) && (decide (p0_n ≤ p2_hi)))) rfl) (fun W2 hW2 => ⟨rfl, hW2.none⟩)
  · rcases bool_cases (decide (p1_lo ≤ p0_n)) with hp1 | hp1
    · refine ox_y (sees_t rfl rfl rfl rfl hp1) (y_move_int rfl) ?_
      refine ox_y (sees_t rfl rfl rfl rfl hp1) (y_move_int rfl) ?_
      refine ox_y (sees_t rfl rfl rfl rfl hp1) (y_leq rfl rfl) ?_
      refine ox_y rfl (y_pick_tb (congrArg Value.bool hp1) rfl) ?_
      exact key _ _ (keep (keep rfl rfl) (congrArg Value.bool (and_t hp1)))
    · refine ox_skip (sees_f rfl rfl rfl rfl hp1) ?_
      refine ox_skip (sees_f rfl rfl rfl rfl hp1) ?_
      refine ox_skip (sees_f rfl rfl rfl rfl hp1) ?_
      refine ox_y rfl (y_pick_fb (congrArg Value.bool hp1) rfl) ?_
      exact key _ _ (keep (keep rfl rfl) (congrArg Value.bool (and_f hp1)))

/-! calx/fire.right -/
set_option maxRecDepth 100000 in
theorem fire_right_ok (p0_s : TSpot) (res : Bool) (h : fire_right p0_s = some res) (W : World)  :
    Calls Try.prog 70 [.agg #[.int .i64 p0_s.fFoot, .int .i64 p0_s.fHour]].toArray W fun e W2 => e = .returned (.bool res) ∧ Ext W W2 [] := by
  unfold fire_right at h
  refine calls_enter (m := 11) Try.func70 rfl rfl (Nat.le_of_ble_eq_true rfl) ?_
  refine cx_seq ?_
  refine cx_region ?_
  refine ox_box [.int .i64 p0_s.fFoot, .int .i64 p0_s.fHour] rfl rfl rfl (fun b1 => ?_)
  refine ox_y rfl (y_assign_bool rfl) ?_
  refine ox_nil ?_
  refine ex_then ?_
  refine cx_seq ?_
  refine cx_region ?_
  refine ox_y rfl (y_fieldAddr fo_26_0 rfl) ?_
  refine ox_y rfl (y_load1 0 (v := .int .i64 p0_s.fFoot) sc_3 rfl rfl rfl) ?_
  obtain ⟨y2, hy3, h⟩ := bind_some h
  refine ox_y rfl (y_call [.int .i64 p0_s.fFoot, .int .i64 0, .int .i64 60] go_50 rfl (fun W2 hW2 => fire_within_ok p0_s.fFoot 0 60 y2 hy3 W2 ) rfl) ?_
  refine ox_y rfl (y_move_bool rfl) ?_
  obtain ⟨b5, hb6, h⟩ := bind_some h
  refine ox_join 4 (fun tm0 => (upd (upd tm0 2 (.bool false)) 10 (.bool b5))) (fun tm0 => ?_) (fun key => ?_)
  · refine ox_y rfl (y_assign_bool rfl) ?_
    refine ox_nil ?_
    refine ex_then ?_
    refine cx_ret ?_
    obtain rfl := Option.some.inj h
    exact ex_res1 (.inl rfl) rfl (resV_tmp (v := .bool b5) rfl) (fun W2 hW2 => ⟨rfl, hW2.none⟩)
  · clear h; rcases ite_some hb6 with ⟨hp4, h⟩ | ⟨hp4, h⟩
    · refine ox_y (sees_t rfl rfl rfl rfl hp4) (y_fieldAddr fo_26_1 rfl) ?_
      refine ox_y (sees_t rfl rfl rfl rfl hp4) (y_load1 0 (v := .int .i64 p0_s.fHour) sc_3 rfl rfl rfl) ?_
      obtain ⟨y7, hy8, h⟩ := bind_some h
      refine ox_y (sees_t rfl rfl rfl rfl hp4) (y_call [.int .i64 p0_s.fHour, .int .i64 0, .int .i64 16384] go_50 rfl (fun W2 hW2 => fire_within_ok p0_s.fHour 0 16384 y7 hy8 W2 ) rfl) ?_
      refine ox_y rfl (y_pick_tb (congrArg Value.bool hp4) rfl) ?_
      obtain rfl := Option.some.inj h
      exact key _ _ (keep (keep rfl rfl) rfl)
    · refine ox_skip (sees_f rfl rfl rfl rfl hp4) ?_
      refine ox_skip (sees_f rfl rfl rfl rfl hp4) ?_
      refine ox_skip (sees_f rfl rfl rfl rfl hp4) ?_
      refine ox_y rfl (y_pick_fb (congrArg Value.bool hp4) rfl) ?_
      obtain rfl := Option.some.inj h
      exact key _ _ (keep (keep rfl rfl) rfl)

/-! calx/fire.heat -/
set_option maxRecDepth 100000 in
theorem fire_heat_ok (p0_n : Int) (res : Bool) (h : fire_heat p0_n = some res) (W : World)  :
    Calls Try.prog 87 [.int .i64 p0_n].toArray W fun e W2 => e = .returned (.bool res) ∧ Ext W W2 [] := by
  unfold fire_heat at h
  refine calls_enter (m := 5) Try.func87 rfl rfl (Nat.le_of_ble_eq_true rfl) ?_
  refine cx_seq ?_
  refine cx_region ?_
  refine ox_y rfl (y_assign_bool rfl) ?_
  refine ox_nil ?_
  refine ex_then ?_
  refine cx_seq ?_
  refine cx_region ?_
  refine ox_y rfl (y_move_int rfl) ?_
  obtain ⟨y1, hy2, h⟩ := bind_some h
  refine ox_y rfl (y_call [.int .i64 p0_n, .int .i64 0, .int .i64 1500] go_50 rfl (fun W2 hW2 => fire_within_ok p0_n 0 1500 y1 hy2 W2 ) rfl) ?_
  refine ox_y rfl (y_assign_bool rfl) ?_
  refine ox_nil ?_
  refine ex_then ?_
  refine cx_ret ?_
  obtain rfl := Option.some.inj h
  exact ex_res1 (.inl rfl) rfl (resV_tmp (v := .bool y1) rfl) (fun W2 hW2 => ⟨rfl, hW2.none⟩)

/-! calx/fire.rightLook -/
set_option maxRecDepth 100000 in
theorem fire_rightLook_ok (p0_x : TLook) (res : Bool) (h : fire_rightLook p0_x = some res) (W : World)  :
    Calls Try.prog 51 [.agg #[.int .i64 p0_x.fID, .int .i64 p0_x.fAt.fFoot, .int .i64 p0_x.fAt.fHour, .int .i64 p0_x.fHeat.fLo, .int .i64 p0_x.fHeat.fHi]].toArray W fun e W2 => e = .returned (.bool res) ∧ Ext W W2 [] := by
  unfold fire_rightLook at h
  refine calls_enter (m := 32) Try.func51 rfl rfl (Nat.le_of_ble_eq_true rfl) ?_
  refine cx_seq ?_
  refine cx_region ?_
  refine ox_box [.int .i64 p0_x.fID, .int .i64 p0_x.fAt.fFoot, .int .i64 p0_x.fAt.fHour, .int .i64 p0_x.fHeat.fLo, .int .i64 p0_x.fHeat.fHi] rfl rfl rfl (fun b1 => ?_)
  refine ox_y rfl (y_assign_bool rfl) ?_
  refine ox_nil ?_
  refine ex_then ?_
  refine cx_seq ?_
  refine cx_region ?_
  refine ox_y rfl (y_fieldAddr fo_34_0 rfl) ?_
  refine ox_y rfl (y_load1 0 (v := .int .i64 p0_x.fID) sc_3 rfl rfl rfl) ?_
  obtain ⟨y2, hy3, h⟩ := bind_some h
  refine ox_y rfl (y_call [.int .i64 p0_x.fID, .int .i64 1, .int .i64 1099511627776] go_50 rfl (fun W2 hW2 => fire_within_ok p0_x.fID 1 1099511627776 y2 hy3 W2 ) rfl) ?_
  refine ox_y rfl (y_move_bool rfl) ?_
  obtain ⟨b5, hb6, h⟩ := bind_some h
  refine ox_join 4 (fun tm0 => (upd (upd (upd tm0 1 (.pointer (some ⟨b1, 0, none⟩))) 2 (.bool false)) 10 (.bool b5))) (fun tm0 => ?_) (fun key => ?_)
  · refine ox_y rfl (y_move_bool rfl) ?_
    obtain ⟨b8, hb9, h⟩ := bind_some h
    refine ox_join 5 (fun tm0 => (upd (upd (upd tm0 1 (.pointer (some ⟨b1, 0, none⟩))) 2 (.bool false)) 16 (.bool b8))) (fun tm0 => ?_) (fun key => ?_)
    · refine ox_y rfl (y_move_bool rfl) ?_
      obtain ⟨b11, hb12, h⟩ := bind_some h
      refine ox_join 5 (fun tm0 => (upd (upd (upd tm0 1 (.pointer (some ⟨b1, 0, none⟩))) 2 (.bool false)) 22 (.bool b11))) (fun tm0 => ?_) (fun key => ?_)
      · refine ox_y rfl (y_move_bool rfl) ?_
        refine ox_join 8 (fun tm0 => (upd (upd tm0 2 (.bool false)) 31 (.bool (b11 && (decide (p0_x.fHeat.fLo ≤ p0_x.fHeat.fHi)))))) (fun tm0 => ?_) (fun key => ?_)
        · refine ox_y rfl (y_assign_bool rfl) ?_
          refine ox_nil ?_
          refine ex_then ?_
          refine cx_ret ?_
          obtain rfl := Option.some.inj h
          exact ex_res1 (.inl rfl) rfl (resV_tmp (v := .bool (b11 && (decide (p0_x.fHeat.fLo ≤ p0_x.fHeat.fHi)))) rfl) (fun W2 hW2 => ⟨rfl, hW2.none⟩)
        · rcases bool_cases b11 with hp13 | hp13
          · refine ox_y (sees_t rfl rfl rfl rfl hp13) (y_fieldAddr fo_34_2 rfl) ?_
            refine ox_y (sees_t rfl rfl rfl rfl hp13) (y_fieldAddr fo_32_0 rfl) ?_
            refine ox_y (sees_t rfl rfl rfl rfl hp13) (y_load1 0 (v := .int .i64 p0_x.fHeat.fLo) sc_3 rfl rfl rfl) ?_
            refine ox_y (sees_t rfl rfl rfl rfl hp13) (y_fieldAddr fo_34_2 rfl) ?_
            refine ox_y (sees_t rfl rfl rfl rfl hp13) (y_fieldAddr fo_32_1 rfl) ?_
            refine ox_y (sees_t rfl rfl rfl rfl hp13) (y_load1 0 (v := .int .i64 p0_x.fHeat.fHi) sc_3 rfl rfl rfl) ?_
            refine ox_y (sees_t rfl rfl rfl rfl hp13) (y_leq rfl rfl) ?_
            refine ox_y rfl (y_pick_tb (congrArg Value.bool hp13) rfl) ?_
            exact key _ _ (keep (keep rfl rfl) (congrArg Value.bool (and_t hp13)))
          · refine ox_skip (sees_f rfl rfl rfl rfl hp13) ?_
            refine ox_skip (sees_f rfl rfl rfl rfl hp13) ?_
            refine ox_skip (sees_f rfl rfl rfl rfl hp13) ?_
            refine ox_skip (sees_f rfl rfl rfl rfl hp13) ?_
            refine ox_skip (sees_f rfl rfl rfl rfl hp13) ?_
            refine ox_skip (sees_f rfl rfl rfl rfl hp13) ?_
            refine ox_skip (sees_f rfl rfl rfl rfl hp13) ?_
            refine ox_y rfl (y_pick_fb (congrArg Value.bool hp13) rfl) ?_
            exact key _ _ (keep (keep rfl rfl) (congrArg Value.bool (and_f hp13)))
      · clear h; rcases ite_some hb12 with ⟨hp10, h⟩ | ⟨hp10, h⟩
        · refine ox_y (sees_t rfl rfl rfl rfl hp10) (y_fieldAddr fo_34_2 rfl) ?_
          refine ox_y (sees_t rfl rfl rfl rfl hp10) (y_fieldAddr fo_32_1 rfl) ?_
          refine ox_y (sees_t rfl rfl rfl rfl hp10) (y_load1 0 (v := .int .i64 p0_x.fHeat.fHi) sc_3 rfl rfl rfl) ?_
          obtain ⟨y14, hy15, h⟩ := bind_some h
          refine ox_y (sees_t rfl rfl rfl rfl hp10) (y_call [.int .i64 p0_x.fHeat.fHi] go_87 rfl (fun W2 hW2 => fire_heat_ok p0_x.fHeat.fHi y14 hy15 W2 ) rfl) ?_
          refine ox_y rfl (y_pick_tb (congrArg Value.bool hp10) rfl) ?_
          obtain rfl := Option.some.inj h
          exact key _ _ (keep (keep (keep rfl rfl) rfl) rfl)
        · refine ox_skip (sees_f rfl rfl rfl rfl hp10) ?_
          refine ox_skip (sees_f rfl rfl rfl rfl hp10) ?_
          refine ox_skip (sees_f rfl rfl rfl rfl hp10) ?_
          refine ox_skip (sees_f rfl rfl rfl rfl hp10) ?_
          refine ox_y rfl (y_pick_fb (congrArg Value.bool hp10) rfl) ?_
          obtain rfl := Option.some.inj h
          exact key _ _ (keep (keep (keep rfl rfl) rfl) rfl)
    · clear h; rcases ite_some hb9 with ⟨hp7, h⟩ | ⟨hp7, h⟩
      · refine ox_y (sees_t rfl rfl rfl rfl hp7) (y_fieldAddr fo_34_2 rfl) ?_
        refine ox_y (sees_t rfl rfl rfl rfl hp7) (y_fieldAddr fo_32_0 rfl) ?_
        refine ox_y (sees_t rfl rfl rfl rfl hp7) (y_load1 0 (v := .int .i64 p0_x.fHeat.fLo) sc_3 rfl rfl rfl) ?_
        obtain ⟨y16, hy17, h⟩ := bind_some h
        refine ox_y (sees_t rfl rfl rfl rfl hp7) (y_call [.int .i64 p0_x.fHeat.fLo] go_87 rfl (fun W2 hW2 => fire_heat_ok p0_x.fHeat.fLo y16 hy17 W2 ) rfl) ?_
        refine ox_y rfl (y_pick_tb (congrArg Value.bool hp7) rfl) ?_
        obtain rfl := Option.some.inj h
        exact key _ _ (keep (keep (keep rfl rfl) rfl) rfl)
      · refine ox_skip (sees_f rfl rfl rfl rfl hp7) ?_
        refine ox_skip (sees_f rfl rfl rfl rfl hp7) ?_
        refine ox_skip (sees_f rfl rfl rfl rfl hp7) ?_
        refine ox_skip (sees_f rfl rfl rfl rfl hp7) ?_
        refine ox_y rfl (y_pick_fb (congrArg Value.bool hp7) rfl) ?_
        obtain rfl := Option.some.inj h
        exact key _ _ (keep (keep (keep rfl rfl) rfl) rfl)
  · clear h; rcases ite_some hb6 with ⟨hp4, h⟩ | ⟨hp4, h⟩
    · refine ox_y (sees_t rfl rfl rfl rfl hp4) (y_fieldAddr fo_34_1 rfl) ?_
      refine ox_y (sees_t rfl rfl rfl rfl hp4) (y_loadN 0 [.int .i64 p0_x.fAt.fFoot, .int .i64 p0_x.fAt.fHour] ag_26 rfl rfl rfl) ?_
      obtain ⟨y18, hy19, h⟩ := bind_some h
      refine ox_y (sees_t rfl rfl rfl rfl hp4) (y_call [.agg #[.int .i64 p0_x.fAt.fFoot, .int .i64 p0_x.fAt.fHour]] go_70 rfl (fun W2 hW2 => fire_right_ok p0_x.fAt y18 hy19 W2 ) rfl) ?_
      refine ox_y rfl (y_pick_tb (congrArg Value.bool hp4) rfl) ?_
      obtain rfl := Option.some.inj h
      exact key _ _ (keep (keep (keep rfl rfl) rfl) rfl)
    · refine ox_skip (sees_f rfl rfl rfl rfl hp4) ?_
      refine ox_skip (sees_f rfl rfl rfl rfl hp4) ?_
      refine ox_skip (sees_f rfl rfl rfl rfl hp4) ?_
      refine ox_y rfl (y_pick_fb (congrArg Value.bool hp4) rfl) ?_
      obtain rfl := Option.some.inj h
      exact key _ _ (keep (keep (keep rfl rfl) rfl) rfl)

/-! slices.IndexFunc[[]calx/api.Look,calx/api.Look] -/
set_option maxRecDepth 100000 in
theorem slices_IndexFunc_calx_api_Look_calx_api_Look_ok (p0_s : (List TLook)) (p1_f : TLook → Option Bool) (res : Int) (h : slices_IndexFunc_calx_api_Look_calx_api_Look p0_s p1_f = some res) (W : World) (A0_0 : Option Addr) (n0_0 c0_0 : Nat) (hn0_0 : n0_0 = p0_s.length) (hr0_0 : Rd W A0_0 n0_0 c0_0 (encL TLook_cells p0_s)) (fid1 : Nat) (caps1 : List Value) (hgo1 : goes Try.prog fid1 = true) (hof1 : ∀ W2, Below W.heap.size W W2 → ∀ x y, p1_f x = some y → Calls Try.prog fid1 (([.agg #[.int .i64 x.fID, .int .i64 x.fAt.fFoot, .int .i64 x.fAt.fHour, .int .i64 x.fHeat.fLo, .int .i64 x.fHeat.fHi]] : List Value) ++ caps1).toArray W2 fun e W3 => e = .returned (.bool y) ∧ Ext W2 W3 []) :
    Calls Try.prog 95 [.slice A0_0 n0_0 c0_0, .func (.func fid1) #[] caps1.toArray].toArray W fun e W2 => e = .returned (.int .i64 res) ∧ Ext W W2 [] := by
  subst hn0_0
  unfold slices_IndexFunc_calx_api_Look_calx_api_Look at h
  refine calls_enter (m := 19) Try.func95 rfl rfl (Nat.le_of_ble_eq_true rfl) ?_
  refine cx_seq ?_
  refine cx_region ?_
  refine ox_y rfl (y_assign_int rfl) ?_
  refine ox_nil ?_
  refine ex_then ?_
  refine cx_seq ?_
  refine cx_seq ?_
  refine cx_region ?_
  refine ox_y rfl (y_move_slice rfl) ?_
  refine ox_y rfl (y_len (us := []) us_22 rfl) ?_
  refine ox_y rfl (y_move_int rfl) ?_
  refine ox_nil ?_
  refine ex_then ?_
  refine cx_block ?_
  obtain ⟨u3, hl9, h⟩ := bind_some h
  refine cx_loop (fun (s : (Int × Int)) L tm => ∃ (tm0 : Nat → Value), L = [] ∧ tm = (upd (upd (upd (upd (upd tm0 0 (.slice A0_0 p0_s.length c0_0)) 1 (.func (.func fid1) #[] caps1.toArray)) 4 (.int .i64 s.1)) 7 (.int .i64 ((p0_s.length : Nat) : Int))) 8 (.int .i64 s.2))) (fun | (.inl s), e, L, tm => e = .ret ∧ ∃ (tm0 : Nat → Value), L = [] ∧ tm = (upd (upd (upd (upd (upd tm0 0 (.slice A0_0 p0_s.length c0_0)) 1 (.func (.func fid1) #[] caps1.toArray)) 4 (.int .i64 s.1)) 7 (.int .i64 ((p0_s.length : Nat) : Int))) 8 (.int .i64 s.2)) | (.inr s), e, L, tm => e = .exit 0 ∧ ∃ (tm0 : Nat → Value), L = [] ∧ tm = (upd (upd (upd (upd (upd tm0 0 (.slice A0_0 p0_s.length c0_0)) 1 (.func (.func fid1) #[] caps1.toArray)) 4 (.int .i64 s.1)) 7 (.int .i64 ((p0_s.length : Nat) : Int))) 8 (.int .i64 s.2))) hl9 ⟨_, rfl, (keep (keep (keep (keep (keep rfl rfl) rfl) rfl) rfl) rfl)⟩ ?_ ?_
  · rintro s2 L tm st ⟨tm0_s2, rfl, rfl⟩ h
    unfold slices_IndexFunc_calx_api_Look_calx_api_Look_l1 at h
    refine cx_seq ?_
    refine cx_region ?_
    refine ox_y rfl (y_lss rfl rfl) ?_
    refine ox_nil ?_
    refine ex_then ?_
    refine cx_seq ?_
    rcases ite_some h with ⟨hp4, h⟩ | ⟨hp4, h⟩
    · refine cx_true (congrArg Value.bool hp4) ?_
      refine cx_skip ?_
      refine ex_then ?_
      refine cx_seq ?_
      refine cx_block ?_
      refine cx_seq ?_
      refine cx_region ?_
      refine ox_y rfl (y_move_int rfl) ?_
      refine ox_y rfl (y_assign_int rfl) ?_
      refine ox_nil ?_
      refine ex_then ?_
      refine cx_seq ?_
      refine cx_region ?_
      refine ox_y rfl (y_move (v := .func (.func fid1) #[] caps1.toArray) rfl) ?_
      refine ox_y rfl (y_move_slice rfl) ?_
      refine ox_y rfl (y_move_int rfl) ?_
      obtain ⟨hg5, h⟩ := guardO_some h
      refine ox_y rfl (y_indexR sl_22 (by decide) hg5.1 hg5.2 (RdL.arg hr0_0) (encL_len TLook_cells_len rfl) rfl rfl) ?_
      refine ox_y rfl (y_loadRN (A := A0_0) (j := (Int.toNat s2.2 * 5)) [.int .i64 ((rdL p0_s s2.2).fID), .int .i64 ((rdL p0_s s2.2).fAt.fFoot), .int .i64 ((rdL p0_s s2.2).fAt.fHour), .int .i64 ((rdL p0_s s2.2).fHeat.fLo), .int .i64 ((rdL p0_s s2.2).fHeat.fHi)] ag_34 (Nat.succ_pos _) (RdL.arg hr0_0) rfl (encL_gets TLook_cells_len hg5.1 (lt_nat hg5.2 rfl))) ?_
      obtain ⟨y6, hy7, h⟩ := bind_some h
      refine ox_y rfl (y_callv [.agg #[.int .i64 ((rdL p0_s s2.2).fID), .int .i64 ((rdL p0_s s2.2).fAt.fFoot), .int .i64 ((rdL p0_s s2.2).fAt.fHour), .int .i64 ((rdL p0_s s2.2).fHeat.fLo), .int .i64 ((rdL p0_s s2.2).fHeat.fHi)]] hgo1 rfl rfl (fun W2 hW2 => hof1 W2 hW2.below (TLook.mk ((rdL p0_s s2.2).fID) (TSpot.mk ((rdL p0_s s2.2).fAt.fFoot) ((rdL p0_s s2.2).fAt.fHour)) (TSpan.mk ((rdL p0_s s2.2).fHeat.fLo) ((rdL p0_s s2.2).fHeat.fHi))) y6 hy7)) ?_
      refine ox_nil ?_
      refine ex_then ?_
      rcases ite_some h with ⟨hp8, h⟩ | ⟨hp8, h⟩
      · refine cx_true (congrArg Value.bool hp8) ?_
        refine cx_seq ?_
        refine cx_region ?_
        refine ox_y rfl (y_move_int rfl) ?_
        refine ox_y rfl (y_assign_int rfl) ?_
        refine ox_nil ?_
        refine ex_then ?_
        refine cx_ret ?_
        refine ex_block_ret ?_
        refine ex_then_ret ?_
        obtain rfl := Option.some.inj h
        exact ex_stop ⟨rfl, _, rfl, (keep (keep (keep (keep (keep rfl rfl) rfl) rfl) rfl) rfl)⟩
      · refine cx_false (congrArg Value.bool hp8) ?_
        refine cx_skip ?_
        refine ex_block ?_
        refine ex_then ?_
        refine cx_region ?_
        refine ox_y rfl (y_add rfl rfl) ?_
        refine ox_y rfl (y_move_int rfl) ?_
        refine ox_nil ?_
        obtain rfl := Option.some.inj h
        exact ex_next ⟨_, rfl, (keep (keep (keep (keep (keep rfl rfl) rfl) rfl) rfl) rfl)⟩
    · refine cx_false (congrArg Value.bool hp4) ?_
      refine cx_exit ?_
      refine ex_then_exit ?_
      obtain rfl := Option.some.inj h
      exact ex_stop ⟨rfl, _, rfl, (keep (keep (keep (keep (keep rfl rfl) rfl) rfl) rfl) rfl)⟩
  · intro e L tm hJ
    rcases u3 with u10 | u11
    · dsimp only at h hJ
      obtain ⟨rfl, tm0_u10, rfl, rfl⟩ := hJ
      refine ⟨(by intro hc; cases hc), ?_⟩
      refine ex_block_ret ?_
      refine ex_then_ret ?_
      obtain rfl := Option.some.inj h
      exact ex_res1 (.inl rfl) rfl (resV_tmp (v := .int .i64 u10.1) rfl) (fun W2 hW2 => ⟨rfl, hW2.none⟩)
    · dsimp only at h hJ
      obtain ⟨rfl, tm0_u11, rfl, rfl⟩ := hJ
      refine ⟨(by intro hc; cases hc), ?_⟩
      refine ex_block_here ?_
      refine ex_then ?_
      refine cx_seq ?_
      refine cx_region ?_
      refine ox_y rfl (y_assign_int rfl) ?_
      refine ox_nil ?_
      refine ex_then ?_
      refine cx_ret ?_
      obtain rfl := Option.some.inj h
      exact ex_res1 (.inl rfl) rfl (resV_tmp (v := .int .i64 (-1)) rfl) (fun W2 hW2 => ⟨rfl, hW2.none⟩)

/-! calx/fire.find$1 -/
set_option maxRecDepth 100000 in
theorem fire_find_1_ok (p0_x : TLook) (cap0 : Int) (res : Bool) (h : fire_find_1 p0_x cap0 = some res) (W : World) (bc0 : Nat) (hcap0 : Rd W (some ⟨bc0, 0, none⟩) 1 1 (cI cap0)) :
    Calls Try.prog 96 [.agg #[.int .i64 p0_x.fID, .int .i64 p0_x.fAt.fFoot, .int .i64 p0_x.fAt.fHour, .int .i64 p0_x.fHeat.fLo, .int .i64 p0_x.fHeat.fHi], .pointer (some ⟨bc0, 0, none⟩)].toArray W fun e W2 => e = .returned (.bool res) ∧ Ext W W2 [] := by
  unfold fire_find_1 at h
  refine calls_enter (m := 8) Try.func96 rfl rfl (Nat.le_of_ble_eq_true rfl) ?_
  refine cx_seq ?_
  refine cx_region ?_
  refine ox_box [.int .i64 p0_x.fID, .int .i64 p0_x.fAt.fFoot, .int .i64 p0_x.fAt.fHour, .int .i64 p0_x.fHeat.fLo, .int .i64 p0_x.fHeat.fHi] rfl rfl rfl (fun b1 => ?_)
  refine ox_y rfl (y_assign_bool rfl) ?_
  refine ox_nil ?_
  refine ex_then ?_
  refine cx_seq ?_
  refine cx_region ?_
  refine ox_y rfl (y_fieldAddr fo_34_0 rfl) ?_
  refine ox_y rfl (y_load1 0 (v := .int .i64 p0_x.fID) sc_3 rfl rfl rfl) ?_
  refine ox_y rfl (y_loadR1 (A := (some ⟨bc0, 0, none⟩)) (j := 0) (v := .int .i64 cap0) sc_3 (RdL.arg hcap0) rfl rfl) ?_
  refine ox_y rfl (y_eql rfl rfl) ?_
  refine ox_y rfl (y_assign_bool rfl) ?_
  refine ox_nil ?_
  refine ex_then ?_
  refine cx_ret ?_
  obtain rfl := Option.some.inj h
  exact ex_res1 (.inl rfl) rfl (resV_tmp (v := .bool (p0_x.fID == cap0)) rfl) (fun W2 hW2 => ⟨rfl, hW2.none⟩)

/-! calx/fire.find -/
set_option maxRecDepth 100000 in
theorem fire_find_ok (p0_l : (List TLook)) (p1_id : Int) (res : Int) (h : fire_find p0_l p1_id = some res) (W : World) (A0_0 : Option Addr) (n0_0 c0_0 : Nat) (hn0_0 : n0_0 = p0_l.length) (hr0_0 : Rd W A0_0 n0_0 c0_0 (encL TLook_cells p0_l)) :
    Calls Try.prog 52 [.slice A0_0 n0_0 c0_0, .int .i64 p1_id].toArray W fun e W2 => e = .returned (.int .i64 res) ∧ Ext W W2 [] := by
  subst hn0_0
  unfold fire_find at h
  refine calls_enter (m := 8) Try.func52 rfl rfl (Nat.le_of_ble_eq_true rfl) ?_
  refine cx_seq ?_
  refine cx_region ?_
  refine ox_box [.int .i64 p1_id] rfl rfl rfl (fun b1 => ?_)
  refine ox_y rfl (y_assign_int rfl) ?_
  refine ox_nil ?_
  refine ex_then ?_
  refine cx_seq ?_
  refine cx_region ?_
  refine ox_y rfl (y_move_slice rfl) ?_
  refine ox_y rfl (y_makeFunc [.pointer (some ⟨b1, 0, none⟩)] rfl rfl) ?_
  obtain ⟨y3, hy4, h⟩ := bind_some h
  refine ox_y rfl (y_call [.slice A0_0 p0_l.length c0_0, .func (.func 96) #[] #[.pointer (some ⟨b1, 0, none⟩)]] go_95 rfl (fun W2 hW2 => slices_IndexFunc_calx_api_Look_calx_api_Look_ok p0_l (fun x2 => fire_find_1 x2 p1_id) y3 hy4 W2 A0_0 p0_l.length c0_0 rfl ((RdL.arg hr0_0) W2 hW2) 96 [.pointer (some ⟨b1, 0, none⟩)] go_96 (fun W3 hb x y hxy => fire_find_1_ok x p1_id y hxy W3 b1 (((RdL.cells 0 rfl) W2 hW2).later hb))) rfl) ?_
  refine ox_y rfl (y_assign_int rfl) ?_
  refine ox_nil ?_
  refine ex_then ?_
  refine cx_ret ?_
  obtain rfl := Option.some.inj h
  exact ex_res1 (.inl rfl) rfl (resV_tmp (v := .int .i64 y3) rfl) (fun W2 hW2 => ⟨rfl, hW2.none⟩)

/-! calx/fire.Check -/
set_option maxRecDepth 100000 in
theorem fire_Check_ok (p0_f : TFire) (res : Int) (h : fire_Check p0_f = some res) (W : World) (A0_4 : Option Addr) (n0_4 c0_4 : Nat) (hn0_4 : n0_4 = p0_f.fLooks.length) (hr0_4 : Rd W A0_4 n0_4 c0_4 (encL TLook_cells p0_f.fLooks)) :
    Calls Try.prog 12 [.agg #[.int .i64 p0_f.fRise, .int .i64 p0_f.fFall, .int .i64 p0_f.fUp, .int .i64 p0_f.fDown, .slice A0_4 n0_4 c0_4]].toArray W fun e W2 => e = .returned (.int .i64 res) ∧ Ext W W2 [] := by
  subst hn0_4
  unfold fire_Check at h
  refine calls_enter (m := 46) Try.func12 rfl rfl (Nat.le_of_ble_eq_true rfl) ?_
  refine cx_seq ?_
  refine cx_region ?_
  refine ox_box [.int .i64 p0_f.fRise, .int .i64 p0_f.fFall, .int .i64 p0_f.fUp, .int .i64 p0_f.fDown, .slice A0_4 p0_f.fLooks.length c0_4] rfl rfl rfl (fun b1 => ?_)
  refine ox_y rfl (y_assign_int rfl) ?_
  refine ox_nil ?_
  refine ex_then ?_
  refine cx_seq ?_
  refine cx_seq ?_
  refine cx_region ?_
  refine ox_y rfl (y_fieldAddr fo_24_0 rfl) ?_
  refine ox_y rfl (y_load1 0 (v := .int .i64 p0_f.fRise) sc_3 rfl rfl rfl) ?_
  refine ox_y rfl (y_fieldAddr fo_24_1 rfl) ?_
  refine ox_y rfl (y_load1 0 (v := .int .i64 p0_f.fFall) sc_3 rfl rfl rfl) ?_
  refine ox_y rfl (y_fieldAddr fo_24_2 rfl) ?_
  refine ox_y rfl (y_load1 0 (v := .int .i64 p0_f.fUp) sc_3 rfl rfl rfl) ?_
  refine ox_y rfl (y_fieldAddr fo_24_3 rfl) ?_
  refine ox_y rfl (y_load1 0 (v := .int .i64 p0_f.fDown) sc_3 rfl rfl rfl) ?_
  refine ox_y rfl (y_buildA [.int .i64 p0_f.fRise, .int .i64 p0_f.fFall, .int .i64 p0_f.fUp, .int .i64 p0_f.fDown] ua_97 ze_97 sz_3 (by kernel_rfl)) ?_
  refine ox_y rfl (y_move_int rfl) ?_
  refine ox_nil ?_
  refine ex_then ?_
  refine cx_block ?_
  obtain ⟨u4, hl10, h⟩ := bind_some h
  refine cx_loop (fun (s : (Int × Int)) L tm => ∃ (tm0 : Nat → Value), L = [cellsR b1 24 [.int .i64 p0_f.fRise, .int .i64 p0_f.fFall, .int .i64 p0_f.fUp, .int .i64 p0_f.fDown, .slice A0_4 p0_f.fLooks.length c0_4]] ∧ tm = (upd (upd (upd (upd (upd tm0 0 (.agg #[.int .i64 p0_f.fRise, .int .i64 p0_f.fFall, .int .i64 p0_f.fUp, .int .i64 p0_f.fDown, .slice A0_4 p0_f.fLooks.length c0_4])) 1 (.pointer (some ⟨b1, 0, none⟩))) 2 (.int .i64 s.1)) 15 (.agg #[.int .i64 p0_f.fRise, .int .i64 p0_f.fFall, .int .i64 p0_f.fUp, .int .i64 p0_f.fDown])) 16 (.int .i64 s.2))) (fun | (.inl s), e, L, tm => e = .ret ∧ ∃ (tm0 : Nat → Value), L = [cellsR b1 24 [.int .i64 p0_f.fRise, .int .i64 p0_f.fFall, .int .i64 p0_f.fUp, .int .i64 p0_f.fDown, .slice A0_4 p0_f.fLooks.length c0_4]] ∧ tm = (upd (upd (upd (upd (upd tm0 0 (.agg #[.int .i64 p0_f.fRise, .int .i64 p0_f.fFall, .int .i64 p0_f.fUp, .int .i64 p0_f.fDown, .slice A0_4 p0_f.fLooks.length c0_4])) 1 (.pointer (some ⟨b1, 0, none⟩))) 2 (.int .i64 s.1)) 15 (.agg #[.int .i64 p0_f.fRise, .int .i64 p0_f.fFall, .int .i64 p0_f.fUp, .int .i64 p0_f.fDown])) 16 (.int .i64 s.2)) | (.inr s), e, L, tm => e = .exit 0 ∧ ∃ (tm0 : Nat → Value), L = [cellsR b1 24 [.int .i64 p0_f.fRise, .int .i64 p0_f.fFall, .int .i64 p0_f.fUp, .int .i64 p0_f.fDown, .slice A0_4 p0_f.fLooks.length c0_4]] ∧ tm = (upd (upd (upd (upd (upd tm0 0 (.agg #[.int .i64 p0_f.fRise, .int .i64 p0_f.fFall, .int .i64 p0_f.fUp, .int .i64 p0_f.fDown, .slice A0_4 p0_f.fLooks.length c0_4])) 1 (.pointer (some ⟨b1, 0, none⟩))) 2 (.int .i64 s.1)) 15 (.agg #[.int .i64 p0_f.fRise, .int .i64 p0_f.fFall, .int .i64 p0_f.fUp, .int .i64 p0_f.fDown])) 16 (.int .i64 s.2))) hl10 ⟨_, rfl, (keep (keep (keep (keep (keep rfl rfl) rfl) rfl) rfl) rfl)⟩ ?_ ?_
  · rintro s3 L tm st ⟨tm0_s3, rfl, rfl⟩ h
    unfold fire_Check_l1 at h
    refine cx_seq ?_
    refine cx_region ?_
    refine ox_y rfl (y_lss rfl rfl) ?_
    refine ox_nil ?_
    refine ex_then ?_
    refine cx_seq ?_
    rcases ite_some h with ⟨hp5, h⟩ | ⟨hp5, h⟩
    · refine cx_true (congrArg Value.bool hp5) ?_
      refine cx_skip ?_
      refine ex_then ?_
      refine cx_seq ?_
      refine cx_block ?_
      refine cx_seq ?_
      refine cx_region ?_
      obtain ⟨hg6, h⟩ := guardO_some h
      refine ox_y rfl (y_index4i (a := p0_f.fRise) (b := p0_f.fFall) (c := p0_f.fUp) (d := p0_f.fDown) ua_97 sc_3 hg6.1 hg6.2 rfl rfl) ?_
      refine ox_y rfl (y_assign_int rfl) ?_
      refine ox_nil ?_
      refine ex_then ?_
      refine cx_seq ?_
      refine cx_region ?_
      refine ox_y rfl (y_move_int rfl) ?_
      obtain ⟨y7, hy8, h⟩ := bind_some h
      refine ox_y rfl (y_call [.int .i64 (sel4 p0_f.fRise p0_f.fFall p0_f.fUp p0_f.fDown s3.2), .int .i64 0, .int .i64 200] go_50 rfl (fun W2 hW2 => fire_within_ok (sel4 p0_f.fRise p0_f.fFall p0_f.fUp p0_f.fDown s3.2) 0 200 y7 hy8 W2 ) rfl) ?_
      refine ox_y rfl (y_not rfl) ?_
      refine ox_nil ?_
      refine ex_then ?_
      rcases ite_some h with ⟨hp9, h⟩ | ⟨hp9, h⟩
      · refine cx_true (congrArg Value.bool hp9) ?_
        refine cx_seq ?_
        refine cx_region ?_
        refine ox_y rfl (y_assign_int rfl) ?_
        refine ox_nil ?_
        refine ex_then ?_
        refine cx_ret ?_
        refine ex_block_ret ?_
        refine ex_then_ret ?_
        obtain rfl := Option.some.inj h
        exact ex_stop ⟨rfl, _, rfl, (keep (keep (keep (keep (keep rfl rfl) rfl) rfl) rfl) rfl)⟩
      · refine cx_false (congrArg Value.bool hp9) ?_
        refine cx_skip ?_
        refine ex_block ?_
        refine ex_then ?_
        refine cx_region ?_
        refine ox_y rfl (y_add rfl rfl) ?_
        refine ox_y rfl (y_move_int rfl) ?_
        refine ox_nil ?_
        obtain rfl := Option.some.inj h
        exact ex_next ⟨_, rfl, (keep (keep (keep (keep (keep rfl rfl) rfl) rfl) rfl) rfl)⟩
    · refine cx_false (congrArg Value.bool hp5) ?_
      refine cx_exit ?_
      refine ex_then_exit ?_
      obtain rfl := Option.some.inj h
      exact ex_stop ⟨rfl, _, rfl, (keep (keep (keep (keep (keep rfl rfl) rfl) rfl) rfl) rfl)⟩
  · intro e L tm hJ
    rcases u4 with u11 | u12
    · dsimp only at h hJ
      obtain ⟨rfl, tm0_u11, rfl, rfl⟩ := hJ
      refine ⟨(by intro hc; cases hc), ?_⟩
      refine ex_block_ret ?_
      refine ex_then_ret ?_
      obtain rfl := Option.some.inj h
      exact ex_res1 (.inl rfl) rfl (resV_tmp (v := .int .i64 u11.1) rfl) (fun W2 hW2 => ⟨rfl, hW2.none⟩)
    · dsimp only at h hJ
      obtain ⟨rfl, tm0_u12, rfl, rfl⟩ := hJ
      refine ⟨(by intro hc; cases hc), ?_⟩
      refine ex_block_here ?_
      refine ex_then ?_
      refine cx_seq ?_
      refine cx_seq ?_
      refine cx_region ?_
      refine ox_y rfl (y_fieldAddr fo_24_4 rfl) ?_
      refine ox_y rfl (y_load1 0 (v := .slice A0_4 p0_f.fLooks.length c0_4) sc_22 rfl rfl rfl) ?_
      refine ox_y rfl (y_len (us := []) us_22 rfl) ?_
      refine ox_y rfl (y_gtr rfl rfl) ?_
      refine ox_nil ?_
      refine ex_then ?_
      rcases ite_some h with ⟨hp13, h⟩ | ⟨hp13, h⟩
      · refine cx_true (congrArg Value.bool hp13) ?_
        refine cx_seq ?_
        refine cx_region ?_
        refine ox_y rfl (y_assign_int rfl) ?_
        refine ox_nil ?_
        refine ex_then ?_
        refine cx_ret ?_
        refine ex_then_ret ?_
        obtain rfl := Option.some.inj h
        exact ex_res1 (.inl rfl) rfl (resV_tmp (v := .int .i64 2) rfl) (fun W2 hW2 => ⟨rfl, hW2.none⟩)
      · refine cx_false (congrArg Value.bool hp13) ?_
        refine cx_skip ?_
        refine ex_then ?_
        refine cx_seq ?_
        refine cx_seq ?_
        refine cx_region ?_
        refine ox_y rfl (y_fieldAddr fo_24_4 rfl) ?_
        refine ox_y rfl (y_load1 0 (v := .slice A0_4 p0_f.fLooks.length c0_4) sc_22 rfl rfl rfl) ?_
        refine ox_y rfl (y_len (us := []) us_22 rfl) ?_
        refine ox_y rfl (y_move_int rfl) ?_
        refine ox_nil ?_
        refine ex_then ?_
        refine cx_block ?_
        obtain ⟨u16, hl26, h⟩ := bind_some h
        refine cx_loop (fun (s : (Int × Int)) L tm => ∃ (tm0 : Nat → Value), L = [cellsR b1 24 [.int .i64 p0_f.fRise, .int .i64 p0_f.fFall, .int .i64 p0_f.fUp, .int .i64 p0_f.fDown, .slice A0_4 p0_f.fLooks.length c0_4]] ∧ tm = (upd (upd (upd (upd (upd (upd (upd (upd (upd tm0 0 (.agg #[.int .i64 p0_f.fRise, .int .i64 p0_f.fFall, .int .i64 p0_f.fUp, .int .i64 p0_f.fDown, .slice A0_4 p0_f.fLooks.length c0_4])) 1 (.pointer (some ⟨b1, 0, none⟩))) 2 (.int .i64 s.1)) 15 (.agg #[.int .i64 p0_f.fRise, .int .i64 p0_f.fFall, .int .i64 p0_f.fUp, .int .i64 p0_f.fDown])) 16 (.int .i64 u12.2)) 26 (.bool (decide (24 < ((p0_f.fLooks.length : Nat) : Int))))) 28 (.slice A0_4 p0_f.fLooks.length c0_4)) 29 (.int .i64 ((p0_f.fLooks.length : Nat) : Int))) 30 (.int .i64 s.2))) (fun | (.inl s), e, L, tm => e = .ret ∧ ∃ (tm0 : Nat → Value), L = [cellsR b1 24 [.int .i64 p0_f.fRise, .int .i64 p0_f.fFall, .int .i64 p0_f.fUp, .int .i64 p0_f.fDown, .slice A0_4 p0_f.fLooks.length c0_4]] ∧ tm = (upd (upd (upd (upd (upd (upd (upd (upd (upd tm0 0 (.agg #[.int .i64 p0_f.fRise, .int .i64 p0_f.fFall, .int .i64 p0_f.fUp, .int .i64 p0_f.fDown, .slice A0_4 p0_f.fLooks.length c0_4])) 1 (.pointer (some ⟨b1, 0, none⟩))) 2 (.int .i64 s.1)) 15 (.agg #[.int .i64 p0_f.fRise, .int .i64 p0_f.fFall, .int .i64 p0_f.fUp, .int .i64 p0_f.fDown])) 16 (.int .i64 u12.2)) 26 (.bool (decide (24 < ((p0_f.fLooks.length : Nat) : Int))))) 28 (.slice A0_4 p0_f.fLooks.length c0_4)) 29 (.int .i64 ((p0_f.fLooks.length : Nat) : Int))) 30 (.int .i64 s.2)) | (.inr s), e, L, tm => e = .exit 2 ∧ ∃ (tm0 : Nat → Value), L = [cellsR b1 24 [.int .i64 p0_f.fRise, .int .i64 p0_f.fFall, .int .i64 p0_f.fUp, .int .i64 p0_f.fDown, .slice A0_4 p0_f.fLooks.length c0_4]] ∧ tm = (upd (upd (upd (upd (upd (upd (upd (upd (upd tm0 0 (.agg #[.int .i64 p0_f.fRise, .int .i64 p0_f.fFall, .int .i64 p0_f.fUp, .int .i64 p0_f.fDown, .slice A0_4 p0_f.fLooks.length c0_4])) 1 (.pointer (some ⟨b1, 0, none⟩))) 2 (.int .i64 s.1)) 15 (.agg #[.int .i64 p0_f.fRise, .int .i64 p0_f.fFall, .int .i64 p0_f.fUp, .int .i64 p0_f.fDown])) 16 (.int .i64 u12.2)) 26 (.bool (decide (24 < ((p0_f.fLooks.length : Nat) : Int))))) 28 (.slice A0_4 p0_f.fLooks.length c0_4)) 29 (.int .i64 ((p0_f.fLooks.length : Nat) : Int))) 30 (.int .i64 s.2))) hl26 ⟨_, rfl, (keep (keep (keep (keep (keep (keep (keep (keep (keep rfl rfl) rfl) rfl) rfl) rfl) rfl) rfl) rfl) rfl)⟩ ?_ ?_
        · rintro s15 L tm st ⟨tm0_s15, rfl, rfl⟩ h
          unfold fire_Check_l2 at h
          refine cx_seq ?_
          refine cx_region ?_
          refine ox_y rfl (y_lss rfl rfl) ?_
          refine ox_nil ?_
          refine ex_then ?_
          refine cx_seq ?_
          rcases ite_some h with ⟨hp17, h⟩ | ⟨hp17, h⟩
          · refine cx_true (congrArg Value.bool hp17) ?_
            refine cx_skip ?_
            refine ex_then ?_
            refine cx_seq ?_
            refine cx_block ?_
            refine cx_seq ?_
            refine cx_region ?_
            refine ox_y rfl (y_move_int rfl) ?_
            obtain ⟨hg18, h⟩ := guardO_some h
            refine ox_y rfl (y_indexR sl_22 (by decide) hg18.1 hg18.2 (RdL.arg hr0_4) (encL_len TLook_cells_len rfl) rfl rfl) ?_
            refine ox_y rfl (y_loadRN (A := A0_4) (j := (Int.toNat s15.2 * 5)) [.int .i64 ((rdL p0_f.fLooks s15.2).fID), .int .i64 ((rdL p0_f.fLooks s15.2).fAt.fFoot), .int .i64 ((rdL p0_f.fLooks s15.2).fAt.fHour), .int .i64 ((rdL p0_f.fLooks s15.2).fHeat.fLo), .int .i64 ((rdL p0_f.fLooks s15.2).fHeat.fHi)] ag_34 (Nat.succ_pos _) (RdL.arg hr0_4) rfl (encL_gets TLook_cells_len hg18.1 (lt_nat hg18.2 rfl))) ?_
            refine ox_alloc ze_34 rfl (fun b19 => ?_)
            refine ox_y rfl (y_assign_int rfl) ?_
            refine ox_n rfl (y_storeN 1 [.int .i64 ((rdL p0_f.fLooks s15.2).fID), .int .i64 ((rdL p0_f.fLooks s15.2).fAt.fFoot), .int .i64 ((rdL p0_f.fLooks s15.2).fAt.fHour), .int .i64 ((rdL p0_f.fLooks s15.2).fHeat.fLo), .int .i64 ((rdL p0_f.fLooks s15.2).fHeat.fHi)] sz_34 rfl (Nat.le_of_ble_eq_true rfl) rfl rfl rfl) ?_
            refine ox_nil ?_
            refine ex_then ?_
            refine cx_seq ?_
            refine cx_seq ?_
            refine cx_region ?_
            refine ox_y rfl (y_loadN 1 [.int .i64 ((rdL p0_f.fLooks s15.2).fID), .int .i64 ((rdL p0_f.fLooks s15.2).fAt.fFoot), .int .i64 ((rdL p0_f.fLooks s15.2).fAt.fHour), .int .i64 ((rdL p0_f.fLooks s15.2).fHeat.fLo), .int .i64 ((rdL p0_f.fLooks s15.2).fHeat.fHi)] ag_34 rfl rfl rfl) ?_
            obtain ⟨y20, hy21, h⟩ := bind_some h
            refine ox_y rfl (y_call [.agg #[.int .i64 ((rdL p0_f.fLooks s15.2).fID), .int .i64 ((rdL p0_f.fLooks s15.2).fAt.fFoot), .int .i64 ((rdL p0_f.fLooks s15.2).fAt.fHour), .int .i64 ((rdL p0_f.fLooks s15.2).fHeat.fLo), .int .i64 ((rdL p0_f.fLooks s15.2).fHeat.fHi)]] go_51 rfl (fun W2 hW2 => fire_rightLook_ok (TLook.mk ((rdL p0_f.fLooks s15.2).fID) (TSpot.mk ((rdL p0_f.fLooks s15.2).fAt.fFoot) ((rdL p0_f.fLooks s15.2).fAt.fHour)) (TSpan.mk ((rdL p0_f.fLooks s15.2).fHeat.fLo) ((rdL p0_f.fLooks s15.2).fHeat.fHi))) y20 hy21 W2 ) rfl) ?_
            refine ox_y rfl (y_not rfl) ?_
            refine ox_nil ?_
            refine ex_then ?_
            rcases ite_some h with ⟨hp22, h⟩ | ⟨hp22, h⟩
            · refine cx_true (congrArg Value.bool hp22) ?_
              refine cx_seq ?_
              refine cx_region ?_
              refine ox_y rfl (y_assign_int rfl) ?_
              refine ox_nil ?_
              refine ex_then ?_
              refine cx_ret ?_
              refine ex_then_ret ?_
              refine ex_block_ret ?_
              refine ex_then_ret ?_
              refine ex_take 1 ?_
              obtain rfl := Option.some.inj h
              exact ex_stop ⟨rfl, _, rfl, (keep (keep (keep (keep (keep (keep (keep (keep (keep rfl rfl) rfl) rfl) rfl) rfl) rfl) rfl) rfl) rfl)⟩
            · refine cx_false (congrArg Value.bool hp22) ?_
              refine cx_skip ?_
              refine ex_then ?_
              refine cx_seq ?_
              refine cx_region ?_
              refine ox_y rfl (y_fieldAddr fo_24_4 rfl) ?_
              refine ox_y rfl (y_load1 0 (v := .slice A0_4 p0_f.fLooks.length c0_4) sc_22 rfl rfl rfl) ?_
              refine ox_y rfl (y_fieldAddr fo_34_0 rfl) ?_
              refine ox_y rfl (y_load1 1 (v := .int .i64 ((rdL p0_f.fLooks s15.2).fID)) sc_3 rfl rfl rfl) ?_
              obtain ⟨y23, hy24, h⟩ := bind_some h
              refine ox_y rfl (y_call [.slice A0_4 p0_f.fLooks.length c0_4, .int .i64 ((rdL p0_f.fLooks s15.2).fID)] go_52 rfl (fun W2 hW2 => fire_find_ok p0_f.fLooks ((rdL p0_f.fLooks s15.2).fID) y23 hy24 W2 A0_4 p0_f.fLooks.length c0_4 rfl ((RdL.arg hr0_4) W2 hW2)) rfl) ?_
              refine ox_y rfl (y_move_int rfl) ?_
              refine ox_y rfl (y_lss rfl rfl) ?_
              refine ox_nil ?_
              refine ex_then ?_
              rcases ite_some h with ⟨hp25, h⟩ | ⟨hp25, h⟩
              · refine cx_true (congrArg Value.bool hp25) ?_
                refine cx_seq ?_
                refine cx_region ?_
                refine ox_y rfl (y_assign_int rfl) ?_
                refine ox_nil ?_
                refine ex_then ?_
                refine cx_ret ?_
                refine ex_block_ret ?_
                refine ex_then_ret ?_
                refine ex_take 1 ?_
                obtain rfl := Option.some.inj h
                exact ex_stop ⟨rfl, _, rfl, (keep (keep (keep (keep (keep (keep (keep (keep (keep rfl rfl) rfl) rfl) rfl) rfl) rfl) rfl) rfl) rfl)⟩
              · refine cx_false (congrArg Value.bool hp25) ?_
                refine cx_skip ?_
                refine ex_block ?_
                refine ex_then ?_
                refine cx_region ?_
                refine ox_y rfl (y_add rfl rfl) ?_
                refine ox_y rfl (y_move_int rfl) ?_
                refine ox_nil ?_
                refine ex_take 1 ?_
                obtain rfl := Option.some.inj h
                exact ex_next ⟨_, rfl, (keep (keep (keep (keep (keep (keep (keep (keep (keep rfl rfl) rfl) rfl) rfl) rfl) rfl) rfl) rfl) rfl)⟩
          · refine cx_false (congrArg Value.bool hp17) ?_
            refine cx_exit ?_
            refine ex_then_exit ?_
            obtain rfl := Option.some.inj h
            exact ex_stop ⟨rfl, _, rfl, (keep (keep (keep (keep (keep (keep (keep (keep (keep rfl rfl) rfl) rfl) rfl) rfl) rfl) rfl) rfl) rfl)⟩
        · intro e L tm hJ
          rcases u16 with u27 | u28
          · dsimp only at h hJ
            obtain ⟨rfl, tm0_u27, rfl, rfl⟩ := hJ
            refine ⟨(by intro hc; cases hc), ?_⟩
            refine ex_block_ret ?_
            refine ex_then_ret ?_
            obtain rfl := Option.some.inj h
            exact ex_res1 (.inl rfl) rfl (resV_tmp (v := .int .i64 u27.1) rfl) (fun W2 hW2 => ⟨rfl, hW2.none⟩)
          · dsimp only at h hJ
            obtain ⟨rfl, tm0_u28, rfl, rfl⟩ := hJ
            refine ⟨(by intro hc; cases hc), ?_⟩
            refine ex_block_here ?_
            refine ex_then ?_
            refine cx_seq ?_
            refine cx_region ?_
            refine ox_y rfl (y_assign_int rfl) ?_
            refine ox_nil ?_
            refine ex_then ?_
            refine cx_ret ?_
            obtain rfl := Option.some.inj h
            exact ex_res1 (.inl rfl) rfl (resV_tmp (v := .int .i64 0) rfl) (fun W2 hW2 => ⟨rfl, hW2.none⟩)

/-! calx/fire.far -/
set_option maxRecDepth 100000 in
theorem fire_far_ok (p0_f : TFire) (p1_p : TSpot) (p2_q : TSpot) (res : Int) (h : fire_far p0_f p1_p p2_q = some res) (W : World) (A0_4 : Option Addr) (n0_4 c0_4 : Nat) (hn0_4 : n0_4 = p0_f.fLooks.length) (hr0_4 : Rd W A0_4 n0_4 c0_4 (encL TLook_cells p0_f.fLooks)) :
    Calls Try.prog 73 [.agg #[.int .i64 p0_f.fRise, .int .i64 p0_f.fFall, .int .i64 p0_f.fUp, .int .i64 p0_f.fDown, .slice A0_4 n0_4 c0_4], .agg #[.int .i64 p1_p.fFoot, .int .i64 p1_p.fHour], .agg #[.int .i64 p2_q.fFoot, .int .i64 p2_q.fHour]].toArray W fun e W2 => e = .returned (.int .i64 res) ∧ Ext W W2 [] := by
  subst hn0_4
  unfold fire_far at h
  refine calls_enter (m := 55) Try.func73 rfl rfl (Nat.le_of_ble_eq_true rfl) ?_
  refine cx_seq ?_
  refine cx_region ?_
  refine ox_box [.int .i64 p0_f.fRise, .int .i64 p0_f.fFall, .int .i64 p0_f.fUp, .int .i64 p0_f.fDown, .slice A0_4 p0_f.fLooks.length c0_4] rfl rfl rfl (fun b1 => ?_)
  refine ox_box [.int .i64 p1_p.fFoot, .int .i64 p1_p.fHour] rfl rfl rfl (fun b2 => ?_)
  refine ox_box [.int .i64 p2_q.fFoot, .int .i64 p2_q.fHour] rfl rfl rfl (fun b3 => ?_)
  refine ox_y rfl (y_assign_int rfl) ?_
  refine ox_nil ?_
  refine ex_then ?_
  refine cx_seq ?_
  refine cx_region ?_
  refine ox_y rfl (y_fieldAddr fo_26_1 rfl) ?_
  refine ox_y rfl (y_load1 2 (v := .int .i64 p2_q.fHour) sc_3 rfl rfl rfl) ?_
  refine ox_y rfl (y_fieldAddr fo_26_1 rfl) ?_
  refine ox_y rfl (y_load1 1 (v := .int .i64 p1_p.fHour) sc_3 rfl rfl rfl) ?_
  refine ox_y rfl (y_sub rfl rfl) ?_
  refine ox_y rfl (y_fieldAddr fo_26_1 rfl) ?_
  refine ox_y rfl (y_load1 1 (v := .int .i64 p1_p.fHour) sc_3 rfl rfl rfl) ?_
  refine ox_y rfl (y_fieldAddr fo_26_1 rfl) ?_
  refine ox_y rfl (y_load1 2 (v := .int .i64 p2_q.fHour) sc_3 rfl rfl rfl) ?_
  refine ox_y rfl (y_sub rfl rfl) ?_
  refine ox_y rfl (y_fieldAddr fo_26_0 rfl) ?_
  refine ox_y rfl (y_load1 2 (v := .int .i64 p2_q.fFoot) sc_3 rfl rfl rfl) ?_
  refine ox_y rfl (y_fieldAddr fo_26_0 rfl) ?_
  refine ox_y rfl (y_load1 1 (v := .int .i64 p1_p.fFoot) sc_3 rfl rfl rfl) ?_
  refine ox_y rfl (y_sub rfl rfl) ?_
  refine ox_y rfl (y_fieldAddr fo_26_0 rfl) ?_
  refine ox_y rfl (y_load1 1 (v := .int .i64 p1_p.fFoot) sc_3 rfl rfl rfl) ?_
  refine ox_y rfl (y_fieldAddr fo_26_0 rfl) ?_
  refine ox_y rfl (y_load1 2 (v := .int .i64 p2_q.fFoot) sc_3 rfl rfl rfl) ?_
  refine ox_y rfl (y_sub rfl rfl) ?_
  refine ox_y rfl (y_buildA [.int .i64 (w64 (p2_q.fHour - p1_p.fHour)), .int .i64 (w64 (p1_p.fHour - p2_q.fHour)), .int .i64 (w64 (p2_q.fFoot - p1_p.fFoot)), .int .i64 (w64 (p1_p.fFoot - p2_q.fFoot))] ua_97 ze_97 sz_3 (by kernel_rfl)) ?_
  refine ox_alloc ze_97 rfl (fun b4 => ?_)
  refine ox_n rfl (y_storeN 3 [.int .i64 (w64 (p2_q.fHour - p1_p.fHour)), .int .i64 (w64 (p1_p.fHour - p2_q.fHour)), .int .i64 (w64 (p2_q.fFoot - p1_p.fFoot)), .int .i64 (w64 (p1_p.fFoot - p2_q.fFoot))] sz_97 rfl (Nat.le_of_ble_eq_true rfl) rfl rfl rfl) ?_
  refine ox_nil ?_
  refine ex_then ?_
  refine cx_seq ?_
  refine cx_region ?_
  refine ox_y rfl (y_assign_int rfl) ?_
  refine ox_nil ?_
  refine ex_then ?_
  refine cx_seq ?_
  refine cx_seq ?_
  refine cx_region ?_
  refine ox_y rfl (y_fieldAddr fo_24_0 rfl) ?_
  refine ox_y rfl (y_load1 0 (v := .int .i64 p0_f.fRise) sc_3 rfl rfl rfl) ?_
  refine ox_y rfl (y_fieldAddr fo_24_1 rfl) ?_
  refine ox_y rfl (y_load1 0 (v := .int .i64 p0_f.fFall) sc_3 rfl rfl rfl) ?_
  refine ox_y rfl (y_fieldAddr fo_24_2 rfl) ?_
  refine ox_y rfl (y_load1 0 (v := .int .i64 p0_f.fUp) sc_3 rfl rfl rfl) ?_
  refine ox_y rfl (y_fieldAddr fo_24_3 rfl) ?_
  refine ox_y rfl (y_load1 0 (v := .int .i64 p0_f.fDown) sc_3 rfl rfl rfl) ?_
  refine ox_y rfl (y_buildA [.int .i64 p0_f.fRise, .int .i64 p0_f.fFall, .int .i64 p0_f.fUp, .int .i64 p0_f.fDown] ua_97 ze_97 sz_3 (by kernel_rfl)) ?_
  refine ox_y rfl (y_move_int rfl) ?_
  refine ox_nil ?_
  refine ex_then ?_
  refine cx_block ?_
  obtain ⟨u7, hl11, h⟩ := bind_some h
  refine cx_loop (fun (s : (Int × Int)) L tm => ∃ (tm0 : Nat → Value), L = [cellsR b1 24 [.int .i64 p0_f.fRise, .int .i64 p0_f.fFall, .int .i64 p0_f.fUp, .int .i64 p0_f.fDown, .slice A0_4 p0_f.fLooks.length c0_4], cellsR b2 26 [.int .i64 p1_p.fFoot, .int .i64 p1_p.fHour], cellsR b3 26 [.int .i64 p2_q.fFoot, .int .i64 p2_q.fHour], cellsR b4 97 [.int .i64 (w64 (p2_q.fHour - p1_p.fHour)), .int .i64 (w64 (p1_p.fHour - p2_q.fHour)), .int .i64 (w64 (p2_q.fFoot - p1_p.fFoot)), .int .i64 (w64 (p1_p.fFoot - p2_q.fFoot))]] ∧ tm = (upd (upd (upd (upd (upd (upd (upd (upd (upd (upd (upd tm0 0 (.agg #[.int .i64 p0_f.fRise, .int .i64 p0_f.fFall, .int .i64 p0_f.fUp, .int .i64 p0_f.fDown, .slice A0_4 p0_f.fLooks.length c0_4])) 1 (.agg #[.int .i64 p1_p.fFoot, .int .i64 p1_p.fHour])) 2 (.agg #[.int .i64 p2_q.fFoot, .int .i64 p2_q.fHour])) 3 (.pointer (some ⟨b1, 0, none⟩))) 4 (.pointer (some ⟨b2, 0, none⟩))) 5 (.pointer (some ⟨b3, 0, none⟩))) 6 (.int .i64 0)) 7 (.pointer (some ⟨b4, 0, none⟩))) 8 (.int .i64 s.1)) 40 (.agg #[.int .i64 p0_f.fRise, .int .i64 p0_f.fFall, .int .i64 p0_f.fUp, .int .i64 p0_f.fDown])) 41 (.int .i64 s.2))) (fun s e L tm => e = .exit 0 ∧ ∃ (tm0 : Nat → Value), L = [cellsR b1 24 [.int .i64 p0_f.fRise, .int .i64 p0_f.fFall, .int .i64 p0_f.fUp, .int .i64 p0_f.fDown, .slice A0_4 p0_f.fLooks.length c0_4], cellsR b2 26 [.int .i64 p1_p.fFoot, .int .i64 p1_p.fHour], cellsR b3 26 [.int .i64 p2_q.fFoot, .int .i64 p2_q.fHour], cellsR b4 97 [.int .i64 (w64 (p2_q.fHour - p1_p.fHour)), .int .i64 (w64 (p1_p.fHour - p2_q.fHour)), .int .i64 (w64 (p2_q.fFoot - p1_p.fFoot)), .int .i64 (w64 (p1_p.fFoot - p2_q.fFoot))]] ∧ tm = (upd (upd (upd (upd (upd (upd (upd (upd (upd (upd (upd tm0 0 (.agg #[.int .i64 p0_f.fRise, .int .i64 p0_f.fFall, .int .i64 p0_f.fUp, .int .i64 p0_f.fDown, .slice A0_4 p0_f.fLooks.length c0_4])) 1 (.agg #[.int .i64 p1_p.fFoot, .int .i64 p1_p.fHour])) 2 (.agg #[.int .i64 p2_q.fFoot, .int .i64 p2_q.fHour])) 3 (.pointer (some ⟨b1, 0, none⟩))) 4 (.pointer (some ⟨b2, 0, none⟩))) 5 (.pointer (some ⟨b3, 0, none⟩))) 6 (.int .i64 0)) 7 (.pointer (some ⟨b4, 0, none⟩))) 8 (.int .i64 s.1)) 40 (.agg #[.int .i64 p0_f.fRise, .int .i64 p0_f.fFall, .int .i64 p0_f.fUp, .int .i64 p0_f.fDown])) 41 (.int .i64 s.2))) hl11 ⟨_, rfl, (keep (keep (keep (keep (keep (keep (keep (keep (keep (keep (keep rfl rfl) rfl) rfl) rfl) rfl) rfl) rfl) rfl) rfl) rfl) rfl)⟩ ?_ ?_
  · rintro s6 L tm st ⟨tm0_s6, rfl, rfl⟩ h
    unfold fire_far_l1 at h
    refine cx_seq ?_
    refine cx_region ?_
    refine ox_y rfl (y_lss rfl rfl) ?_
    refine ox_nil ?_
    refine ex_then ?_
    refine cx_seq ?_
    rcases ite_some h with ⟨hp8, h⟩ | ⟨hp8, h⟩
    · refine cx_true (congrArg Value.bool hp8) ?_
      refine cx_skip ?_
      refine ex_then ?_
      refine cx_seq ?_
      refine cx_block ?_
      refine cx_seq ?_
      refine cx_region ?_
      refine ox_y rfl (y_move_int rfl) ?_
      obtain ⟨hg9, h⟩ := guardO_some h
      refine ox_y rfl (y_index4i (a := p0_f.fRise) (b := p0_f.fFall) (c := p0_f.fUp) (d := p0_f.fDown) ua_97 sc_3 hg9.1 hg9.2 rfl rfl) ?_
      refine ox_y rfl (y_assign_int rfl) ?_
      refine ox_y rfl (y_assign_int rfl) ?_
      refine ox_nil ?_
      refine ex_then ?_
      refine cx_region ?_
      refine ox_y rfl (y_move_int rfl) ?_
      refine ox_y rfl (y_move_int rfl) ?_
      refine ox_y rfl (y_move_int rfl) ?_
      obtain ⟨hg10, h⟩ := guardO_some h
      refine ox_y rfl (y_indexArr ar_97 hg10.1 hg10.2 rfl rfl) ?_
      refine ox_y rfl (y_load1 3 (v := .int .i64 (sel4 (w64 (p2_q.fHour - p1_p.fHour)) (w64 (p1_p.fHour - p2_q.fHour)) (w64 (p2_q.fFoot - p1_p.fFoot)) (w64 (p1_p.fFoot - p2_q.fFoot)) s6.2)) sc_3 rfl rfl (by rcases in4 hg10 with e | e | e | e <;> rw [e] <;> rfl)) ?_
      refine ox_y rfl (y_max rfl rfl) ?_
      refine ox_y rfl (y_mul rfl rfl) ?_
      refine ox_y rfl (y_add rfl rfl) ?_
      refine ox_y rfl (y_assign_int rfl) ?_
      refine ox_nil ?_
      refine ex_block ?_
      refine ex_then ?_
      refine cx_region ?_
      refine ox_y rfl (y_add rfl rfl) ?_
      refine ox_y rfl (y_move_int rfl) ?_
      refine ox_nil ?_
      obtain rfl := Option.some.inj h
      exact ex_next ⟨_, rfl, (keep (keep (keep (keep (keep (keep (keep (keep (keep (keep (keep rfl rfl) rfl) rfl) rfl) rfl) rfl) rfl) rfl) rfl) rfl) rfl)⟩
    · refine cx_false (congrArg Value.bool hp8) ?_
      refine cx_exit ?_
      refine ex_then_exit ?_
      obtain rfl := Option.some.inj h
      exact ex_stop ⟨rfl, _, rfl, (keep (keep (keep (keep (keep (keep (keep (keep (keep (keep (keep rfl rfl) rfl) rfl) rfl) rfl) rfl) rfl) rfl) rfl) rfl) rfl)⟩
  · intro e L tm hJ
    obtain ⟨rfl, tm0_u7, rfl, rfl⟩ := hJ
    refine ⟨(by intro hc; cases hc), ?_⟩
    refine ex_block_here ?_
    refine ex_then ?_
    refine cx_seq ?_
    refine cx_region ?_
    refine ox_y rfl (y_move_int rfl) ?_
    refine ox_y rfl (y_assign_int rfl) ?_
    refine ox_nil ?_
    refine ex_then ?_
    refine cx_ret ?_
    obtain rfl := Option.some.inj h
    exact ex_res1 (.inl rfl) rfl (resV_tmp (v := .int .i64 u7.1) rfl) (fun W2 hW2 => ⟨rfl, hW2.none⟩)

/-! calx/fire.against -/
set_option maxRecDepth 100000 in
theorem fire_against_ok (p0_f : TFire) (p1_a : TLook) (p2_b : TLook) (res : Bool) (h : fire_against p0_f p1_a p2_b = some res) (W : World) (A0_4 : Option Addr) (n0_4 c0_4 : Nat) (hn0_4 : n0_4 = p0_f.fLooks.length) (hr0_4 : Rd W A0_4 n0_4 c0_4 (encL TLook_cells p0_f.fLooks)) :
    Calls Try.prog 72 [.agg #[.int .i64 p0_f.fRise, .int .i64 p0_f.fFall, .int .i64 p0_f.fUp, .int .i64 p0_f.fDown, .slice A0_4 n0_4 c0_4], .agg #[.int .i64 p1_a.fID, .int .i64 p1_a.fAt.fFoot, .int .i64 p1_a.fAt.fHour, .int .i64 p1_a.fHeat.fLo, .int .i64 p1_a.fHeat.fHi], .agg #[.int .i64 p2_b.fID, .int .i64 p2_b.fAt.fFoot, .int .i64 p2_b.fAt.fHour, .int .i64 p2_b.fHeat.fLo, .int .i64 p2_b.fHeat.fHi]].toArray W fun e W2 => e = .returned (.bool res) ∧ Ext W W2 [] := by
  subst hn0_4
  unfold fire_against at h
  refine calls_enter (m := 21) Try.func72 rfl rfl (Nat.le_of_ble_eq_true rfl) ?_
  refine cx_seq ?_
  refine cx_region ?_
  refine ox_box [.int .i64 p0_f.fRise, .int .i64 p0_f.fFall, .int .i64 p0_f.fUp, .int .i64 p0_f.fDown, .slice A0_4 p0_f.fLooks.length c0_4] rfl rfl rfl (fun b1 => ?_)
  refine ox_box [.int .i64 p1_a.fID, .int .i64 p1_a.fAt.fFoot, .int .i64 p1_a.fAt.fHour, .int .i64 p1_a.fHeat.fLo, .int .i64 p1_a.fHeat.fHi] rfl rfl rfl (fun b2 => ?_)
  refine ox_box [.int .i64 p2_b.fID, .int .i64 p2_b.fAt.fFoot, .int .i64 p2_b.fAt.fHour, .int .i64 p2_b.fHeat.fLo, .int .i64 p2_b.fHeat.fHi] rfl rfl rfl (fun b3 => ?_)
  refine ox_y rfl (y_assign_bool rfl) ?_
  refine ox_nil ?_
  refine ex_then ?_
  refine cx_seq ?_
  refine cx_draws 15 mixed (by kernel_rfl) (by kernel_rfl) ?_
  refine qx_y rfl (y_fieldAddr fo_34_2 rfl) ?_
  refine qx_y rfl (y_fieldAddr fo_32_0 rfl) ?_
  refine qx_y rfl (y_load1 2 (v := .int .i64 p2_b.fHeat.fLo) sc_3 rfl rfl rfl) ?_
  refine qx_y rfl (y_fieldAddr fo_34_2 rfl) ?_
  refine qx_y rfl (y_fieldAddr fo_32_1 rfl) ?_
  refine qx_y rfl (y_load1 1 (v := .int .i64 p1_a.fHeat.fHi) sc_3 rfl rfl rfl) ?_
  refine qx_y rfl (y_loadN 0 [.int .i64 p0_f.fRise, .int .i64 p0_f.fFall, .int .i64 p0_f.fUp, .int .i64 p0_f.fDown, .slice A0_4 p0_f.fLooks.length c0_4] ag_24 rfl rfl rfl) ?_
  refine qx_y rfl (y_fieldAddr fo_34_1 rfl) ?_
  refine qx_y rfl (y_loadN 1 [.int .i64 p1_a.fAt.fFoot, .int .i64 p1_a.fAt.fHour] ag_26 rfl rfl rfl) ?_
  refine qx_y rfl (y_fieldAddr fo_34_1 rfl) ?_
  refine qx_y rfl (y_loadN 2 [.int .i64 p2_b.fAt.fFoot, .int .i64 p2_b.fAt.fHour] ag_26 rfl rfl rfl) ?_
  obtain ⟨y4, hy5, h⟩ := bind_some h
  refine qx_y rfl (y_call [.agg #[.int .i64 p0_f.fRise, .int .i64 p0_f.fFall, .int .i64 p0_f.fUp, .int .i64 p0_f.fDown, .slice A0_4 p0_f.fLooks.length c0_4], .agg #[.int .i64 p1_a.fAt.fFoot, .int .i64 p1_a.fAt.fHour], .agg #[.int .i64 p2_b.fAt.fFoot, .int .i64 p2_b.fAt.fHour]] go_73 rfl (fun W2 hW2 => fire_far_ok p0_f p1_a.fAt p2_b.fAt y4 hy5 W2 A0_4 p0_f.fLooks.length c0_4 rfl ((RdL.arg hr0_4) W2 hW2)) rfl) ?_
  refine qx_y rfl (y_add rfl rfl) ?_
  refine qx_y rfl (y_gtr rfl rfl) ?_
  refine qx_y rfl (y_assign_bool rfl) ?_
  refine qx_nil ?_
  refine ox_nil ?_
  refine ex_then ?_
  refine cx_ret ?_
  obtain rfl := Option.some.inj h
  exact ex_res1 (.inl rfl) rfl (resV_tmp (v := .bool (decide (w64 (p1_a.fHeat.fHi + y4) < p2_b.fHeat.fLo))) rfl) (fun W2 hW2 => ⟨rfl, hW2.none⟩)

/-! slices.Values[[]calx/api.Look,calx/api.Look]$1 -/
set_option maxRecDepth 100000 in
theorem slices_Values_calx_api_Look_calx_api_Look_1_seq (xs : List TLook) (hok : seqLook_ok xs) (b : Nat) (A : Option Addr) (n c : Nat) (hn : n = xs.length) :
    SeqH Try.prog 116 [.pointer (some ⟨b, 0, none⟩)] (fun x : TLook => [.agg #[.int .i64 x.fID, .int .i64 x.fAt.fFoot, .int .i64 x.fAt.fHour, .int .i64 x.fHeat.fLo, .int .i64 x.fHeat.fHi]])
      (fun W => W.heap[b]? = some (.cells #[.slice A n c] 22 (0, 0)) ∧ Rd W A n c (encL TLook_cells xs)) (seqLook xs) := by
  intro l J Jx W hJ hJx hH hy h0
  subst hn
  unfold seqLook_ok at hok
  unfold seqLook at hy ⊢
  have hJE : ∀ {i : Nat} {A B : World}, J i A → Ext A B [] → J i B := fun {i A B} hA hE => AbidesFrom.ext hJ hA hE
  have hxE : ∀ {A B : World}, Jx A → Ext A B [] → Jx B := fun {A B} hA hE => AbidesFrom.ext (J := fun (_ : Unit) => Jx) hJx (s := ()) hA hE
  have hH0 := hH 0 W h0
  refine callsIn_enter (vs := [.func (.yield l) #[] #[], .pointer (some ⟨b, 0, none⟩)]) (m := 16) Try.func116 rfl rfl (Nat.le_of_ble_eq_true rfl) ?_
  refine cx_seq ?_
  refine cx_region ?_
  refine ox_y rfl (y_loadR1 (A := (some ⟨b, 0, none⟩)) (j := 0) (v := .slice A xs.length c) sc_22 (RdL.arg (Rd.blk hH0.1)) rfl rfl) ?_
  refine ox_y rfl (y_len (us := []) us_22 rfl) ?_
  refine ox_y rfl (y_move_int rfl) ?_
  refine ox_nil ?_
  refine ex_then ?_
  refine cx_block ?_
  refine cx_loopS (S := Nat) (fun s tm0 => upd (upd (upd (upd (upd tm0 0 (.func (.yield l) #[] #[])) 1 (.pointer (some ⟨b, 0, none⟩))) 5 (.slice A xs.length c)) 6 (.int .i64 ((xs.length : Nat) : Int))) 7 (.int .i64 (s : Int)))
    (fun s W => J s W ∧ s ≤ xs.length) (fun s => xs.length - s) 0 _ (keep (keep (keep (keep (keep rfl rfl) rfl) rfl) rfl) rfl)
    (fun W' hW' => ⟨hJE h0 hW', Nat.zero_le _⟩) ?_
  rintro s tm0 W1 ⟨hJ1, hs⟩
  have hR := (hH s W1 hJ1).2
  refine cx_seq ?_
  refine cx_region ?_
  refine ox_y rfl (y_lss rfl rfl) ?_
  refine ox_nil ?_
  refine ex_then ?_
  refine cx_seq ?_
  rcases bool_cases (decide ((s : Int) < ((xs.length : Nat) : Int))) with hq | hq
  · have hlt : s < xs.length := by have := of_decide_eq_true hq; omega
    have h1 : (0 : Int) ≤ (s : Int) := by omega
    have h2 : (s : Int) < ((xs.length : Nat) : Int) := by omega
    have hget : xs[s]? = some (rdL xs (s : Int)) := by
      unfold rdL
      rw [Int.toNat_natCast, List.getD_eq_getElem?_getD, List.getElem?_eq_getElem hlt]; rfl
    have hss : w64 ((s : Int) + 1) = ((s + 1 : Nat) : Int) := by rw [w64_id (by omega) (by omega)]; rfl
    refine cx_true (congrArg Value.bool hq) ?_
    refine cx_skip ?_
    refine ex_then ?_
    refine cx_seq ?_
    refine cx_block ?_
    refine cx_seq ?_
    refine cx_region ?_
    refine ox_y rfl (y_indexR sl_22 (by decide) h1 h2 (RdL.arg hR) (encL_len TLook_cells_len rfl) rfl rfl) ?_
    refine ox_y rfl (y_loadRN (A := A) (j := (Int.toNat (s : Int) * 5)) [.int .i64 (rdL xs (s : Int)).fID, .int .i64 (rdL xs (s : Int)).fAt.fFoot, .int .i64 (rdL xs (s : Int)).fAt.fHour, .int .i64 (rdL xs (s : Int)).fHeat.fLo, .int .i64 (rdL xs (s : Int)).fHeat.fHi] ag_34 (Nat.succ_pos _) (RdL.arg hR) rfl (encL_gets TLook_cells_len h1 (lt_nat h2 rfl))) ?_
    refine ox_alloc ze_34 rfl (fun b6 => ?_)
    refine ox_n rfl (y_storeN 0 [.int .i64 (rdL xs (s : Int)).fID, .int .i64 (rdL xs (s : Int)).fAt.fFoot, .int .i64 (rdL xs (s : Int)).fAt.fHour, .int .i64 (rdL xs (s : Int)).fHeat.fLo, .int .i64 (rdL xs (s : Int)).fHeat.fHi] sz_34 rfl (Nat.le_of_ble_eq_true rfl) rfl rfl rfl) ?_
    refine ox_nil ?_
    refine ex_then ?_
    refine cx_seq ?_
    refine cx_region ?_
    refine ox_y rfl (y_move (v := .func (.yield l) #[] #[]) rfl) ?_
    refine ox_y rfl (y_loadN 0 [.int .i64 (rdL xs (s : Int)).fID, .int .i64 (rdL xs (s : Int)).fAt.fFoot, .int .i64 (rdL xs (s : Int)).fAt.fHour, .int .i64 (rdL xs (s : Int)).fHeat.fLo, .int .i64 (rdL xs (s : Int)).fHeat.fHi] ag_34 rfl rfl rfl) ?_
    refine ox_yield [.agg #[.int .i64 (rdL xs (s : Int)).fID, .int .i64 (rdL xs (s : Int)).fAt.fFoot, .int .i64 (rdL xs (s : Int)).fAt.fHour, .int .i64 (rdL xs (s : Int)).fHeat.fLo, .int .i64 (rdL xs (s : Int)).fHeat.fHi]] (A := fun W' => J (s + 1) W') (B := Jx) rfl rfl rfl (fun W' hW' => ?_) (fun W' hA => ?_) (fun W' hB => ?_)
    · exact hy s (rdL xs (s : Int)) W' hget (hJE hJ1 hW'.none)
    · refine ox_y rfl (y_not rfl) ?_
      refine ox_nil ?_
      refine ex_then ?_
      refine cx_false rfl ?_
      refine cx_skip ?_
      refine ex_block ?_
      refine ex_then ?_
      refine cx_region ?_
      refine ox_y rfl (y_add rfl rfl) ?_
      refine ox_y rfl (y_move_int rfl) ?_
      refine ox_nil ?_
      rw [hss]
      exact ex_snext (s + 1) _ (keep (keep (keep (keep (keep rfl rfl) rfl) rfl) rfl) rfl) (by omega) (fun W3 hW3 => ⟨hJE hA hW3, by omega⟩)
    · refine ox_y rfl (y_not rfl) ?_
      refine ox_nil ?_
      refine ex_then ?_
      refine cx_true rfl ?_
      refine cx_ret ?_
      refine ex_block_ret ?_
      refine ex_then_ret ?_
      refine ex_sout (by intro h; cases h) ?_
      refine ex_block_ret ?_
      exact ex_result0 (.inl rfl) rfl (fun W2 hW2 => ⟨⟨_, rfl⟩, .inr (hxE hB hW2)⟩)
  · have hge : s = xs.length := by have := of_decide_eq_false hq; omega
    refine cx_false (congrArg Value.bool hq) ?_
    refine cx_exit ?_
    refine ex_then_exit ?_
    refine ex_sout (by intro h; cases h) ?_
    refine ex_block_here ?_
    exact ex_result0 (.inr rfl) rfl (fun W2 hW2 => ⟨⟨_, rfl⟩, .inl (by rw [← hge]; exact hJE hJ1 hW2)⟩)

/-! slices.Values[[]calx/api.Look,calx/api.Look] -/
set_option maxRecDepth 100000 in
theorem slices_Values_calx_api_Look_calx_api_Look_ok (p0_s : (List TLook)) (res : Unit) (h : slices_Values_calx_api_Look_calx_api_Look p0_s = some res) (W : World) (A0_0 : Option Addr) (n0_0 c0_0 : Nat) (hn0_0 : n0_0 = p0_s.length) (hr0_0 : Rd W A0_0 n0_0 c0_0 (encL TLook_cells p0_s)) :
    Calls Try.prog 113 [.slice A0_0 n0_0 c0_0].toArray W fun e W2 => ∃ x : Nat, e = .returned (.func (.func 116) #[] #[.pointer (some ⟨x, 0, none⟩)]) ∧ Ext W W2 [cellsR x 22 [.slice A0_0 n0_0 c0_0]] := by
  subst hn0_0
  unfold slices_Values_calx_api_Look_calx_api_Look at h
  refine calls_enter (m := 4) Try.func113 rfl rfl (Nat.le_of_ble_eq_true rfl) ?_
  refine cx_seq ?_
  refine cx_region ?_
  refine ox_box [.slice A0_0 p0_s.length c0_0] rfl rfl rfl (fun b1 => ?_)
  refine ox_y rfl (y_assign_nilFunc rfl) ?_
  refine ox_nil ?_
  refine ex_then ?_
  refine cx_seq ?_
  refine cx_region ?_
  refine ox_y rfl (y_makeFunc [.pointer (some ⟨b1, 0, none⟩)] rfl rfl) ?_
  refine ox_y rfl (y_assign_func rfl) ?_
  refine ox_nil ?_
  refine ex_then ?_
  refine cx_ret ?_
  obtain rfl := Option.some.inj h
  exact ex_res1 (.inl rfl) rfl (resV_tmp (v := .func (.func 116) #[] #[.pointer (some ⟨b1, 0, none⟩)]) rfl) (fun W2 hW2 => ⟨b1, rfl, hW2⟩)

/-! slices.AppendSeq[[]calx/api.Look,calx/api.Look] -/
set_option maxRecDepth 100000 in
theorem slices_AppendSeq_calx_api_Look_calx_api_Look_ok (p1_seq : (List TLook)) (res : (List TLook)) (h : slices_AppendSeq_calx_api_Look_calx_api_Look p1_seq = some res) (W : World) (bs1 : Nat) (A1_0 : Option Addr) (n1_0 c1_0 : Nat) (hn1_0 : n1_0 = p1_seq.length) (hs1 : W.heap[bs1]? = some (.cells #[.slice A1_0 n1_0 c1_0] 22 (0, 0))) (hr1_0 : Rd W A1_0 n1_0 c1_0 (encL TLook_cells p1_seq)) :
    Calls Try.prog 119 [.slice none 0 0, .func (.func 116) #[] #[.pointer (some ⟨bs1, 0, none⟩)]].toArray W fun e W2 => ∃ x : Option Addr × Nat × Nat, x.2.1 = res.length ∧ e = .returned (.slice x.1 x.2.1 x.2.2) ∧ Ext W W2 [rowR x.1 x.2.2 34 5 x.2.1 (encL TLook_cells res)] := by
  subst hn1_0
  unfold slices_AppendSeq_calx_api_Look_calx_api_Look at h
  refine calls_enterM (m := 13) Try.func119 rfl rfl (Nat.le_of_ble_eq_true rfl) ?_
  refine cx_seq ?_
  refine cx_region ?_
  refine ox_box [.slice none 0 0] rfl rfl rfl (fun b1 => ?_)
  refine ox_y rfl (y_assign_slice rfl) ?_
  refine ox_nil ?_
  refine ex_then ?_
  refine cx_seq ?_
  refine cx_seq ?_
  refine cx_region ?_
  refine ox_y rfl (y_move_func rfl) ?_
  refine ox_nil ?_
  refine ex_then ?_
  refine cx_block ?_
  refine cx_nilrow 34 5 ?_
  obtain ⟨hok19, h⟩ := guardO_some h
  obtain ⟨u12, hl18, h⟩ := bind_some h
  refine cx_rangeH (enc := fun x : TLook => .agg #[.int .i64 x.fID, .int .i64 x.fAt.fFoot, .int .i64 x.fAt.fHour, .int .i64 x.fHeat.fLo, .int .i64 x.fHeat.fHi])  (caps := [.pointer (some ⟨bs1, 0, none⟩)]) (fun (s : (List TLook)) L => ∃ (A1_s : Option Addr) (c1_s : Nat) (n1_s : Nat), n1_s = s.length ∧ L = [cellsR b1 22 [.slice A1_s n1_s c1_s], rowR A1_s c1_s 34 5 n1_s (encL TLook_cells s)]) (fun (_ : Unit) _ _ => False) hl18 rfl go_116 (slices_Values_calx_api_Look_calx_api_Look_1_seq p1_seq hok19 bs1 A1_0 p1_seq.length c1_0 rfl) (fun W2 s L hI hW2 => by obtain ⟨A1_s, c1_s, n1_s, rfl, rfl⟩ := hI; exact ⟨(hW2.below.block _ (lt_of_block hs1)).trans hs1, (RdL.arg hr1_0) W2 hW2⟩) ⟨none, 0, 0, rfl, rfl⟩ (fun W2 hW2 s L hI => by obtain ⟨A1_s, c1_s, n1_s, rfl, rfl⟩ := hI; exact (.cons Cy.cells (.cons Cy.row CyL.nil))) (fun _ _ _ _ _ h => h.elim) (fun _ _ _ h => h.elim) ?_ ?_ ?_
  · rintro D2 l3 rec4 s10 x11 L st hrec5 ⟨A1_s10, c1_s10, n1_s10, rfl, rfl⟩ h
    unfold slices_AppendSeq_calx_api_Look_calx_api_Look_r1 at h
    refine cx_region ?_
    refine ox_alloc ze_34 rfl (fun b13 => ?_)
    refine ox_n rfl (y_storeN 4 [.int .i64 x11.fID, .int .i64 x11.fAt.fFoot, .int .i64 x11.fAt.fHour, .int .i64 x11.fHeat.fLo, .int .i64 x11.fHeat.fHi] sz_34 rfl (Nat.le_of_ble_eq_true rfl) rfl rfl rfl) ?_
    refine ox_nil ?_
    refine ex_begin 3 rfl hrec5 ?_
    refine cx_block ?_
    refine cx_region ?_
    refine ox_y rfl (y_load1 0 (v := .slice A1_s10 s10.length c1_s10) sc_22 rfl rfl rfl) ?_
    refine ox_y rfl (y_loadN 4 [.int .i64 x11.fID, .int .i64 x11.fAt.fFoot, .int .i64 x11.fAt.fHour, .int .i64 x11.fHeat.fLo, .int .i64 x11.fHeat.fHi] ag_34 rfl rfl rfl) ?_
    refine ox_buildSliceE 1 (encL TLook_cells [x11]) _ mc_34_1 us_22 ze_34 by_34 (by decide) (by decide) (by kernel_rfl) (encL_len TLook_cells_len rfl) rfl (fun b14 => ?_)
    try dsimp only [List.nil_append, List.cons_append, List.set_cons_zero, List.set_cons_succ]
    obtain ⟨hg17, h⟩ := guardO_some h
    refine ox_append0 1 us_22 ze_34 by_34 rfl rfl rfl (RdL.row 5 rfl) (encL_len TLook_cells_len rfl) (encL_one TLook_cells_one _) (app_room hg17 (by decide)) rfl (fun A15 c16 => ?_)
    refine ox_n rfl (y_store1 0 (v := .slice A15 (s10.length + 1) c16) sz_22 rfl (Nat.lt_of_lt_of_le (Nat.lt_succ_self _) (Nat.le_of_ble_eq_true rfl)) rfl rfl rfl) ?_
    refine ox_nil ?_
    refine ex_block ?_
    refine ex_take 4 ?_
    obtain rfl := Option.some.inj h
    exact ex_rnext [cellsR b1 22 [.slice A15 (s10.length + 1) c16], rowR A15 c16 34 5 (s10.length + 1) (encL TLook_cells (s10 ++ [x11]))] ⟨A15, c16, (s10.length + 1), (hn_app rfl rfl), rfl⟩
  · rintro D2 u20 L hst ⟨A1_u20, c1_u20, n1_u20, rfl, rfl⟩
    subst hst
    dsimp only at h
    refine ex_block ?_
    refine ex_then ?_
    refine cx_seq ?_
    refine cx_region ?_
    refine ox_y rfl (y_load1 0 (v := .slice A1_u20 u20.length c1_u20) sc_22 rfl rfl rfl) ?_
    refine ox_y rfl (y_assign_slice rfl) ?_
    refine ox_nil ?_
    refine ex_then ?_
    refine cx_ret ?_
    refine ex_M1 2 rfl (.inl rfl) ?_
    obtain rfl := Option.some.inj h
    exact ex_res1 (.inl rfl) rfl (resV_tmp (v := .slice A1_u20 u20.length c1_u20) rfl) (fun W2 hW2 => ⟨(A1_u20, u20.length, c1_u20), rfl, rfl, (hW2.pick 1 rfl)⟩)
  · intro D2 t e L _ hh
    exact hh.elim

/-! slices.Collect[calx/api.Look] -/
set_option maxRecDepth 100000 in
theorem slices_Collect_calx_api_Look_ok (p0_seq : (List TLook)) (res : (List TLook)) (h : slices_Collect_calx_api_Look p0_seq = some res) (W : World) (bs0 : Nat) (A0_0 : Option Addr) (n0_0 c0_0 : Nat) (hn0_0 : n0_0 = p0_seq.length) (hs0 : W.heap[bs0]? = some (.cells #[.slice A0_0 n0_0 c0_0] 22 (0, 0))) (hr0_0 : Rd W A0_0 n0_0 c0_0 (encL TLook_cells p0_seq)) :
    Calls Try.prog 117 [.func (.func 116) #[] #[.pointer (some ⟨bs0, 0, none⟩)]].toArray W fun e W2 => ∃ x : Option Addr × Nat × Nat, x.2.1 = res.length ∧ e = .returned (.slice x.1 x.2.1 x.2.2) ∧ Ext W W2 [rowR x.1 x.2.2 34 5 x.2.1 (encL TLook_cells res)] := by
  subst hn0_0
  unfold slices_Collect_calx_api_Look at h
  refine calls_enter (m := 5) Try.func117 rfl rfl (Nat.le_of_ble_eq_true rfl) ?_
  refine cx_seq ?_
  refine cx_region ?_
  refine ox_y rfl (y_assign_slice rfl) ?_
  refine ox_nil ?_
  refine ex_then ?_
  refine cx_seq ?_
  refine cx_region ?_
  refine ox_y rfl (y_move_func rfl) ?_
  obtain ⟨y1, hy2, h⟩ := bind_some h
  refine ox_call [.slice none 0 0, .func (.func 116) #[] #[.pointer (some ⟨bs0, 0, none⟩)]] _ _ _ rfl go_119 rfl (fun W2 hW2 => slices_AppendSeq_calx_api_Look_calx_api_Look_ok p0_seq y1 hy2 W2 bs0 A0_0 p0_seq.length c0_0 rfl ((hW2.below.block _ (lt_of_block hs0)).trans hs0) ((RdL.arg hr0_0) W2 hW2)) ?_
  rintro ⟨A3, n5, c4⟩ hn6
  replace hn6 : n5 = y1.length := hn6; subst hn6
  refine ox_y rfl (y_assign_slice rfl) ?_
  refine ox_nil ?_
  refine ex_then ?_
  refine cx_ret ?_
  obtain rfl := Option.some.inj h
  exact ex_res1 (.inl rfl) rfl (resV_tmp (v := .slice A3 y1.length c4) rfl) (fun W2 hW2 => ⟨(A3, y1.length, c4), rfl, rfl, (hW2.pick 0 rfl)⟩)

/-! slices.insertionSortCmpFunc[calx/api.Look] -/
set_option maxRecDepth 100000 in
theorem slices_insertionSortCmpFunc_calx_api_Look_ok (p0_data : (List TLook)) (p1_a : Int) (p2_b : Int) (p3_cmp : TLook → TLook → Option Int) (res : (List TLook)) (h : slices_insertionSortCmpFunc_calx_api_Look p0_data p1_a p2_b p3_cmp = some res) (W : World) (w0 : World) (R : Res) (A0_0 : Option Addr) (n0_0 c0_0 : Nat) (hn0_0 : n0_0 = p0_data.length) (fid3 : Nat) (caps3 : List Value) (hgo3 : goes Try.prog fid3 = true) (hof3 : ∀ W2, Below w0.heap.size w0 W2 → R.holds W2 → ∀ x0 x1 y, p3_cmp x0 x1 = some y → Calls Try.prog fid3 (([.agg #[.int .i64 x0.fID, .int .i64 x0.fAt.fFoot, .int .i64 x0.fAt.fHour, .int .i64 x0.fHeat.fLo, .int .i64 x0.fHeat.fHi], .agg #[.int .i64 x1.fID, .int .i64 x1.fAt.fFoot, .int .i64 x1.fAt.fHour, .int .i64 x1.fHeat.fLo, .int .i64 x1.fHeat.fHi]] : List Value) ++ caps3).toArray W2 fun e W3 => e = .returned (.int .i64 y) ∧ Ext W2 W3 []) (hW : Ext w0 W [R, rowR A0_0 c0_0 34 5 n0_0 (encL TLook_cells p0_data)]) :
    Calls Try.prog 122 [.slice A0_0 n0_0 c0_0, .int .i64 p1_a, .int .i64 p2_b, .func (.func fid3) #[] caps3.toArray].toArray W fun e W2 => e = .returned (.tuple #[]) ∧ n0_0 = res.length ∧ Ext w0 W2 [R, rowR A0_0 c0_0 34 5 n0_0 (encL TLook_cells res)] := by
  subst hn0_0
  unfold slices_insertionSortCmpFunc_calx_api_Look at h
  refine calls_enterB (m := 53) Try.func122 rfl rfl (Nat.le_of_ble_eq_true rfl) hW ?_
  refine cx_seq ?_
  refine cx_region ?_
  refine ox_y rfl (y_move_int rfl) ?_
  refine ox_y rfl (y_add rfl rfl) ?_
  refine ox_y rfl (y_assign_int rfl) ?_
  refine ox_nil ?_
  refine ex_then ?_
  refine cx_block ?_
  obtain ⟨u4, hl24, h⟩ := bind_some h
  refine cx_loop (fun (s : (Int × (List TLook))) L tm => ∃ (tm0 : Nat → Value), p0_data.length = s.2.length ∧ L = [R, rowR A0_0 c0_0 34 5 p0_data.length (encL TLook_cells s.2)] ∧ tm = (upd (upd (upd (upd (upd tm0 0 (.slice A0_0 p0_data.length c0_0)) 1 (.int .i64 p1_a)) 2 (.int .i64 p2_b)) 3 (.func (.func fid3) #[] caps3.toArray)) 8 (.int .i64 s.1))) (fun s e L tm => e = .exit 0 ∧ ∃ (tm0 : Nat → Value), p0_data.length = s.2.length ∧ L = [R, rowR A0_0 c0_0 34 5 p0_data.length (encL TLook_cells s.2)] ∧ tm = (upd (upd (upd (upd (upd tm0 0 (.slice A0_0 p0_data.length c0_0)) 1 (.int .i64 p1_a)) 2 (.int .i64 p2_b)) 3 (.func (.func fid3) #[] caps3.toArray)) 8 (.int .i64 s.1))) hl24 ⟨_, rfl, rfl, (keep (keep (keep (keep (keep rfl rfl) rfl) rfl) rfl) rfl)⟩ ?_ ?_
  · rintro s3 L tm st ⟨tm0_s3, hn1_s3, rfl, rfl⟩ h
    unfold slices_insertionSortCmpFunc_calx_api_Look_l1 at h
    refine cx_seq ?_
    refine cx_seq ?_
    refine cx_region ?_
    refine ox_y rfl (y_move_int rfl) ?_
    refine ox_y rfl (y_move_int rfl) ?_
    refine ox_y rfl (y_lss rfl rfl) ?_
    refine ox_nil ?_
    refine ex_then ?_
    rcases ite_some h with ⟨hp5, h⟩ | ⟨hp5, h⟩
    · refine cx_true (congrArg Value.bool hp5) ?_
      refine cx_skip ?_
      refine ex_then ?_
      refine cx_seq ?_
      refine cx_block ?_
      refine cx_seq ?_
      refine cx_region ?_
      refine ox_y rfl (y_move_int rfl) ?_
      refine ox_y rfl (y_assign_int rfl) ?_
      refine ox_nil ?_
      refine ex_then ?_
      refine cx_block ?_
      obtain ⟨u9, hl23, h⟩ := bind_some h
      refine cx_loop (fun (s : (Int × (List TLook))) L tm => ∃ (tm0 : Nat → Value), p0_data.length = s.2.length ∧ L = [R, rowR A0_0 c0_0 34 5 p0_data.length (encL TLook_cells s.2)] ∧ tm = (upd (upd (upd (upd (upd (upd (upd tm0 0 (.slice A0_0 p0_data.length c0_0)) 1 (.int .i64 p1_a)) 2 (.int .i64 p2_b)) 3 (.func (.func fid3) #[] caps3.toArray)) 8 (.int .i64 s3.1)) 14 (.bool (decide (s3.1 < p2_b)))) 9 (.int .i64 s.1))) (fun s e L tm => e = .exit 2 ∧ ∃ (tm0 : Nat → Value), p0_data.length = s.2.length ∧ L = [R, rowR A0_0 c0_0 34 5 p0_data.length (encL TLook_cells s.2)] ∧ tm = (upd (upd (upd (upd (upd (upd (upd tm0 0 (.slice A0_0 p0_data.length c0_0)) 1 (.int .i64 p1_a)) 2 (.int .i64 p2_b)) 3 (.func (.func fid3) #[] caps3.toArray)) 8 (.int .i64 s3.1)) 14 (.bool (decide (s3.1 < p2_b)))) 9 (.int .i64 s.1))) hl23 ⟨_, hn1_s3, rfl, (keep (keep (keep (keep (keep (keep (keep rfl rfl) rfl) rfl) rfl) rfl) rfl) rfl)⟩ ?_ ?_
      · rintro s8 L tm st ⟨tm0_s8, hn1_s8, rfl, rfl⟩ h
        unfold slices_insertionSortCmpFunc_calx_api_Look_l2 at h
        refine cx_seq ?_
        refine cx_seq ?_
        refine cx_draws 17 mixed (by kernel_rfl) (by kernel_rfl) ?_
        refine qx_y rfl (y_move_int rfl) ?_
        refine qx_y rfl (y_move_int rfl) ?_
        refine qx_y rfl (y_gtr rfl rfl) ?_
        refine qx_y rfl (y_move_bool rfl) ?_
        obtain ⟨b11, hb12, h⟩ := bind_some h
        refine qx_join 13 (fun tm0 => (upd (upd (upd (upd (upd (upd (upd (upd tm0 0 (.slice A0_0 p0_data.length c0_0)) 1 (.int .i64 p1_a)) 2 (.int .i64 p2_b)) 3 (.func (.func fid3) #[] caps3.toArray)) 8 (.int .i64 s3.1)) 14 (.bool (decide (s3.1 < p2_b)))) 9 (.int .i64 s8.1)) 34 (.bool b11))) (fun tm0 => ?_) (fun key => ?_)
        · refine qx_nil ?_
          refine ox_nil ?_
          refine ex_then ?_
          rcases ite_some h with ⟨hp13, h⟩ | ⟨hp13, h⟩
          · refine cx_true (congrArg Value.bool hp13) ?_
            refine cx_skip ?_
            refine ex_then ?_
            refine cx_seq ?_
            refine cx_block ?_
            obtain ⟨hg15, h⟩ := guardO_some h
            obtain ⟨hg16, h⟩ := guardO_some h
            obtain ⟨hg17, h⟩ := guardO_some h
            obtain ⟨hg18, h⟩ := guardO_some h
            refine cx_drawsG [[], [], [], [], [3], [], [], [6], [5, 6, 7], [5, 6, 7, 8], [], [], [10, 11], [10, 11, 12], [0, 1, 5, 6, 7, 8, 9, 10, 11, 12, 13], [0, 1, 5, 6, 7, 8, 9, 10, 11, 12, 13, 14], [0, 1, 2, 3, 4, 5, 6, 7, 8, 9, 10, 11, 12, 13, 14, 15], [0, 1, 2, 3, 4, 5, 6, 7, 8, 9, 10, 11, 12, 13, 14, 15, 16]] [(none, 0, [true, true]), (none, 0, [true, true]), (none, 0, [true, false]), (none, 0, [true, false]), (none, 0, [true, false]), (none, 0, [true, true]), (none, 0, [true, true]), (none, 0, [true, true]), (none, 0, [true, true]), (none, 0, [true, true]), (none, 0, [true, true]), (none, 0, [true, true]), (none, 0, [true, true]), (none, 0, [true, true]), (none, 0, [true, true]), (some 1, 0, [true, true]), (none, 0, [true, true]), (some 1, 0, [true, true])] [⟨fun _ => .slice A0_0 p0_data.length c0_0, fun _ => noR, fun _ => []⟩, ⟨fun _ => .int .i64 s8.1, fun _ => noR, fun _ => []⟩, ⟨fun _ => .slice A0_0 p0_data.length c0_0, fun _ => noR, fun _ => []⟩, ⟨fun _ => .int .i64 s8.1, fun _ => noR, fun _ => []⟩, ⟨fun _ => .int .i64 (w64 (s8.1 - 1)), fun _ => noR, fun _ => []⟩, ⟨fun _ => .slice A0_0 p0_data.length c0_0, fun _ => noR, fun _ => []⟩, ⟨fun _ => .int .i64 s8.1, fun _ => noR, fun _ => []⟩, ⟨fun _ => .int .i64 (w64 (s8.1 - 1)), fun _ => noR, fun _ => []⟩, ⟨fun _ => slA A0_0 (Int.toNat (w64 (s8.1 - 1)) * 5), fun _ => noR, fun _ => []⟩, ⟨fun _ => .agg #[.int .i64 ((rdL s8.2 (w64 (s8.1 - 1))).fID), .int .i64 ((rdL s8.2 (w64 (s8.1 - 1))).fAt.fFoot), .int .i64 ((rdL s8.2 (w64 (s8.1 - 1))).fAt.fHour), .int .i64 ((rdL s8.2 (w64 (s8.1 - 1))).fHeat.fLo), .int .i64 ((rdL s8.2 (w64 (s8.1 - 1))).fHeat.fHi)], fun _ => noR, fun _ => []⟩, ⟨fun _ => .slice A0_0 p0_data.length c0_0, fun _ => noR, fun _ => []⟩, ⟨fun _ => .int .i64 s8.1, fun _ => noR, fun _ => []⟩, ⟨fun _ => slA A0_0 (Int.toNat s8.1 * 5), fun _ => noR, fun _ => []⟩, ⟨fun _ => .agg #[.int .i64 ((rdL s8.2 s8.1).fID), .int .i64 ((rdL s8.2 s8.1).fAt.fFoot), .int .i64 ((rdL s8.2 s8.1).fAt.fHour), .int .i64 ((rdL s8.2 s8.1).fHeat.fLo), .int .i64 ((rdL s8.2 s8.1).fHeat.fHi)], fun _ => noR, fun _ => []⟩, ⟨fun _ => slA A0_0 (Int.toNat s8.1 * 5), fun _ => noR, fun _ => []⟩, ⟨fun _ => undef, fun _ => rowR A0_0 c0_0 34 5 p0_data.length (encL TLook_cells (s8.2.set (Int.toNat s8.1) (TLook.mk ((rdL s8.2 (w64 (s8.1 - 1))).fID) (TSpot.mk ((rdL s8.2 (w64 (s8.1 - 1))).fAt.fFoot) ((rdL s8.2 (w64 (s8.1 - 1))).fAt.fHour)) (TSpan.mk ((rdL s8.2 (w64 (s8.1 - 1))).fHeat.fLo) ((rdL s8.2 (w64 (s8.1 - 1))).fHeat.fHi))))), fun _ => []⟩, ⟨fun _ => slA A0_0 (Int.toNat (w64 (s8.1 - 1)) * 5), fun _ => noR, fun _ => []⟩, ⟨fun _ => undef, fun _ => rowR A0_0 c0_0 34 5 p0_data.length (encL TLook_cells ((s8.2.set (Int.toNat s8.1) (TLook.mk ((rdL s8.2 (w64 (s8.1 - 1))).fID) (TSpot.mk ((rdL s8.2 (w64 (s8.1 - 1))).fAt.fFoot) ((rdL s8.2 (w64 (s8.1 - 1))).fAt.fHour)) (TSpan.mk ((rdL s8.2 (w64 (s8.1 - 1))).fHeat.fLo) ((rdL s8.2 (w64 (s8.1 - 1))).fHeat.fHi)))).set (Int.toNat (w64 (s8.1 - 1))) (TLook.mk ((rdL s8.2 s8.1).fID) (TSpot.mk ((rdL s8.2 s8.1).fAt.fFoot) ((rdL s8.2 s8.1).fAt.fHour)) (TSpan.mk ((rdL s8.2 s8.1).fHeat.fLo) ((rdL s8.2 s8.1).fHeat.fHi))))), fun _ => []⟩] 2 mixed (by kernel_rfl) (by kernel_rfl) ⟨⟨fun ξ14 ξ14' h => ⟨rfl, rfl, rfl⟩, fun _ => rfl⟩, ⟨fun ξ14 ξ14' h => ⟨rfl, rfl, rfl⟩, fun _ => rfl⟩, ⟨fun ξ14 ξ14' h => ⟨rfl, rfl, rfl⟩, fun _ => rfl⟩, ⟨fun ξ14 ξ14' h => ⟨rfl, rfl, rfl⟩, fun _ => rfl⟩, ⟨fun ξ14 ξ14' h => ⟨rfl, rfl, rfl⟩, fun _ => rfl⟩, ⟨fun ξ14 ξ14' h => ⟨rfl, rfl, rfl⟩, fun _ => rfl⟩, ⟨fun ξ14 ξ14' h => ⟨rfl, rfl, rfl⟩, fun _ => rfl⟩, ⟨fun ξ14 ξ14' h => ⟨rfl, rfl, rfl⟩, fun _ => rfl⟩, ⟨fun ξ14 ξ14' h => ⟨rfl, rfl, rfl⟩, fun _ => rfl⟩, ⟨fun ξ14 ξ14' h => ⟨rfl, rfl, rfl⟩, fun _ => rfl⟩, ⟨fun ξ14 ξ14' h => ⟨rfl, rfl, rfl⟩, fun _ => rfl⟩, ⟨fun ξ14 ξ14' h => ⟨rfl, rfl, rfl⟩, fun _ => rfl⟩, ⟨fun ξ14 ξ14' h => ⟨rfl, rfl, rfl⟩, fun _ => rfl⟩, ⟨fun ξ14 ξ14' h => ⟨rfl, rfl, rfl⟩, fun _ => rfl⟩, ⟨fun ξ14 ξ14' h => ⟨rfl, rfl, rfl⟩, fun _ => rfl⟩, ⟨fun ξ14 ξ14' h => ⟨rfl, rfl, rfl⟩, fun _ => rfl⟩, ⟨fun ξ14 ξ14' h => ⟨rfl, rfl, rfl⟩, fun _ => rfl⟩, ⟨fun ξ14 ξ14' h => ⟨rfl, rfl, rfl⟩, fun _ => rfl⟩, trivial⟩ rfl (fun ξ14 => ?_)
            refine gx_o rfl (fun L2 => ?_) ?_
            · dsimp only [maskL, List.cons_append, List.nil_append]
              refine ox_y rfl (y_move_slice rfl) ?_
              refine ox_nil ?_
              exact ex_capG (fun _ => (none, 0, 0)) rfl (List.append_nil _)
            dsimp only [aftL, List.set_cons_zero, List.set_cons_succ, List.nil_append, List.cons_append, List.append_nil]
            refine gx_o rfl (fun L2 => ?_) ?_
            · dsimp only [maskL, List.cons_append, List.nil_append]
              refine ox_y rfl (y_move_int rfl) ?_
              refine ox_nil ?_
              exact ex_capG (fun _ => (none, 0, 0)) rfl (List.append_nil _)
            dsimp only [aftL, List.set_cons_zero, List.set_cons_succ, List.nil_append, List.cons_append, List.append_nil]
            refine gx_o rfl (fun L2 => ?_) ?_
            · dsimp only [maskL, List.cons_append, List.nil_append]
              refine ox_y rfl (y_move_slice rfl) ?_
              refine ox_nil ?_
              exact ex_capG (fun _ => (none, 0, 0)) rfl (List.append_nil _)
            dsimp only [aftL, List.set_cons_zero, List.set_cons_succ, List.nil_append, List.cons_append, List.append_nil]
            refine gx_o rfl (fun L2 => ?_) ?_
            · dsimp only [maskL, List.cons_append, List.nil_append]
              refine ox_y rfl (y_move_int rfl) ?_
              refine ox_nil ?_
              exact ex_capG (fun _ => (none, 0, 0)) rfl (List.append_nil _)
            dsimp only [aftL, List.set_cons_zero, List.set_cons_succ, List.nil_append, List.cons_append, List.append_nil]
            refine gx_o rfl (fun L2 => ?_) ?_
            · dsimp only [maskL, List.cons_append, List.nil_append]
              refine ox_y rfl (y_sub rfl rfl) ?_
              refine ox_nil ?_
              exact ex_capG (fun _ => (none, 0, 0)) rfl (List.append_nil _)
            dsimp only [aftL, List.set_cons_zero, List.set_cons_succ, List.nil_append, List.cons_append, List.append_nil]
            refine gx_o rfl (fun L2 => ?_) ?_
            · dsimp only [maskL, List.cons_append, List.nil_append]
              refine ox_y rfl (y_move_slice rfl) ?_
              refine ox_nil ?_
              exact ex_capG (fun _ => (none, 0, 0)) rfl (List.append_nil _)
            dsimp only [aftL, List.set_cons_zero, List.set_cons_succ, List.nil_append, List.cons_append, List.append_nil]
            refine gx_o rfl (fun L2 => ?_) ?_
            · dsimp only [maskL, List.cons_append, List.nil_append]
              refine ox_y rfl (y_move_int rfl) ?_
              refine ox_nil ?_
              exact ex_capG (fun _ => (none, 0, 0)) rfl (List.append_nil _)
            dsimp only [aftL, List.set_cons_zero, List.set_cons_succ, List.nil_append, List.cons_append, List.append_nil]
            refine gx_o rfl (fun L2 => ?_) ?_
            · dsimp only [maskL, List.cons_append, List.nil_append]
              refine ox_y rfl (y_sub rfl rfl) ?_
              refine ox_nil ?_
              exact ex_capG (fun _ => (none, 0, 0)) rfl (List.append_nil _)
            dsimp only [aftL, List.set_cons_zero, List.set_cons_succ, List.nil_append, List.cons_append, List.append_nil]
            refine gx_o rfl (fun L2 => ?_) ?_
            · dsimp only [maskL, List.cons_append, List.nil_append]
              refine ox_y rfl (y_indexR sl_22 (by decide) hg15.1 hg15.2 (RdL.row 1 rfl) (encL_len TLook_cells_len hn1_s8) rfl rfl) ?_
              refine ox_nil ?_
              exact ex_capG (fun _ => (none, 0, 0)) rfl (List.append_nil _)
            dsimp only [aftL, List.set_cons_zero, List.set_cons_succ, List.nil_append, List.cons_append, List.append_nil]
            refine gx_o rfl (fun L2 => ?_) ?_
            · dsimp only [maskL, List.cons_append, List.nil_append]
              refine ox_y rfl (y_loadRN (A := A0_0) (j := (Int.toNat (w64 (s8.1 - 1)) * 5)) [.int .i64 ((rdL s8.2 (w64 (s8.1 - 1))).fID), .int .i64 ((rdL s8.2 (w64 (s8.1 - 1))).fAt.fFoot), .int .i64 ((rdL s8.2 (w64 (s8.1 - 1))).fAt.fHour), .int .i64 ((rdL s8.2 (w64 (s8.1 - 1))).fHeat.fLo), .int .i64 ((rdL s8.2 (w64 (s8.1 - 1))).fHeat.fHi)] ag_34 (Nat.succ_pos _) (RdL.row 1 rfl) rfl (encL_gets TLook_cells_len hg15.1 (lt_nat hg15.2 hn1_s8))) ?_
              refine ox_nil ?_
              exact ex_capG (fun _ => (none, 0, 0)) rfl (List.append_nil _)
            dsimp only [aftL, List.set_cons_zero, List.set_cons_succ, List.nil_append, List.cons_append, List.append_nil]
            refine gx_o rfl (fun L2 => ?_) ?_
            · dsimp only [maskL, List.cons_append, List.nil_append]
              refine ox_y rfl (y_move_slice rfl) ?_
              refine ox_nil ?_
              exact ex_capG (fun _ => (none, 0, 0)) rfl (List.append_nil _)
            dsimp only [aftL, List.set_cons_zero, List.set_cons_succ, List.nil_append, List.cons_append, List.append_nil]
            refine gx_o rfl (fun L2 => ?_) ?_
            · dsimp only [maskL, List.cons_append, List.nil_append]
              refine ox_y rfl (y_move_int rfl) ?_
              refine ox_nil ?_
              exact ex_capG (fun _ => (none, 0, 0)) rfl (List.append_nil _)
            dsimp only [aftL, List.set_cons_zero, List.set_cons_succ, List.nil_append, List.cons_append, List.append_nil]
            refine gx_o rfl (fun L2 => ?_) ?_
            · dsimp only [maskL, List.cons_append, List.nil_append]
              refine ox_y rfl (y_indexR sl_22 (by decide) hg16.1 hg16.2 (RdL.row 1 rfl) (encL_len TLook_cells_len hn1_s8) rfl rfl) ?_
              refine ox_nil ?_
              exact ex_capG (fun _ => (none, 0, 0)) rfl (List.append_nil _)
            dsimp only [aftL, List.set_cons_zero, List.set_cons_succ, List.nil_append, List.cons_append, List.append_nil]
            refine gx_o rfl (fun L2 => ?_) ?_
            · dsimp only [maskL, List.cons_append, List.nil_append]
              refine ox_y rfl (y_loadRN (A := A0_0) (j := (Int.toNat s8.1 * 5)) [.int .i64 ((rdL s8.2 s8.1).fID), .int .i64 ((rdL s8.2 s8.1).fAt.fFoot), .int .i64 ((rdL s8.2 s8.1).fAt.fHour), .int .i64 ((rdL s8.2 s8.1).fHeat.fLo), .int .i64 ((rdL s8.2 s8.1).fHeat.fHi)] ag_34 (Nat.succ_pos _) (RdL.row 1 rfl) rfl (encL_gets TLook_cells_len hg16.1 (lt_nat hg16.2 hn1_s8))) ?_
              refine ox_nil ?_
              exact ex_capG (fun _ => (none, 0, 0)) rfl (List.append_nil _)
            dsimp only [aftL, List.set_cons_zero, List.set_cons_succ, List.nil_append, List.cons_append, List.append_nil]
            refine gx_o rfl (fun L2 => ?_) ?_
            · dsimp only [maskL, List.cons_append, List.nil_append]
              refine ox_y rfl (y_indexR sl_22 (by decide) hg17.1 hg17.2 (RdL.row 1 rfl) (encL_len TLook_cells_len hn1_s8) rfl rfl) ?_
              refine ox_nil ?_
              exact ex_capG (fun _ => (none, 0, 0)) rfl (List.append_nil _)
            dsimp only [aftL, List.set_cons_zero, List.set_cons_succ, List.nil_append, List.cons_append, List.append_nil]
            refine gx_n rfl (fun L2 => ?_) ?_
            · dsimp only [maskL, List.cons_append, List.nil_append]
              refine ox_n rfl (y_storeRN 1 (xs := s8.2) [.int .i64 ((rdL s8.2 (w64 (s8.1 - 1))).fID), .int .i64 ((rdL s8.2 (w64 (s8.1 - 1))).fAt.fFoot), .int .i64 ((rdL s8.2 (w64 (s8.1 - 1))).fAt.fHour), .int .i64 ((rdL s8.2 (w64 (s8.1 - 1))).fHeat.fLo), .int .i64 ((rdL s8.2 (w64 (s8.1 - 1))).fHeat.fHi)] TLook_cells_len (Nat.succ_pos _) (TLook.mk ((rdL s8.2 (w64 (s8.1 - 1))).fID) (TSpot.mk ((rdL s8.2 (w64 (s8.1 - 1))).fAt.fFoot) ((rdL s8.2 (w64 (s8.1 - 1))).fAt.fHour)) (TSpan.mk ((rdL s8.2 (w64 (s8.1 - 1))).fHeat.fLo) ((rdL s8.2 (w64 (s8.1 - 1))).fHeat.fHi))) sz_34 rfl hg17.1 (lt_nat hg17.2 hn1_s8) rfl rfl rfl rfl) ?_
              refine ox_nil ?_
              exact ex_capGn (fun _ => (none, 0, 0)) (List.append_nil _)
            dsimp only [aftL, List.set_cons_zero, List.set_cons_succ, List.nil_append, List.cons_append, List.append_nil]
            refine gx_o rfl (fun L2 => ?_) ?_
            · dsimp only [maskL, List.cons_append, List.nil_append]
              refine ox_y rfl (y_indexR sl_22 (by decide) hg18.1 hg18.2 (RdL.row 1 rfl) (encL_len TLook_cells_len (hn_set hn1_s8)) rfl rfl) ?_
              refine ox_nil ?_
              exact ex_capG (fun _ => (none, 0, 0)) rfl (List.append_nil _)
            dsimp only [aftL, List.set_cons_zero, List.set_cons_succ, List.nil_append, List.cons_append, List.append_nil]
            refine gx_n rfl (fun L2 => ?_) ?_
            · dsimp only [maskL, List.cons_append, List.nil_append]
              refine ox_n rfl (y_storeRN 1 (xs := (s8.2.set (Int.toNat s8.1) (TLook.mk ((rdL s8.2 (w64 (s8.1 - 1))).fID) (TSpot.mk ((rdL s8.2 (w64 (s8.1 - 1))).fAt.fFoot) ((rdL s8.2 (w64 (s8.1 - 1))).fAt.fHour)) (TSpan.mk ((rdL s8.2 (w64 (s8.1 - 1))).fHeat.fLo) ((rdL s8.2 (w64 (s8.1 - 1))).fHeat.fHi))))) [.int .i64 ((rdL s8.2 s8.1).fID), .int .i64 ((rdL s8.2 s8.1).fAt.fFoot), .int .i64 ((rdL s8.2 s8.1).fAt.fHour), .int .i64 ((rdL s8.2 s8.1).fHeat.fLo), .int .i64 ((rdL s8.2 s8.1).fHeat.fHi)] TLook_cells_len (Nat.succ_pos _) (TLook.mk ((rdL s8.2 s8.1).fID) (TSpot.mk ((rdL s8.2 s8.1).fAt.fFoot) ((rdL s8.2 s8.1).fAt.fHour)) (TSpan.mk ((rdL s8.2 s8.1).fHeat.fLo) ((rdL s8.2 s8.1).fHeat.fHi))) sz_34 rfl hg18.1 (lt_nat hg18.2 (hn_set hn1_s8)) rfl rfl rfl rfl) ?_
              refine ox_nil ?_
              exact ex_capGn (fun _ => (none, 0, 0)) (List.append_nil _)
            dsimp only [aftL, List.set_cons_zero, List.set_cons_succ, List.nil_append, List.cons_append, List.append_nil]
            refine gx_nil ?_
            refine ex_block ?_
            refine ex_then ?_
            refine cx_region ?_
            refine ox_y rfl (y_move_int rfl) ?_
            refine ox_y rfl (y_sub rfl rfl) ?_
            refine ox_y rfl (y_assign_int rfl) ?_
            refine ox_nil ?_
            obtain rfl := Option.some.inj h
            exact ex_next ⟨_, (hn_set (hn_set hn1_s8)), rfl, (keep (keep (keep (keep (keep (keep (keep rfl rfl) rfl) rfl) rfl) rfl) rfl) rfl)⟩
          · refine cx_false (congrArg Value.bool hp13) ?_
            refine cx_exit ?_
            refine ex_then_exit ?_
            obtain rfl := Option.some.inj h
            exact ex_stop ⟨rfl, _, hn1_s8, rfl, (keep (keep (keep (keep (keep (keep (keep rfl rfl) rfl) rfl) rfl) rfl) rfl) rfl)⟩
        · clear h; rcases ite_some hb12 with ⟨hp10, h⟩ | ⟨hp10, h⟩
          · refine qx_y (sees_t rfl rfl rfl rfl hp10) (y_move (v := .func (.func fid3) #[] caps3.toArray) rfl) ?_
            refine qx_y (sees_t rfl rfl rfl rfl hp10) (y_move_slice rfl) ?_
            refine qx_y (sees_t rfl rfl rfl rfl hp10) (y_move_int rfl) ?_
            obtain ⟨hg19, h⟩ := guardO_some h
            refine qx_y (sees_t rfl rfl rfl rfl hp10) (y_indexR sl_22 (by decide) hg19.1 hg19.2 (RdL.row 1 rfl) (encL_len TLook_cells_len hn1_s8) rfl rfl) ?_
            refine qx_y (sees_t rfl rfl rfl rfl hp10) (y_loadRN (A := A0_0) (j := (Int.toNat s8.1 * 5)) [.int .i64 ((rdL s8.2 s8.1).fID), .int .i64 ((rdL s8.2 s8.1).fAt.fFoot), .int .i64 ((rdL s8.2 s8.1).fAt.fHour), .int .i64 ((rdL s8.2 s8.1).fHeat.fLo), .int .i64 ((rdL s8.2 s8.1).fHeat.fHi)] ag_34 (Nat.succ_pos _) (RdL.row 1 rfl) rfl (encL_gets TLook_cells_len hg19.1 (lt_nat hg19.2 hn1_s8))) ?_
            refine qx_y (sees_t rfl rfl rfl rfl hp10) (y_move_slice rfl) ?_
            refine qx_y (sees_t rfl rfl rfl rfl hp10) (y_move_int rfl) ?_
            refine qx_y (sees_t rfl rfl rfl rfl hp10) (y_sub rfl rfl) ?_
            obtain ⟨hg20, h⟩ := guardO_some h
            refine qx_y (sees_t rfl rfl rfl rfl hp10) (y_indexR sl_22 (by decide) hg20.1 hg20.2 (RdL.row 1 rfl) (encL_len TLook_cells_len hn1_s8) rfl rfl) ?_
            refine qx_y (sees_t rfl rfl rfl rfl hp10) (y_loadRN (A := A0_0) (j := (Int.toNat (w64 (s8.1 - 1)) * 5)) [.int .i64 ((rdL s8.2 (w64 (s8.1 - 1))).fID), .int .i64 ((rdL s8.2 (w64 (s8.1 - 1))).fAt.fFoot), .int .i64 ((rdL s8.2 (w64 (s8.1 - 1))).fAt.fHour), .int .i64 ((rdL s8.2 (w64 (s8.1 - 1))).fHeat.fLo), .int .i64 ((rdL s8.2 (w64 (s8.1 - 1))).fHeat.fHi)] ag_34 (Nat.succ_pos _) (RdL.row 1 rfl) rfl (encL_gets TLook_cells_len hg20.1 (lt_nat hg20.2 hn1_s8))) ?_
            obtain ⟨y21, hy22, h⟩ := bind_some h
            refine qx_y (sees_t rfl rfl rfl rfl hp10) (y_callv [.agg #[.int .i64 ((rdL s8.2 s8.1).fID), .int .i64 ((rdL s8.2 s8.1).fAt.fFoot), .int .i64 ((rdL s8.2 s8.1).fAt.fHour), .int .i64 ((rdL s8.2 s8.1).fHeat.fLo), .int .i64 ((rdL s8.2 s8.1).fHeat.fHi)], .agg #[.int .i64 ((rdL s8.2 (w64 (s8.1 - 1))).fID), .int .i64 ((rdL s8.2 (w64 (s8.1 - 1))).fAt.fFoot), .int .i64 ((rdL s8.2 (w64 (s8.1 - 1))).fAt.fHour), .int .i64 ((rdL s8.2 (w64 (s8.1 - 1))).fHeat.fLo), .int .i64 ((rdL s8.2 (w64 (s8.1 - 1))).fHeat.fHi)]] hgo3 rfl rfl (fun W2 hW2 => hof3 W2 hW2.below (hW2.mem (i := 0) rfl) (TLook.mk ((rdL s8.2 s8.1).fID) (TSpot.mk ((rdL s8.2 s8.1).fAt.fFoot) ((rdL s8.2 s8.1).fAt.fHour)) (TSpan.mk ((rdL s8.2 s8.1).fHeat.fLo) ((rdL s8.2 s8.1).fHeat.fHi))) (TLook.mk ((rdL s8.2 (w64 (s8.1 - 1))).fID) (TSpot.mk ((rdL s8.2 (w64 (s8.1 - 1))).fAt.fFoot) ((rdL s8.2 (w64 (s8.1 - 1))).fAt.fHour)) (TSpan.mk ((rdL s8.2 (w64 (s8.1 - 1))).fHeat.fLo) ((rdL s8.2 (w64 (s8.1 - 1))).fHeat.fHi))) y21 hy22)) ?_
            refine qx_y (sees_t rfl rfl rfl rfl hp10) (y_lss rfl rfl) ?_
            refine qx_y rfl (y_pick_tb (congrArg Value.bool hp10) rfl) ?_
            obtain rfl := Option.some.inj h
            exact key _ _ (keep (keep (keep (keep (keep (keep (keep (keep rfl rfl) rfl) rfl) rfl) rfl) rfl) rfl) rfl)
          · refine qx_skip (sees_f rfl rfl rfl rfl hp10) ?_
            refine qx_skip (sees_f rfl rfl rfl rfl hp10) ?_
            refine qx_skip (sees_f rfl rfl rfl rfl hp10) ?_
            refine qx_skip (sees_f rfl rfl rfl rfl hp10) ?_
            refine qx_skip (sees_f rfl rfl rfl rfl hp10) ?_
            refine qx_skip (sees_f rfl rfl rfl rfl hp10) ?_
            refine qx_skip (sees_f rfl rfl rfl rfl hp10) ?_
            refine qx_skip (sees_f rfl rfl rfl rfl hp10) ?_
            refine qx_skip (sees_f rfl rfl rfl rfl hp10) ?_
            refine qx_skip (sees_f rfl rfl rfl rfl hp10) ?_
            refine qx_skip (sees_f rfl rfl rfl rfl hp10) ?_
            refine qx_skip (sees_f rfl rfl rfl rfl hp10) ?_
            refine qx_y rfl (y_pick_fb (congrArg Value.bool hp10) rfl) ?_
            obtain rfl := Option.some.inj h
            exact key _ _ (keep (keep (keep (keep (keep (keep (keep (keep rfl rfl) rfl) rfl) rfl) rfl) rfl) rfl) rfl)
      · intro e L tm hJ
        obtain ⟨rfl, tm0_u9, hn1_u9, rfl, rfl⟩ := hJ
        refine ⟨(by intro hc; cases hc), ?_⟩
        refine ex_block_here ?_
        refine ex_block ?_
        refine ex_then ?_
        refine cx_region ?_
        refine ox_y rfl (y_move_int rfl) ?_
        refine ox_y rfl (y_add rfl rfl) ?_
        refine ox_y rfl (y_assign_int rfl) ?_
        refine ox_nil ?_
        obtain rfl := Option.some.inj h
        exact ex_next ⟨_, hn1_u9, rfl, (keep (keep (keep (keep (keep rfl rfl) rfl) rfl) rfl) rfl)⟩
    · refine cx_false (congrArg Value.bool hp5) ?_
      refine cx_exit ?_
      refine ex_then_exit ?_
      obtain rfl := Option.some.inj h
      exact ex_stop ⟨rfl, _, hn1_s3, rfl, (keep (keep (keep (keep (keep rfl rfl) rfl) rfl) rfl) rfl)⟩
  · intro e L tm hJ
    obtain ⟨rfl, tm0_u4, hn1_u4, rfl, rfl⟩ := hJ
    refine ⟨(by intro hc; cases hc), ?_⟩
    refine ex_block_here ?_
    obtain rfl := Option.some.inj h
    exact ex_result0 (.inr rfl) rfl  (fun W2 hW2 => ⟨rfl, hn1_u4, hW2.take 2⟩)

/-! math/bits.Len64 -/
theorem lenv_cases {x : Int} (h : 0 ≤ x ∧ x < 16) : x = 0 ∨ x = 1 ∨ x = 2 ∨ x = 3 ∨ x = 4 ∨ x = 5 ∨ x = 6 ∨ x = 7 ∨ x = 8 ∨ x = 9 ∨ x = 10 ∨ x = 11 ∨ x = 12 ∨ x = 13 ∨ x = 14 ∨ x = 15 := by omega
set_option maxRecDepth 100000 in
theorem math_bits_Len64_ok (p0_x : Int) (res : Int) (h : math_bits_Len64 p0_x = some res) (W : World) :
    Calls Try.prog 131 [.int .u64 p0_x].toArray W fun e W2 => e = .returned (.int .i64 res) ∧ Ext W W2 [] := by
  unfold math_bits_Len64 at h
  obtain ⟨hg, h⟩ := guardO_some h
  refine calls_enter (m := 25) Try.func131 rfl rfl (Nat.le_of_ble_eq_true rfl) ?_
  have h1 : decide ((4294967296 : Int) ≤ p0_x) = false := decide_eq_false (by omega)
  have h2 : decide ((65536 : Int) ≤ p0_x) = false := decide_eq_false (by omega)
  have h3 : decide ((256 : Int) ≤ p0_x) = false := decide_eq_false (by omega)
  refine cx_seq ?_
  refine cx_region ?_
  refine ox_y rfl (y_assign_int rfl) ?_
  refine ox_nil ?_
  refine ex_then ?_
  refine cx_seq ?_
  refine cx_seq ?_
  refine cx_region ?_
  refine ox_y rfl (y_move_int rfl) ?_
  refine ox_y rfl (y_geq rfl rfl) ?_
  refine ox_nil ?_
  refine ex_then ?_
  refine cx_false (congrArg Value.bool h1) ?_
  refine cx_skip ?_
  refine ex_then ?_
  refine cx_seq ?_
  refine cx_seq ?_
  refine cx_region ?_
  refine ox_y rfl (y_move_int rfl) ?_
  refine ox_y rfl (y_geq rfl rfl) ?_
  refine ox_nil ?_
  refine ex_then ?_
  refine cx_false (congrArg Value.bool h2) ?_
  refine cx_skip ?_
  refine ex_then ?_
  refine cx_seq ?_
  refine cx_seq ?_
  refine cx_region ?_
  refine ox_y rfl (y_move_int rfl) ?_
  refine ox_y rfl (y_geq rfl rfl) ?_
  refine ox_nil ?_
  refine ex_then ?_
  refine cx_false (congrArg Value.bool h3) ?_
  refine cx_skip ?_
  refine ex_then ?_
  refine cx_seq ?_
  refine cx_region ?_
  refine ox_y rfl (y_move_int rfl) ?_
  refine ox_y rfl (y_move_int rfl) ?_
  refine ox_y rfl (y_convQ (a' := p0_x) (q' := .u8) ui_167 ui_5 (by rcases lenv_cases hg with rfl | rfl | rfl | rfl | rfl | rfl | rfl | rfl | rfl | rfl | rfl | rfl | rfl | rfl | rfl | rfl <;> decide) rfl) ?_
  refine ox_y rfl (y_indexStr (b := UInt8.ofNat (lenv p0_x).toNat) us_s9 hg.1 (by rcases lenv_cases hg with rfl | rfl | rfl | rfl | rfl | rfl | rfl | rfl | rfl | rfl | rfl | rfl | rfl | rfl | rfl | rfl <;> rfl) rfl rfl) ?_
  refine ox_y rfl (y_convQ (a' := lenv p0_x) (q' := .i64) ui_5 ui_3 (by rcases lenv_cases hg with rfl | rfl | rfl | rfl | rfl | rfl | rfl | rfl | rfl | rfl | rfl | rfl | rfl | rfl | rfl | rfl <;> decide) rfl) ?_
  refine ox_y rfl (y_add rfl rfl) ?_
  refine ox_y rfl (y_assign_int rfl) ?_
  refine ox_nil ?_
  refine ex_then ?_
  refine cx_ret ?_
  obtain rfl := Option.some.inj h
  exact ex_res1 (.inl rfl) rfl (resV_tmp (v := .int .i64 (w64 (0 + lenv p0_x))) rfl) (fun W2 hW2 => ⟨rfl, hW2.none⟩)

/-! math/bits.Len -/
set_option maxRecDepth 100000 in
theorem math_bits_Len_ok (p0_x : Int) (res : Int) (h : math_bits_Len p0_x = some res) (W : World)  :
    Calls Try.prog 121 [.int .u64 p0_x].toArray W fun e W2 => e = .returned (.int .i64 res) ∧ Ext W W2 [] := by
  unfold math_bits_Len at h
  refine calls_enter (m := 8) Try.func121 rfl rfl (Nat.le_of_ble_eq_true rfl) ?_
  refine cx_seq ?_
  refine cx_region ?_
  refine ox_y rfl (y_assign_int rfl) ?_
  refine ox_nil ?_
  refine ex_then ?_
  refine cx_seq ?_
  refine cx_false rfl ?_
  refine cx_skip ?_
  refine ex_then ?_
  refine cx_seq ?_
  refine cx_region ?_
  refine ox_y rfl (y_move_int rfl) ?_
  obtain ⟨y1, hy2, h⟩ := bind_some h
  refine ox_y rfl (y_call [.int .u64 p0_x] go_131 rfl (fun W2 hW2 => math_bits_Len64_ok p0_x y1 hy2 W2 ) rfl) ?_
  refine ox_y rfl (y_assign_int rfl) ?_
  refine ox_nil ?_
  refine ex_then ?_
  refine cx_ret ?_
  obtain rfl := Option.some.inj h
  exact ex_res1 (.inl rfl) rfl (resV_tmp (v := .int .i64 y1) rfl) (fun W2 hW2 => ⟨rfl, hW2.none⟩)

/-! slices.order2CmpFunc[calx/api.Look] -/
set_option maxRecDepth 100000 in
theorem slices_order2CmpFunc_calx_api_Look_ok (p0_data : (List TLook)) (p1_a : Int) (p2_b : Int) (p3_swaps : Int) (p4_cmp : TLook → TLook → Option Int) (res : (Int × Int × Int)) (h : slices_order2CmpFunc_calx_api_Look p0_data p1_a p2_b p3_swaps p4_cmp = some res) (W : World) (w0 : World) (R : Res) (A0_0 : Option Addr) (n0_0 c0_0 : Nat) (hn0_0 : n0_0 = p0_data.length) (hr0_0 : ∀ W2, Below w0.heap.size w0 W2 → R.holds W2 → Rd W2 A0_0 n0_0 c0_0 (encL TLook_cells p0_data)) (bp3 : Nat) (fid4 : Nat) (caps4 : List Value) (hgo4 : goes Try.prog fid4 = true) (hof4 : ∀ W2, Below w0.heap.size w0 W2 → R.holds W2 → ∀ x0 x1 y, p4_cmp x0 x1 = some y → Calls Try.prog fid4 (([.agg #[.int .i64 x0.fID, .int .i64 x0.fAt.fFoot, .int .i64 x0.fAt.fHour, .int .i64 x0.fHeat.fLo, .int .i64 x0.fHeat.fHi], .agg #[.int .i64 x1.fID, .int .i64 x1.fAt.fFoot, .int .i64 x1.fAt.fHour, .int .i64 x1.fHeat.fLo, .int .i64 x1.fHeat.fHi]] : List Value) ++ caps4).toArray W2 fun e W3 => e = .returned (.int .i64 y) ∧ Ext W2 W3 []) (hW : Ext w0 W [R, cellsR bp3 3 [.int .i64 p3_swaps]]) :
    Calls Try.prog 137 [.slice A0_0 n0_0 c0_0, .int .i64 p1_a, .int .i64 p2_b, .pointer (some ⟨bp3, 0, none⟩), .func (.func fid4) #[] caps4.toArray].toArray W fun e W2 => e = .returned (.tuple #[.int .i64 res.1, .int .i64 res.2.1]) ∧ Ext w0 W2 [R, cellsR bp3 3 [.int .i64 res.2.2]] := by
  subst hn0_0
  unfold slices_order2CmpFunc_calx_api_Look at h
  refine calls_enterB (m := 32) Try.func137 rfl rfl (Nat.le_of_ble_eq_true rfl) hW ?_
  refine cx_seq ?_
  refine cx_region ?_
  refine ox_y rfl (y_assign_int rfl) ?_
  refine ox_y rfl (y_assign_int rfl) ?_
  refine ox_nil ?_
  refine ex_then ?_
  refine cx_seq ?_
  refine cx_seq ?_
  refine cx_draws 11 mixed (by kernel_rfl) (by kernel_rfl) ?_
  refine qx_y rfl (y_move (v := .func (.func fid4) #[] caps4.toArray) rfl) ?_
  refine qx_y rfl (y_move_slice rfl) ?_
  refine qx_y rfl (y_move_int rfl) ?_
  obtain ⟨hg1, h⟩ := guardO_some h
  refine qx_y rfl (y_indexR sl_22 (by decide) hg1.1 hg1.2 (RdL.under hr0_0) (encL_len TLook_cells_len rfl) rfl rfl) ?_
  refine qx_y rfl (y_loadRN (A := A0_0) (j := (Int.toNat p2_b * 5)) [.int .i64 ((rdL p0_data p2_b).fID), .int .i64 ((rdL p0_data p2_b).fAt.fFoot), .int .i64 ((rdL p0_data p2_b).fAt.fHour), .int .i64 ((rdL p0_data p2_b).fHeat.fLo), .int .i64 ((rdL p0_data p2_b).fHeat.fHi)] ag_34 (Nat.succ_pos _) (RdL.under hr0_0) rfl (encL_gets TLook_cells_len hg1.1 (lt_nat hg1.2 rfl))) ?_
  refine qx_y rfl (y_move_slice rfl) ?_
  refine qx_y rfl (y_move_int rfl) ?_
  obtain ⟨hg2, h⟩ := guardO_some h
  refine qx_y rfl (y_indexR sl_22 (by decide) hg2.1 hg2.2 (RdL.under hr0_0) (encL_len TLook_cells_len rfl) rfl rfl) ?_
  refine qx_y rfl (y_loadRN (A := A0_0) (j := (Int.toNat p1_a * 5)) [.int .i64 ((rdL p0_data p1_a).fID), .int .i64 ((rdL p0_data p1_a).fAt.fFoot), .int .i64 ((rdL p0_data p1_a).fAt.fHour), .int .i64 ((rdL p0_data p1_a).fHeat.fLo), .int .i64 ((rdL p0_data p1_a).fHeat.fHi)] ag_34 (Nat.succ_pos _) (RdL.under hr0_0) rfl (encL_gets TLook_cells_len hg2.1 (lt_nat hg2.2 rfl))) ?_
  obtain ⟨y3, hy4, h⟩ := bind_some h
  refine qx_y rfl (y_callv [.agg #[.int .i64 ((rdL p0_data p2_b).fID), .int .i64 ((rdL p0_data p2_b).fAt.fFoot), .int .i64 ((rdL p0_data p2_b).fAt.fHour), .int .i64 ((rdL p0_data p2_b).fHeat.fLo), .int .i64 ((rdL p0_data p2_b).fHeat.fHi)], .agg #[.int .i64 ((rdL p0_data p1_a).fID), .int .i64 ((rdL p0_data p1_a).fAt.fFoot), .int .i64 ((rdL p0_data p1_a).fAt.fHour), .int .i64 ((rdL p0_data p1_a).fHeat.fLo), .int .i64 ((rdL p0_data p1_a).fHeat.fHi)]] hgo4 rfl rfl (fun W2 hW2 => hof4 W2 hW2.below (hW2.mem (i := 0) rfl) (rdL p0_data p2_b) (rdL p0_data p1_a) y3 hy4)) ?_
  refine qx_y rfl (y_lss rfl rfl) ?_
  refine qx_nil ?_
  refine ox_nil ?_
  refine ex_then ?_
  rcases ite_some h with ⟨hp5, h⟩ | ⟨hp5, h⟩
  · refine cx_true (congrArg Value.bool hp5) ?_
    refine cx_seq ?_
    refine cx_region ?_
    refine ox_y rfl (y_move_ptr rfl) ?_
    refine ox_y rfl (y_nilCheck rfl) ?_
    refine ox_y rfl (y_load1 1 (v := .int .i64 p3_swaps) sc_3 rfl rfl rfl) ?_
    refine ox_y rfl (y_add rfl rfl) ?_
    refine ox_y rfl (y_nilCheck rfl) ?_
    refine ox_n rfl (y_store1 1 (v := .int .i64 (w64 (p3_swaps + 1))) sz_3 rfl (Nat.lt_of_lt_of_le (Nat.lt_succ_self _) (Nat.le_of_ble_eq_true rfl)) rfl rfl rfl) ?_
    refine ox_nil ?_
    refine ex_then ?_
    refine cx_seq ?_
    refine cx_region ?_
    refine ox_y rfl (y_move_int rfl) ?_
    refine ox_y rfl (y_move_int rfl) ?_
    refine ox_y rfl (y_assign_int rfl) ?_
    refine ox_y rfl (y_assign_int rfl) ?_
    refine ox_nil ?_
    refine ex_then ?_
    refine cx_ret ?_
    refine ex_then_ret ?_
    obtain rfl := Option.some.inj h
    exact ex_res2 (.inl rfl) rfl (resV_tmp (v := .int .i64 p2_b) rfl) (resV_tmp (v := .int .i64 p1_a) rfl) (fun W2 hW2 => ⟨rfl, hW2.take 2⟩)
  · refine cx_false (congrArg Value.bool hp5) ?_
    refine cx_skip ?_
    refine ex_then ?_
    refine cx_seq ?_
    refine cx_region ?_
    refine ox_y rfl (y_move_int rfl) ?_
    refine ox_y rfl (y_move_int rfl) ?_
    refine ox_y rfl (y_assign_int rfl) ?_
    refine ox_y rfl (y_assign_int rfl) ?_
    refine ox_nil ?_
    refine ex_then ?_
    refine cx_ret ?_
    obtain rfl := Option.some.inj h
    exact ex_res2 (.inl rfl) rfl (resV_tmp (v := .int .i64 p1_a) rfl) (resV_tmp (v := .int .i64 p2_b) rfl) (fun W2 hW2 => ⟨rfl, hW2.take 2⟩)

/-! slices.medianCmpFunc[calx/api.Look] -/
set_option maxRecDepth 100000 in
theorem slices_medianCmpFunc_calx_api_Look_ok (p0_data : (List TLook)) (p1_a : Int) (p2_b : Int) (p3_c : Int) (p4_swaps : Int) (p5_cmp : TLook → TLook → Option Int) (res : (Int × Int)) (h : slices_medianCmpFunc_calx_api_Look p0_data p1_a p2_b p3_c p4_swaps p5_cmp = some res) (W : World) (w0 : World) (R : Res) (A0_0 : Option Addr) (n0_0 c0_0 : Nat) (hn0_0 : n0_0 = p0_data.length) (hr0_0 : ∀ W2, Below w0.heap.size w0 W2 → R.holds W2 → Rd W2 A0_0 n0_0 c0_0 (encL TLook_cells p0_data)) (bp4 : Nat) (fid5 : Nat) (caps5 : List Value) (hgo5 : goes Try.prog fid5 = true) (hof5 : ∀ W2, Below w0.heap.size w0 W2 → R.holds W2 → ∀ x0 x1 y, p5_cmp x0 x1 = some y → Calls Try.prog fid5 (([.agg #[.int .i64 x0.fID, .int .i64 x0.fAt.fFoot, .int .i64 x0.fAt.fHour, .int .i64 x0.fHeat.fLo, .int .i64 x0.fHeat.fHi], .agg #[.int .i64 x1.fID, .int .i64 x1.fAt.fFoot, .int .i64 x1.fAt.fHour, .int .i64 x1.fHeat.fLo, .int .i64 x1.fHeat.fHi]] : List Value) ++ caps5).toArray W2 fun e W3 => e = .returned (.int .i64 y) ∧ Ext W2 W3 []) (hW : Ext w0 W [R, cellsR bp4 3 [.int .i64 p4_swaps]]) :
    Calls Try.prog 136 [.slice A0_0 n0_0 c0_0, .int .i64 p1_a, .int .i64 p2_b, .int .i64 p3_c, .pointer (some ⟨bp4, 0, none⟩), .func (.func fid5) #[] caps5.toArray].toArray W fun e W2 => e = .returned (.int .i64 res.1) ∧ Ext w0 W2 [R, cellsR bp4 3 [.int .i64 res.2]] := by
  subst hn0_0
  unfold slices_medianCmpFunc_calx_api_Look at h
  refine calls_enterB (m := 41) Try.func136 rfl rfl (Nat.le_of_ble_eq_true rfl) hW ?_
  refine cx_seq ?_
  refine cx_region ?_
  refine ox_y rfl (y_assign_int rfl) ?_
  refine ox_nil ?_
  refine ex_then ?_
  refine cx_seq ?_
  refine cx_region ?_
  refine ox_y rfl (y_move_slice rfl) ?_
  refine ox_y rfl (y_move_int rfl) ?_
  refine ox_y rfl (y_move_int rfl) ?_
  refine ox_y rfl (y_move_ptr rfl) ?_
  refine ox_y rfl (y_move (v := .func (.func fid5) #[] caps5.toArray) rfl) ?_
  obtain ⟨y1, hy2, h⟩ := bind_some h
  refine ox_callT 1 [.slice A0_0 p0_data.length c0_0, .int .i64 p1_a, .int .i64 p2_b, .pointer (some ⟨bp4, 0, none⟩), .func (.func fid5) #[] caps5.toArray] (fun (_ : Unit) => True) (fun _ => .tuple #[.int .i64 y1.1, .int .i64 y1.2.1]) (fun _ => cellsR bp4 3 [.int .i64 y1.2.2]) (fun _ => []) rfl rfl go_137 rfl (fun W2 hW2 => (slices_order2CmpFunc_calx_api_Look_ok p0_data p1_a p2_b p4_swaps p5_cmp y1 hy2 W2 _ (restR [R, cellsR bp4 3 [.int .i64 p4_swaps]] [1]) A0_0 p0_data.length c0_0 rfl (fun W3 hb hR => (RdL.under hr0_0) W3 (hW2.rest hb hR)) bp4 fid5 caps5 hgo5 (fun W3 hb hR => hof5 W3 hb (hR.1 0 _ (by decide) rfl)) hW2).mono (fun e W3 h3 => ⟨(), trivial, h3.1, h3.2⟩)) ?_
  rintro - -
  try dsimp only [List.set_cons_zero, List.set_cons_succ, List.append_nil]
  refine ox_y rfl (y_move_tuple rfl) ?_
  refine ox_y rfl (y_extract (vs := [.int .i64 y1.1, .int .i64 y1.2.1]) (v := .int .i64 y1.1) rfl rfl) ?_
  refine ox_y rfl (y_extract (vs := [.int .i64 y1.1, .int .i64 y1.2.1]) (v := .int .i64 y1.2.1) rfl rfl) ?_
  refine ox_y rfl (y_assign_int rfl) ?_
  refine ox_y rfl (y_assign_int rfl) ?_
  refine ox_nil ?_
  refine ex_then ?_
  refine cx_seq ?_
  refine cx_region ?_
  refine ox_y rfl (y_move_slice rfl) ?_
  refine ox_y rfl (y_move_int rfl) ?_
  refine ox_y rfl (y_move_int rfl) ?_
  refine ox_y rfl (y_move_ptr rfl) ?_
  refine ox_y rfl (y_move (v := .func (.func fid5) #[] caps5.toArray) rfl) ?_
  obtain ⟨y3, hy4, h⟩ := bind_some h
  refine ox_callT 1 [.slice A0_0 p0_data.length c0_0, .int .i64 y1.2.1, .int .i64 p3_c, .pointer (some ⟨bp4, 0, none⟩), .func (.func fid5) #[] caps5.toArray] (fun (_ : Unit) => True) (fun _ => .tuple #[.int .i64 y3.1, .int .i64 y3.2.1]) (fun _ => cellsR bp4 3 [.int .i64 y3.2.2]) (fun _ => []) rfl rfl go_137 rfl (fun W2 hW2 => (slices_order2CmpFunc_calx_api_Look_ok p0_data y1.2.1 p3_c y1.2.2 p5_cmp y3 hy4 W2 _ (restR [R, cellsR bp4 3 [.int .i64 y1.2.2]] [1]) A0_0 p0_data.length c0_0 rfl (fun W3 hb hR => (RdL.under hr0_0) W3 (hW2.rest hb hR)) bp4 fid5 caps5 hgo5 (fun W3 hb hR => hof5 W3 hb (hR.1 0 _ (by decide) rfl)) hW2).mono (fun e W3 h3 => ⟨(), trivial, h3.1, h3.2⟩)) ?_
  rintro - -
  try dsimp only [List.set_cons_zero, List.set_cons_succ, List.append_nil]
  refine ox_y rfl (y_move_tuple rfl) ?_
  refine ox_y rfl (y_extract (vs := [.int .i64 y3.1, .int .i64 y3.2.1]) (v := .int .i64 y3.1) rfl rfl) ?_
  refine ox_y rfl (y_extract (vs := [.int .i64 y3.1, .int .i64 y3.2.1]) (v := .int .i64 y3.2.1) rfl rfl) ?_
  refine ox_y rfl (y_assign_int rfl) ?_
  refine ox_y rfl (y_assign_int rfl) ?_
  refine ox_nil ?_
  refine ex_then ?_
  refine cx_seq ?_
  refine cx_region ?_
  refine ox_y rfl (y_move_slice rfl) ?_
  refine ox_y rfl (y_move_int rfl) ?_
  refine ox_y rfl (y_move_int rfl) ?_
  refine ox_y rfl (y_move_ptr rfl) ?_
  refine ox_y rfl (y_move (v := .func (.func fid5) #[] caps5.toArray) rfl) ?_
  obtain ⟨y5, hy6, h⟩ := bind_some h
  refine ox_callT 1 [.slice A0_0 p0_data.length c0_0, .int .i64 y1.1, .int .i64 y3.1, .pointer (some ⟨bp4, 0, none⟩), .func (.func fid5) #[] caps5.toArray] (fun (_ : Unit) => True) (fun _ => .tuple #[.int .i64 y5.1, .int .i64 y5.2.1]) (fun _ => cellsR bp4 3 [.int .i64 y5.2.2]) (fun _ => []) rfl rfl go_137 rfl (fun W2 hW2 => (slices_order2CmpFunc_calx_api_Look_ok p0_data y1.1 y3.1 y3.2.2 p5_cmp y5 hy6 W2 _ (restR [R, cellsR bp4 3 [.int .i64 y3.2.2]] [1]) A0_0 p0_data.length c0_0 rfl (fun W3 hb hR => (RdL.under hr0_0) W3 (hW2.rest hb hR)) bp4 fid5 caps5 hgo5 (fun W3 hb hR => hof5 W3 hb (hR.1 0 _ (by decide) rfl)) hW2).mono (fun e W3 h3 => ⟨(), trivial, h3.1, h3.2⟩)) ?_
  rintro - -
  try dsimp only [List.set_cons_zero, List.set_cons_succ, List.append_nil]
  refine ox_y rfl (y_move_tuple rfl) ?_
  refine ox_y rfl (y_extract (vs := [.int .i64 y5.1, .int .i64 y5.2.1]) (v := .int .i64 y5.1) rfl rfl) ?_
  refine ox_y rfl (y_extract (vs := [.int .i64 y5.1, .int .i64 y5.2.1]) (v := .int .i64 y5.2.1) rfl rfl) ?_
  refine ox_y rfl (y_assign_int rfl) ?_
  refine ox_y rfl (y_assign_int rfl) ?_
  refine ox_nil ?_
  refine ex_then ?_
  refine cx_seq ?_
  refine cx_region ?_
  refine ox_y rfl (y_move_int rfl) ?_
  refine ox_y rfl (y_assign_int rfl) ?_
  refine ox_nil ?_
  refine ex_then ?_
  refine cx_ret ?_
  obtain rfl := Option.some.inj h
  exact ex_res1 (.inl rfl) rfl (resV_tmp (v := .int .i64 y5.2.1) rfl) (fun W2 hW2 => ⟨rfl, hW2.take 2⟩)

/-! slices.choosePivotCmpFunc[calx/api.Look] -/
set_option maxRecDepth 100000 in
theorem slices_choosePivotCmpFunc_calx_api_Look_ok (p0_data : (List TLook)) (p1_a : Int) (p2_b : Int) (p3_cmp : TLook → TLook → Option Int) (res : (Int × Int)) (h : slices_choosePivotCmpFunc_calx_api_Look p0_data p1_a p2_b p3_cmp = some res) (W : World) (A0_0 : Option Addr) (n0_0 c0_0 : Nat) (hn0_0 : n0_0 = p0_data.length) (hr0_0 : Rd W A0_0 n0_0 c0_0 (encL TLook_cells p0_data)) (fid3 : Nat) (caps3 : List Value) (hgo3 : goes Try.prog fid3 = true) (hof3 : ∀ W2, Below W.heap.size W W2 → ∀ x0 x1 y, p3_cmp x0 x1 = some y → Calls Try.prog fid3 (([.agg #[.int .i64 x0.fID, .int .i64 x0.fAt.fFoot, .int .i64 x0.fAt.fHour, .int .i64 x0.fHeat.fLo, .int .i64 x0.fHeat.fHi], .agg #[.int .i64 x1.fID, .int .i64 x1.fAt.fFoot, .int .i64 x1.fAt.fHour, .int .i64 x1.fHeat.fLo, .int .i64 x1.fHeat.fHi]] : List Value) ++ caps3).toArray W2 fun e W3 => e = .returned (.int .i64 y) ∧ Ext W2 W3 []) :
    Calls Try.prog 125 [.slice A0_0 n0_0 c0_0, .int .i64 p1_a, .int .i64 p2_b, .func (.func fid3) #[] caps3.toArray].toArray W fun e W2 => e = .returned (.tuple #[.int .i64 res.1, .int .i64 res.2]) ∧ Ext W W2 [] := by
  subst hn0_0
  unfold slices_choosePivotCmpFunc_calx_api_Look at h
  refine calls_enter (m := 63) Try.func125 rfl rfl (Nat.le_of_ble_eq_true rfl) ?_
  refine cx_seq ?_
  refine cx_region ?_
  refine ox_y rfl (y_assign_int rfl) ?_
  refine ox_y rfl (y_assign_int rfl) ?_
  refine ox_nil ?_
  refine ex_then ?_
  refine cx_seq ?_
  refine cx_region ?_
  refine ox_y rfl (y_move_int rfl) ?_
  refine ox_y rfl (y_move_int rfl) ?_
  refine ox_y rfl (y_sub rfl rfl) ?_
  refine ox_y rfl (y_assign_int rfl) ?_
  refine ox_nil ?_
  refine ex_then ?_
  refine cx_seq ?_
  refine cx_region ?_
  refine ox_alloc ze_3 rfl (fun b1 => ?_)
  refine ox_nil ?_
  refine ex_then ?_
  refine cx_seq ?_
  refine cx_region ?_
  refine ox_y rfl (y_move_int rfl) ?_
  refine ox_y rfl (y_move_int rfl) ?_
  refine ox_y rfl (y_quo (by decide) rfl rfl) ?_
  refine ox_y rfl (y_mul rfl rfl) ?_
  refine ox_y rfl (y_add rfl rfl) ?_
  refine ox_y rfl (y_assign_int rfl) ?_
  refine ox_nil ?_
  refine ex_then ?_
  refine cx_seq ?_
  refine cx_region ?_
  refine ox_y rfl (y_move_int rfl) ?_
  refine ox_y rfl (y_move_int rfl) ?_
  refine ox_y rfl (y_quo (by decide) rfl rfl) ?_
  refine ox_y rfl (y_mul rfl rfl) ?_
  refine ox_y rfl (y_add rfl rfl) ?_
  refine ox_y rfl (y_assign_int rfl) ?_
  refine ox_nil ?_
  refine ex_then ?_
  refine cx_seq ?_
  refine cx_region ?_
  refine ox_y rfl (y_move_int rfl) ?_
  refine ox_y rfl (y_move_int rfl) ?_
  refine ox_y rfl (y_quo (by decide) rfl rfl) ?_
  refine ox_y rfl (y_mul rfl rfl) ?_
  refine ox_y rfl (y_add rfl rfl) ?_
  refine ox_y rfl (y_assign_int rfl) ?_
  refine ox_nil ?_
  refine ex_then ?_
  refine cx_seq ?_
  refine cx_seq ?_
  refine cx_region ?_
  refine ox_y rfl (y_move_int rfl) ?_
  refine ox_y rfl (y_geq rfl rfl) ?_
  refine ox_nil ?_
  refine ex_then ?_
  rcases ite_some h with ⟨hp2, h⟩ | ⟨hp2, h⟩
  · refine cx_true (congrArg Value.bool hp2) ?_
    refine cx_seq ?_
    refine cx_seq ?_
    refine cx_region ?_
    refine ox_y rfl (y_move_int rfl) ?_
    refine ox_y rfl (y_geq rfl rfl) ?_
    refine ox_nil ?_
    refine ex_then ?_
    obtain ⟨hp3, h⟩ := guardO_some h
    refine cx_false (congrArg Value.bool hp3) ?_
    refine cx_skip ?_
    refine ex_then ?_
    refine cx_region ?_
    refine ox_y rfl (y_move_slice rfl) ?_
    refine ox_y rfl (y_move_int rfl) ?_
    refine ox_y rfl (y_move_int rfl) ?_
    refine ox_y rfl (y_move_int rfl) ?_
    refine ox_y rfl (y_move (v := .func (.func fid3) #[] caps3.toArray) rfl) ?_
    obtain ⟨y4, hy5, h⟩ := bind_some h
    refine ox_callT 0 [.slice A0_0 p0_data.length c0_0, .int .i64 (w64 (p1_a + (w64 ((w64 (Int.tdiv (w64 (p2_b - p1_a)) 4)) * 1)))), .int .i64 (w64 (p1_a + (w64 ((w64 (Int.tdiv (w64 (p2_b - p1_a)) 4)) * 2)))), .int .i64 (w64 (p1_a + (w64 ((w64 (Int.tdiv (w64 (p2_b - p1_a)) 4)) * 3)))), .pointer (some ⟨b1, 0, none⟩), .func (.func fid3) #[] caps3.toArray] (fun (_ : Unit) => True) (fun _ => .int .i64 y4.1) (fun _ => cellsR b1 3 [.int .i64 y4.2]) (fun _ => []) rfl rfl go_136 rfl (fun W2 hW2 => (slices_medianCmpFunc_calx_api_Look_ok p0_data (w64 (p1_a + (w64 ((w64 (Int.tdiv (w64 (p2_b - p1_a)) 4)) * 1)))) (w64 (p1_a + (w64 ((w64 (Int.tdiv (w64 (p2_b - p1_a)) 4)) * 2)))) (w64 (p1_a + (w64 ((w64 (Int.tdiv (w64 (p2_b - p1_a)) 4)) * 3)))) 0 p3_cmp y4 hy5 W2 _ (restR [cellsR b1 3 [.int .i64 0]] [0]) A0_0 p0_data.length c0_0 rfl (fun W3 hb hR => (RdL.arg hr0_0) W3 (hW2.rest hb hR)) b1 fid3 caps3 hgo3 (fun W3 hb _ => hof3 W3 hb) hW2).mono (fun e W3 h3 => ⟨(), trivial, h3.1, h3.2⟩)) ?_
    rintro - -
    try dsimp only [List.set_cons_zero, List.set_cons_succ, List.append_nil]
    refine ox_y rfl (y_assign_int rfl) ?_
    refine ox_nil ?_
    refine ex_then ?_
    refine cx_seq ?_
    refine cx_region ?_
    refine ox_y rfl (y_load1 0 (v := .int .i64 y4.2) sc_3 rfl rfl rfl) ?_
    refine ox_nil ?_
    refine ex_then ?_
    refine cx_block ?_
    refine cx_seq ?_
    refine cx_region ?_
    refine ox_y rfl (y_eql rfl rfl) ?_
    refine ox_y rfl (y_assign_bool rfl) ?_
    refine ox_nil ?_
    refine ex_then ?_
    rcases ite_some h with ⟨hp6, h⟩ | ⟨hp6, h⟩
    · refine cx_true (congrArg Value.bool hp6) ?_
      refine cx_seq ?_
      refine cx_region ?_
      refine ox_y rfl (y_move_int rfl) ?_
      refine ox_y rfl (y_assign_int rfl) ?_
      refine ox_y rfl (y_assign_int rfl) ?_
      refine ox_nil ?_
      refine ex_then ?_
      refine cx_ret ?_
      refine ex_block_ret ?_
      obtain rfl := Option.some.inj h
      exact ex_res2 (.inl rfl) rfl (resV_tmp (v := .int .i64 y4.1) rfl) (resV_tmp (v := .int .i64 1) rfl) (fun W2 hW2 => ⟨rfl, hW2.none⟩)
    · refine cx_false (congrArg Value.bool hp6) ?_
      refine cx_seq ?_
      refine cx_region ?_
      refine ox_y rfl (y_eql rfl rfl) ?_
      refine ox_y rfl (y_assign_bool rfl) ?_
      refine ox_nil ?_
      refine ex_then ?_
      rcases ite_some h with ⟨hp7, h⟩ | ⟨hp7, h⟩
      · refine cx_true (congrArg Value.bool hp7) ?_
        refine cx_seq ?_
        refine cx_region ?_
        refine ox_y rfl (y_move_int rfl) ?_
        refine ox_y rfl (y_assign_int rfl) ?_
        refine ox_y rfl (y_assign_int rfl) ?_
        refine ox_nil ?_
        refine ex_then ?_
        refine cx_ret ?_
        refine ex_block_ret ?_
        obtain rfl := Option.some.inj h
        exact ex_res2 (.inl rfl) rfl (resV_tmp (v := .int .i64 y4.1) rfl) (resV_tmp (v := .int .i64 2) rfl) (fun W2 hW2 => ⟨rfl, hW2.none⟩)
      · refine cx_false (congrArg Value.bool hp7) ?_
        refine cx_seq ?_
        refine cx_region ?_
        refine ox_y rfl (y_move_int rfl) ?_
        refine ox_y rfl (y_assign_int rfl) ?_
        refine ox_y rfl (y_assign_int rfl) ?_
        refine ox_nil ?_
        refine ex_then ?_
        refine cx_ret ?_
        refine ex_block_ret ?_
        obtain rfl := Option.some.inj h
        exact ex_res2 (.inl rfl) rfl (resV_tmp (v := .int .i64 y4.1) rfl) (resV_tmp (v := .int .i64 0) rfl) (fun W2 hW2 => ⟨rfl, hW2.none⟩)
  · refine cx_false (congrArg Value.bool hp2) ?_
    refine cx_skip ?_
    refine ex_then ?_
    refine cx_seq ?_
    refine cx_region ?_
    refine ox_y rfl (y_load1 0 (v := .int .i64 0) sc_3 rfl rfl rfl) ?_
    refine ox_nil ?_
    refine ex_then ?_
    refine cx_block ?_
    refine cx_seq ?_
    refine cx_region ?_
    refine ox_y rfl (y_eql rfl rfl) ?_
    refine ox_y rfl (y_assign_bool rfl) ?_
    refine ox_nil ?_
    refine ex_then ?_
    rcases ite_some h with ⟨hp8, h⟩ | ⟨hp8, h⟩
    · refine cx_true (congrArg Value.bool hp8) ?_
      refine cx_seq ?_
      refine cx_region ?_
      refine ox_y rfl (y_move_int rfl) ?_
      refine ox_y rfl (y_assign_int rfl) ?_
      refine ox_y rfl (y_assign_int rfl) ?_
      refine ox_nil ?_
      refine ex_then ?_
      refine cx_ret ?_
      refine ex_block_ret ?_
      obtain rfl := Option.some.inj h
      exact ex_res2 (.inl rfl) rfl (resV_tmp (v := .int .i64 (w64 (p1_a + (w64 ((w64 (Int.tdiv (w64 (p2_b - p1_a)) 4)) * 2))))) rfl) (resV_tmp (v := .int .i64 1) rfl) (fun W2 hW2 => ⟨rfl, hW2.none⟩)
    · refine cx_false (congrArg Value.bool hp8) ?_
      refine cx_seq ?_
      refine cx_region ?_
      refine ox_y rfl (y_eql rfl rfl) ?_
      refine ox_y rfl (y_assign_bool rfl) ?_
      refine ox_nil ?_
      refine ex_then ?_
      rcases ite_some h with ⟨hp9, h⟩ | ⟨hp9, h⟩
      · refine cx_true (congrArg Value.bool hp9) ?_
        refine cx_seq ?_
        refine cx_region ?_
        refine ox_y rfl (y_move_int rfl) ?_
        refine ox_y rfl (y_assign_int rfl) ?_
        refine ox_y rfl (y_assign_int rfl) ?_
        refine ox_nil ?_
        refine ex_then ?_
        refine cx_ret ?_
        refine ex_block_ret ?_
        obtain rfl := Option.some.inj h
        exact ex_res2 (.inl rfl) rfl (resV_tmp (v := .int .i64 (w64 (p1_a + (w64 ((w64 (Int.tdiv (w64 (p2_b - p1_a)) 4)) * 2))))) rfl) (resV_tmp (v := .int .i64 2) rfl) (fun W2 hW2 => ⟨rfl, hW2.none⟩)
      · refine cx_false (congrArg Value.bool hp9) ?_
        refine cx_seq ?_
        refine cx_region ?_
        refine ox_y rfl (y_move_int rfl) ?_
        refine ox_y rfl (y_assign_int rfl) ?_
        refine ox_y rfl (y_assign_int rfl) ?_
        refine ox_nil ?_
        refine ex_then ?_
        refine cx_ret ?_
        refine ex_block_ret ?_
        obtain rfl := Option.some.inj h
        exact ex_res2 (.inl rfl) rfl (resV_tmp (v := .int .i64 (w64 (p1_a + (w64 ((w64 (Int.tdiv (w64 (p2_b - p1_a)) 4)) * 2))))) rfl) (resV_tmp (v := .int .i64 0) rfl) (fun W2 hW2 => ⟨rfl, hW2.none⟩)

end Go.Proofs.Ytndajeiecdmhnaa
