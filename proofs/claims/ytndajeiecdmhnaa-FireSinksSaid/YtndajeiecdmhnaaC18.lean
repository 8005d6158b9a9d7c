/- The calls hand back what the plain functions say. -/
import Derived.Test.YtndajeiecdmhnaaF
import Derived.Test.YtndajeiecdmhnaaC0
import Derived.Test.YtndajeiecdmhnaaC2
import Derived.Test.YtndajeiecdmhnaaC4
import Derived.Test.YtndajeiecdmhnaaC7
import Derived.Test.YtndajeiecdmhnaaC11
set_option linter.unusedVariables false
set_option maxHeartbeats 4000000
namespace Go.Proofs.Ytndajeiecdmhnaa
open Go.RowKit (Below)
attribute [local irreducible] OX QX CX EX OpY Calls CallsIn

/-! calx/calxlaw02.under -/
set_option maxRecDepth 100000 in
theorem calxlaw02_under_ok (p0_a : TBurn) (p1_b : TBurn) (res : Bool) (h : calxlaw02_under p0_a p1_b = some res) (W : World)  :
    Calls Try.prog 42 [.agg #[.int .i64 p0_a.fHours, .int .i64 p0_a.fRow, .int .i64 p0_a.fSum], .agg #[.int .i64 p1_b.fHours, .int .i64 p1_b.fRow, .int .i64 p1_b.fSum]].toArray W fun e W2 => e = .returned (.bool res) ∧ Ext W W2 [] := by
  unfold calxlaw02_under at h
  refine calls_enter (m := 31) Try.func42 rfl rfl (Nat.le_of_ble_eq_true rfl) ?_
  refine cx_seq ?_
  refine cx_region ?_
  refine ox_box [.int .i64 p0_a.fHours, .int .i64 p0_a.fRow, .int .i64 p0_a.fSum] rfl rfl rfl (fun b1 => ?_)
  refine ox_box [.int .i64 p1_b.fHours, .int .i64 p1_b.fRow, .int .i64 p1_b.fSum] rfl rfl rfl (fun b2 => ?_)
  refine ox_y rfl (y_assign_bool rfl) ?_
  refine ox_nil ?_
  refine ex_then ?_
  refine cx_seq ?_
  refine cx_region ?_
  refine ox_y rfl (y_fieldAddr fo_49_0 rfl) ?_
  refine ox_y rfl (y_load1 0 (v := .int .i64 p0_a.fHours) sc_3 rfl rfl rfl) ?_
  refine ox_y rfl (y_fieldAddr fo_49_0 rfl) ?_
  refine ox_y rfl (y_load1 1 (v := .int .i64 p1_b.fHours) sc_3 rfl rfl rfl) ?_
  refine ox_y rfl (y_leq rfl rfl) ?_
  refine ox_y rfl (y_move_bool rfl) ?_
  refine ox_join 6 (fun tm0 => (upd (upd (upd (upd tm0 2 (.pointer (some ⟨b1, 0, none⟩))) 3 (.pointer (some ⟨b2, 0, none⟩))) 4 (.bool false)) 16 (.bool ((decide (p0_a.fHours ≤ p1_b.fHours)) && (decide (p0_a.fRow ≤ p1_b.fRow)))))) (fun tm0 => ?_) (fun key => ?_)
  · refine ox_y rfl (y_move_bool rfl) ?_
    refine ox_join 6 (fun tm0 => (upd (upd (upd tm0 2 (.pointer (some ⟨b1, 0, none⟩))) 4 (.bool false)) 23 (.bool (((decide (p0_a.fHours ≤ p1_b.fHours)) && (decide (p0_a.fRow ≤ p1_b.fRow))) && (decide (p0_a.fSum ≤ p1_b.fSum)))))) (fun tm0 => ?_) (fun key => ?_)
    · refine ox_y rfl (y_move_bool rfl) ?_
      refine ox_join 6 (fun tm0 => (upd (upd tm0 4 (.bool false)) 30 (.bool ((((decide (p0_a.fHours ≤ p1_b.fHours)) && (decide (p0_a.fRow ≤ p1_b.fRow))) && (decide (p0_a.fSum ≤ p1_b.fSum))) && (decide (p0_a.fRow ≤ p0_a.fHours)))))) (fun tm0 => ?_) (fun key => ?_)
      · refine ox_y rfl (y_assign_bool rfl) ?_
        refine ox_nil ?_
        refine ex_then ?_
        refine cx_ret ?_
        obtain rfl := Option.some.inj h
        exact ex_res1 (.inl rfl) rfl (resV_tmp (v := .bool ((((decide (p0_a.fHours ≤ p1_b.fHours)) && (decide (p0_a.fRow ≤ p1_b.fRow))) && (decide (p0_a.fSum ≤ p1_b.fSum))) && (decide (p0_a.fRow ≤ p0_a.fHours)))) rfl) (fun W2 hW2 => ⟨rfl, hW2.none⟩)
      · rcases bool_cases (((decide (p0_a.fHours ≤ p1_b.fHours)) && (decide (p0_a.fRow ≤ p1_b.fRow))) && (decide (p0_a.fSum ≤ p1_b.fSum))) with hp5 | hp5
        · refine ox_y (sees_t rfl rfl rfl rfl hp5) (y_fieldAddr fo_49_1 rfl) ?_
          refine ox_y (sees_t rfl rfl rfl rfl hp5) (y_load1 0 (v := .int .i64 p0_a.fRow) sc_3 rfl rfl rfl) ?_
          refine ox_y (sees_t rfl rfl rfl rfl hp5) (y_fieldAddr fo_49_0 rfl) ?_
          refine ox_y (sees_t rfl rfl rfl rfl hp5) (y_load1 0 (v := .int .i64 p0_a.fHours) sc_3 rfl rfl rfl) ?_
          refine ox_y (sees_t rfl rfl rfl rfl hp5) (y_leq rfl rfl) ?_
          refine ox_y rfl (y_pick_tb (congrArg Value.bool hp5) rfl) ?_
          exact key _ _ (keep (keep rfl rfl) (congrArg Value.bool (and_t hp5)))
        · refine ox_skip (sees_f rfl rfl rfl rfl hp5) ?_
          refine ox_skip (sees_f rfl rfl rfl rfl hp5) ?_
          refine ox_skip (sees_f rfl rfl rfl rfl hp5) ?_
          refine ox_skip (sees_f rfl rfl rfl rfl hp5) ?_
          refine ox_skip (sees_f rfl rfl rfl rfl hp5) ?_
          refine ox_y rfl (y_pick_fb (congrArg Value.bool hp5) rfl) ?_
          exact key _ _ (keep (keep rfl rfl) (congrArg Value.bool (and_f hp5)))
    · rcases bool_cases ((decide (p0_a.fHours ≤ p1_b.fHours)) && (decide (p0_a.fRow ≤ p1_b.fRow))) with hp4 | hp4
      · refine ox_y (sees_t rfl rfl rfl rfl hp4) (y_fieldAddr fo_49_2 rfl) ?_
        refine ox_y (sees_t rfl rfl rfl rfl hp4) (y_load1 0 (v := .int .i64 p0_a.fSum) sc_3 rfl rfl rfl) ?_
        refine ox_y (sees_t rfl rfl rfl rfl hp4) (y_fieldAddr fo_49_2 rfl) ?_
        refine ox_y (sees_t rfl rfl rfl rfl hp4) (y_load1 1 (v := .int .i64 p1_b.fSum) sc_3 rfl rfl rfl) ?_
        refine ox_y (sees_t rfl rfl rfl rfl hp4) (y_leq rfl rfl) ?_
        refine ox_y rfl (y_pick_tb (congrArg Value.bool hp4) rfl) ?_
        exact key _ _ (keep (keep (keep rfl rfl) rfl) (congrArg Value.bool (and_t hp4)))
      · refine ox_skip (sees_f rfl rfl rfl rfl hp4) ?_
        refine ox_skip (sees_f rfl rfl rfl rfl hp4) ?_
        refine ox_skip (sees_f rfl rfl rfl rfl hp4) ?_
        refine ox_skip (sees_f rfl rfl rfl rfl hp4) ?_
        refine ox_skip (sees_f rfl rfl rfl rfl hp4) ?_
        refine ox_y rfl (y_pick_fb (congrArg Value.bool hp4) rfl) ?_
        exact key _ _ (keep (keep (keep rfl rfl) rfl) (congrArg Value.bool (and_f hp4)))
  · rcases bool_cases (decide (p0_a.fHours ≤ p1_b.fHours)) with hp3 | hp3
    · refine ox_y (sees_t rfl rfl rfl rfl hp3) (y_fieldAddr fo_49_1 rfl) ?_
      refine ox_y (sees_t rfl rfl rfl rfl hp3) (y_load1 0 (v := .int .i64 p0_a.fRow) sc_3 rfl rfl rfl) ?_
      refine ox_y (sees_t rfl rfl rfl rfl hp3) (y_fieldAddr fo_49_1 rfl) ?_
      refine ox_y (sees_t rfl rfl rfl rfl hp3) (y_load1 1 (v := .int .i64 p1_b.fRow) sc_3 rfl rfl rfl) ?_
      refine ox_y (sees_t rfl rfl rfl rfl hp3) (y_leq rfl rfl) ?_
      refine ox_y rfl (y_pick_tb (congrArg Value.bool hp3) rfl) ?_
      exact key _ _ (keep (keep (keep (keep rfl rfl) rfl) rfl) (congrArg Value.bool (and_t hp3)))
    · refine ox_skip (sees_f rfl rfl rfl rfl hp3) ?_
      refine ox_skip (sees_f rfl rfl rfl rfl hp3) ?_
      refine ox_skip (sees_f rfl rfl rfl rfl hp3) ?_
      refine ox_skip (sees_f rfl rfl rfl rfl hp3) ?_
      refine ox_skip (sees_f rfl rfl rfl rfl hp3) ?_
      refine ox_y rfl (y_pick_fb (congrArg Value.bool hp3) rfl) ?_
      exact key _ _ (keep (keep (keep (keep rfl rfl) rfl) rfl) (congrArg Value.bool (and_f hp3)))

/-! calx/calxlaw02.within -/
set_option maxRecDepth 100000 in
theorem calxlaw02_within_ok (p0_l : (List TSpan)) (p1_n : Int) (res : Bool) (h : calxlaw02_within p0_l p1_n = some res) (W : World) (A0_0 : Option Addr) (n0_0 c0_0 : Nat) (hn0_0 : n0_0 = p0_l.length) (hr0_0 : Rd W A0_0 n0_0 c0_0 (encL TSpan_cells p0_l)) :
    Calls Try.prog 43 [.slice A0_0 n0_0 c0_0, .int .i64 p1_n].toArray W fun e W2 => e = .returned (.bool res) ∧ Ext W W2 [] := by
  subst hn0_0
  unfold calxlaw02_within at h
  refine calls_enter (m := 28) Try.func43 rfl rfl (Nat.le_of_ble_eq_true rfl) ?_
  refine cx_seq ?_
  refine cx_region ?_
  refine ox_y rfl (y_assign_bool rfl) ?_
  refine ox_nil ?_
  refine ex_then ?_
  refine cx_seq ?_
  refine cx_seq ?_
  refine cx_region ?_
  refine ox_y rfl (y_assign_int rfl) ?_
  refine ox_nil ?_
  refine ex_then ?_
  refine cx_block ?_
  obtain ⟨u3, hl11, h⟩ := bind_some h
  refine cx_loop (fun (s : (Bool × Int)) L tm => ∃ (tm0 : Nat → Value), L = [] ∧ tm = (upd (upd (upd (upd tm0 0 (.slice A0_0 p0_l.length c0_0)) 1 (.int .i64 p1_n)) 4 (.bool s.1)) 5 (.int .i64 s.2))) (fun | (.inl s), e, L, tm => e = .ret ∧ ∃ (tm0 : Nat → Value), L = [] ∧ tm = (upd (upd (upd (upd tm0 0 (.slice A0_0 p0_l.length c0_0)) 1 (.int .i64 p1_n)) 4 (.bool s.1)) 5 (.int .i64 s.2)) | (.inr s), e, L, tm => e = .exit 0 ∧ ∃ (tm0 : Nat → Value), L = [] ∧ tm = (upd (upd (upd (upd tm0 0 (.slice A0_0 p0_l.length c0_0)) 1 (.int .i64 p1_n)) 4 (.bool s.1)) 5 (.int .i64 s.2))) hl11 ⟨_, rfl, (keep (keep (keep (keep rfl rfl) rfl) rfl) rfl)⟩ ?_ ?_
  · rintro s2 L tm st ⟨tm0_s2, rfl, rfl⟩ h
    unfold calxlaw02_within_l1 at h
    refine cx_seq ?_
    refine cx_seq ?_
    refine cx_region ?_
    refine ox_y rfl (y_move_int rfl) ?_
    refine ox_y rfl (y_move_slice rfl) ?_
    refine ox_y rfl (y_len (us := []) us_55 rfl) ?_
    refine ox_y rfl (y_lss rfl rfl) ?_
    refine ox_nil ?_
    refine ex_then ?_
    rcases ite_some h with ⟨hp4, h⟩ | ⟨hp4, h⟩
    · refine cx_true (congrArg Value.bool hp4) ?_
      refine cx_skip ?_
      refine ex_then ?_
      refine cx_seq ?_
      refine cx_block ?_
      refine cx_seq ?_
      refine cx_region ?_
      refine ox_y rfl (y_move_slice rfl) ?_
      refine ox_y rfl (y_move_int rfl) ?_
      obtain ⟨hg5, h⟩ := guardO_some h
      refine ox_y rfl (y_indexR sl_55 (by decide) hg5.1 hg5.2 (RdL.arg hr0_0) (encL_len TSpan_cells_len rfl) rfl rfl) ?_
      refine ox_y rfl (y_fieldAddrR (A := A0_0) (j := (Int.toNat s2.2 * 2)) fo_32_0 rfl) ?_
      refine ox_y rfl (y_loadR1 (A := A0_0) (j := ((Int.toNat s2.2 * 2) + 0)) (v := .int .i64 ((rdL p0_l s2.2).fLo)) sc_3 (RdL.arg hr0_0) rfl (encL_get TSpan_cells_len hg5.1 (lt_nat hg5.2 rfl) rfl)) ?_
      refine ox_y rfl (y_move_int rfl) ?_
      refine ox_y rfl (y_leq rfl rfl) ?_
      refine ox_y rfl (y_move_bool rfl) ?_
      obtain ⟨b7, hb8, h⟩ := bind_some h
      refine ox_join 8 (fun tm0 => (upd (upd (upd (upd (upd (upd tm0 0 (.slice A0_0 p0_l.length c0_0)) 1 (.int .i64 p1_n)) 4 (.bool s2.1)) 5 (.int .i64 s2.2)) 9 (.bool (decide (s2.2 < ((p0_l.length : Nat) : Int))))) 27 (.bool b7))) (fun tm0 => ?_) (fun key => ?_)
      · refine ox_nil ?_
        refine ex_then ?_
        rcases ite_some h with ⟨hp9, h⟩ | ⟨hp9, h⟩
        · refine cx_true (congrArg Value.bool hp9) ?_
          refine cx_seq ?_
          refine cx_region ?_
          refine ox_y rfl (y_assign_bool rfl) ?_
          refine ox_nil ?_
          refine ex_then ?_
          refine cx_ret ?_
          refine ex_block_ret ?_
          refine ex_then_ret ?_
          obtain rfl := Option.some.inj h
          exact ex_stop ⟨rfl, _, rfl, (keep (keep (keep (keep rfl rfl) rfl) rfl) rfl)⟩
        · refine cx_false (congrArg Value.bool hp9) ?_
          refine cx_skip ?_
          refine ex_block ?_
          refine ex_then ?_
          refine cx_region ?_
          refine ox_y rfl (y_move_int rfl) ?_
          refine ox_y rfl (y_add rfl rfl) ?_
          refine ox_y rfl (y_assign_int rfl) ?_
          refine ox_nil ?_
          obtain rfl := Option.some.inj h
          exact ex_next ⟨_, rfl, (keep (keep (keep (keep rfl rfl) rfl) rfl) rfl)⟩
      · clear h; rcases ite_some hb8 with ⟨hp6, h⟩ | ⟨hp6, h⟩
        · refine ox_y (sees_t rfl rfl rfl rfl hp6) (y_move_int rfl) ?_
          refine ox_y (sees_t rfl rfl rfl rfl hp6) (y_move_slice rfl) ?_
          refine ox_y (sees_t rfl rfl rfl rfl hp6) (y_move_int rfl) ?_
          obtain ⟨hg10, h⟩ := guardO_some h
          refine ox_y (sees_t rfl rfl rfl rfl hp6) (y_indexR sl_55 (by decide) hg10.1 hg10.2 (RdL.arg hr0_0) (encL_len TSpan_cells_len rfl) rfl rfl) ?_
          refine ox_y (sees_t rfl rfl rfl rfl hp6) (y_fieldAddrR (A := A0_0) (j := (Int.toNat s2.2 * 2)) fo_32_1 rfl) ?_
          refine ox_y (sees_t rfl rfl rfl rfl hp6) (y_loadR1 (A := A0_0) (j := ((Int.toNat s2.2 * 2) + 1)) (v := .int .i64 ((rdL p0_l s2.2).fHi)) sc_3 (RdL.arg hr0_0) rfl (encL_get TSpan_cells_len hg10.1 (lt_nat hg10.2 rfl) rfl)) ?_
          refine ox_y (sees_t rfl rfl rfl rfl hp6) (y_leq rfl rfl) ?_
          refine ox_y rfl (y_pick_tb (congrArg Value.bool hp6) rfl) ?_
          obtain rfl := Option.some.inj h
          exact key _ _ (keep (keep (keep (keep (keep (keep rfl rfl) rfl) rfl) rfl) rfl) rfl)
        · refine ox_skip (sees_f rfl rfl rfl rfl hp6) ?_
          refine ox_skip (sees_f rfl rfl rfl rfl hp6) ?_
          refine ox_skip (sees_f rfl rfl rfl rfl hp6) ?_
          refine ox_skip (sees_f rfl rfl rfl rfl hp6) ?_
          refine ox_skip (sees_f rfl rfl rfl rfl hp6) ?_
          refine ox_skip (sees_f rfl rfl rfl rfl hp6) ?_
          refine ox_skip (sees_f rfl rfl rfl rfl hp6) ?_
          refine ox_y rfl (y_pick_fb (congrArg Value.bool hp6) rfl) ?_
          obtain rfl := Option.some.inj h
          exact key _ _ (keep (keep (keep (keep (keep (keep rfl rfl) rfl) rfl) rfl) rfl) rfl)
    · refine cx_false (congrArg Value.bool hp4) ?_
      refine cx_exit ?_
      refine ex_then_exit ?_
      obtain rfl := Option.some.inj h
      exact ex_stop ⟨rfl, _, rfl, (keep (keep (keep (keep rfl rfl) rfl) rfl) rfl)⟩
  · intro e L tm hJ
    rcases u3 with u12 | u13
    · dsimp only at h hJ
      obtain ⟨rfl, tm0_u12, rfl, rfl⟩ := hJ
      refine ⟨(by intro hc; cases hc), ?_⟩
      refine ex_block_ret ?_
      refine ex_then_ret ?_
      obtain rfl := Option.some.inj h
      exact ex_res1 (.inl rfl) rfl (resV_tmp (v := .bool u12.1) rfl) (fun W2 hW2 => ⟨rfl, hW2.none⟩)
    · dsimp only at h hJ
      obtain ⟨rfl, tm0_u13, rfl, rfl⟩ := hJ
      refine ⟨(by intro hc; cases hc), ?_⟩
      refine ex_block_here ?_
      refine ex_then ?_
      refine cx_seq ?_
      refine cx_region ?_
      refine ox_y rfl (y_assign_bool rfl) ?_
      refine ox_nil ?_
      refine ex_then ?_
      refine cx_ret ?_
      obtain rfl := Option.some.inj h
      exact ex_res1 (.inl rfl) rfl (resV_tmp (v := .bool false) rfl) (fun W2 hW2 => ⟨rfl, hW2.none⟩)

/-! calx/calxlaw02.FireSinks -/
set_option maxRecDepth 100000 in
theorem calxlaw02_FireSinks_ok (p0 : TFire) (p1 : (List TSpot)) (p2 : (List Int)) (p3 : Int) (p4 : Int) (res : Bool) (h : calxlaw02_FireSinks p0 p1 p2 p3 p4 = some res) (W : World) (A0_4 : Option Addr) (n0_4 c0_4 : Nat) (hn0_4 : n0_4 = p0.fLooks.length) (hr0_4 : Rd W A0_4 n0_4 c0_4 (encL TLook_cells p0.fLooks)) (A1_0 : Option Addr) (n1_0 c1_0 : Nat) (hn1_0 : n1_0 = p1.length) (hr1_0 : Rd W A1_0 n1_0 c1_0 (encL TSpot_cells p1)) (A2_0 : Option Addr) (n2_0 c2_0 : Nat) (hn2_0 : n2_0 = p2.length) (hr2_0 : Rd W A2_0 n2_0 c2_0 (encL cI p2)) :
    Calls Try.prog 8 [.agg #[.int .i64 p0.fRise, .int .i64 p0.fFall, .int .i64 p0.fUp, .int .i64 p0.fDown, .slice A0_4 n0_4 c0_4], .slice A1_0 n1_0 c1_0, .slice A2_0 n2_0 c2_0, .int .i64 p3, .int .u8 p4].toArray W fun e W2 => e = .returned (.bool res) ∧ Ext W W2 [] := by
  subst hn0_4
  subst hn1_0
  subst hn2_0
  unfold calxlaw02_FireSinks at h
  refine calls_enter (m := 158) Try.func8 rfl rfl (Nat.le_of_ble_eq_true rfl) ?_
  refine cx_seq ?_
  refine cx_region ?_
  refine ox_box [.int .i64 p0.fRise, .int .i64 p0.fFall, .int .i64 p0.fUp, .int .i64 p0.fDown, .slice A0_4 p0.fLooks.length c0_4] rfl rfl rfl (fun b1 => ?_)
  refine ox_y rfl (y_assign_bool rfl) ?_
  refine ox_nil ?_
  refine ex_then ?_
  refine cx_seq ?_
  refine cx_seq ?_
  refine cx_region ?_
  refine ox_y rfl (y_loadN 0 [.int .i64 p0.fRise, .int .i64 p0.fFall, .int .i64 p0.fUp, .int .i64 p0.fDown, .slice A0_4 p0.fLooks.length c0_4] ag_24 rfl rfl rfl) ?_
  obtain ⟨y2, hy3, h⟩ := bind_some h
  refine ox_y rfl (y_call [.agg #[.int .i64 p0.fRise, .int .i64 p0.fFall, .int .i64 p0.fUp, .int .i64 p0.fDown, .slice A0_4 p0.fLooks.length c0_4]] go_11 rfl (fun W2 hW2 => calxlaw02_few_ok p0 y2 hy3 W2 A0_4 p0.fLooks.length c0_4 rfl ((RdL.arg hr0_4) W2 hW2)) rfl) ?_
  refine ox_y rfl (y_not rfl) ?_
  refine ox_y rfl (y_move_bool rfl) ?_
  refine ox_join 4 (fun tm0 => (upd (upd (upd (upd (upd (upd (upd tm0 1 (.slice A1_0 p1.length c1_0)) 2 (.slice A2_0 p2.length c2_0)) 3 (.int .i64 p3)) 4 (.int .u8 p4)) 5 (.pointer (some ⟨b1, 0, none⟩))) 10 (.bool false)) 33 (.bool ((!y2) || (decide (20 < ((p1.length : Nat) : Int))))))) (fun tm0 => ?_) (fun key => ?_)
  · refine ox_y rfl (y_move_bool rfl) ?_
    refine ox_join 4 (fun tm0 => (upd (upd (upd (upd (upd (upd (upd tm0 1 (.slice A1_0 p1.length c1_0)) 2 (.slice A2_0 p2.length c2_0)) 3 (.int .i64 p3)) 4 (.int .u8 p4)) 5 (.pointer (some ⟨b1, 0, none⟩))) 10 (.bool false)) 38 (.bool (((!y2) || (decide (20 < ((p1.length : Nat) : Int)))) || (decide (40 < ((p2.length : Nat) : Int))))))) (fun tm0 => ?_) (fun key => ?_)
    · refine ox_nil ?_
      refine ex_then ?_
      rcases ite_some h with ⟨hp6, h⟩ | ⟨hp6, h⟩
      · refine cx_true (congrArg Value.bool hp6) ?_
        refine cx_seq ?_
        refine cx_region ?_
        obtain ⟨y7, hy8, h⟩ := bind_some h
        refine ox_y rfl (y_call [] go_13 rfl (fun W2 hW2 => calxlaw02_sanity_ok  y7 hy8 W2 ) rfl) ?_
        refine ox_y rfl (y_assign_bool rfl) ?_
        refine ox_nil ?_
        refine ex_then ?_
        refine cx_ret ?_
        refine ex_then_ret ?_
        obtain rfl := Option.some.inj h
        exact ex_res1 (.inl rfl) rfl (resV_tmp (v := .bool y7) rfl) (fun W2 hW2 => ⟨rfl, hW2.none⟩)
      · refine cx_false (congrArg Value.bool hp6) ?_
        refine cx_skip ?_
        refine ex_then ?_
        refine cx_seq ?_
        refine cx_region ?_
        refine ox_y rfl (y_loadN 0 [.int .i64 p0.fRise, .int .i64 p0.fFall, .int .i64 p0.fUp, .int .i64 p0.fDown, .slice A0_4 p0.fLooks.length c0_4] ag_24 rfl rfl rfl) ?_
        refine ox_y rfl (y_move_slice rfl) ?_
        refine ox_y rfl (y_move_int rfl) ?_
        obtain ⟨y9, hy10, h⟩ := bind_some h
        refine ox_y rfl (y_call [.agg #[.int .i64 p0.fRise, .int .i64 p0.fFall, .int .i64 p0.fUp, .int .i64 p0.fDown, .slice A0_4 p0.fLooks.length c0_4], .slice A1_0 p1.length c1_0, .int .i64 p3] go_19 rfl (fun W2 hW2 => fire_Burnt_ok p0 p1 p3 y9 hy10 W2 A0_4 p0.fLooks.length c0_4 rfl ((RdL.arg hr0_4) W2 hW2) A1_0 p1.length c1_0 rfl ((RdL.arg hr1_0) W2 hW2)) rfl) ?_
        refine ox_y rfl (y_move_tuple rfl) ?_
        refine ox_y rfl (y_extract (vs := [.agg #[.int .i64 y9.1.fHours, .int .i64 y9.1.fRow, .int .i64 y9.1.fSum], .agg #[.int .i64 y9.2.1.fHours, .int .i64 y9.2.1.fRow, .int .i64 y9.2.1.fSum], .int .i64 y9.2.2]) (v := .agg #[.int .i64 y9.1.fHours, .int .i64 y9.1.fRow, .int .i64 y9.1.fSum]) rfl rfl) ?_
        refine ox_y rfl (y_extract (vs := [.agg #[.int .i64 y9.1.fHours, .int .i64 y9.1.fRow, .int .i64 y9.1.fSum], .agg #[.int .i64 y9.2.1.fHours, .int .i64 y9.2.1.fRow, .int .i64 y9.2.1.fSum], .int .i64 y9.2.2]) (v := .agg #[.int .i64 y9.2.1.fHours, .int .i64 y9.2.1.fRow, .int .i64 y9.2.1.fSum]) rfl rfl) ?_
        refine ox_y rfl (y_extract (vs := [.agg #[.int .i64 y9.1.fHours, .int .i64 y9.1.fRow, .int .i64 y9.1.fSum], .agg #[.int .i64 y9.2.1.fHours, .int .i64 y9.2.1.fRow, .int .i64 y9.2.1.fSum], .int .i64 y9.2.2]) (v := .int .i64 y9.2.2) rfl rfl) ?_
        refine ox_alloc ze_49 rfl (fun b11 => ?_)
        refine ox_alloc ze_49 rfl (fun b12 => ?_)
        refine ox_n rfl (y_storeN 1 [.int .i64 y9.1.fHours, .int .i64 y9.1.fRow, .int .i64 y9.1.fSum] sz_49 rfl (Nat.le_of_ble_eq_true rfl) rfl rfl rfl) ?_
        refine ox_n rfl (y_storeN 2 [.int .i64 y9.2.1.fHours, .int .i64 y9.2.1.fRow, .int .i64 y9.2.1.fSum] sz_49 rfl (Nat.le_of_ble_eq_true rfl) rfl rfl rfl) ?_
        refine ox_y rfl (y_assign_int rfl) ?_
        refine ox_nil ?_
        refine ex_then ?_
        refine cx_seq ?_
        refine cx_region ?_
        refine ox_y rfl (y_loadN 0 [.int .i64 p0.fRise, .int .i64 p0.fFall, .int .i64 p0.fUp, .int .i64 p0.fDown, .slice A0_4 p0.fLooks.length c0_4] ag_24 rfl rfl rfl) ?_
        refine ox_y rfl (y_move_slice rfl) ?_
        refine ox_y rfl (y_move_int rfl) ?_
        obtain ⟨y13, hy14, h⟩ := bind_some h
        refine ox_call [.agg #[.int .i64 p0.fRise, .int .i64 p0.fFall, .int .i64 p0.fUp, .int .i64 p0.fDown, .slice A0_4 p0.fLooks.length c0_4], .slice A1_0 p1.length c1_0, .int .i64 p3] _ _ _ rfl go_21 rfl (fun W2 hW2 => fire_Surely_ok p0 p1 p3 y13 hy14 W2 A0_4 p0.fLooks.length c0_4 rfl ((RdL.arg hr0_4) W2 hW2) A1_0 p1.length c1_0 rfl ((RdL.arg hr1_0) W2 hW2)) ?_
        rintro ⟨A15, n17, c16⟩ hn18
        replace hn18 : n17 = y13.1.length := hn18; subst hn18
        refine ox_y rfl (y_move_tuple rfl) ?_
        refine ox_y rfl (y_extract (vs := [.slice A15 y13.1.length c16, .int .i64 y13.2]) (v := .slice A15 y13.1.length c16) rfl rfl) ?_
        refine ox_y rfl (y_extract (vs := [.slice A15 y13.1.length c16, .int .i64 y13.2]) (v := .int .i64 y13.2) rfl rfl) ?_
        refine ox_y rfl (y_assign_slice rfl) ?_
        refine ox_y rfl (y_assign_int rfl) ?_
        refine ox_nil ?_
        refine ex_then ?_
        refine cx_seq ?_
        refine cx_region ?_
        refine ox_y rfl (y_loadN 0 [.int .i64 p0.fRise, .int .i64 p0.fFall, .int .i64 p0.fUp, .int .i64 p0.fDown, .slice A0_4 p0.fLooks.length c0_4] ag_24 rfl rfl rfl) ?_
        refine ox_y rfl (y_move_slice rfl) ?_
        refine ox_y rfl (y_move_int rfl) ?_
        obtain ⟨y19, hy20, h⟩ := bind_some h
        refine ox_call [.agg #[.int .i64 p0.fRise, .int .i64 p0.fFall, .int .i64 p0.fUp, .int .i64 p0.fDown, .slice A0_4 p0.fLooks.length c0_4], .slice A1_0 p1.length c1_0, .int .i64 p3] _ _ _ rfl go_23 rfl (fun W2 hW2 => fire_Possibly_ok p0 p1 p3 y19 hy20 W2 A0_4 p0.fLooks.length c0_4 rfl ((RdL.arg hr0_4) W2 hW2) A1_0 p1.length c1_0 rfl ((RdL.arg hr1_0) W2 hW2)) ?_
        rintro ⟨A21, n23, c22⟩ hn24
        replace hn24 : n23 = y19.1.length := hn24; subst hn24
        refine ox_y rfl (y_move_tuple rfl) ?_
        refine ox_y rfl (y_extract (vs := [.slice A21 y19.1.length c22, .int .i64 y19.2]) (v := .slice A21 y19.1.length c22) rfl rfl) ?_
        refine ox_y rfl (y_extract (vs := [.slice A21 y19.1.length c22, .int .i64 y19.2]) (v := .int .i64 y19.2) rfl rfl) ?_
        refine ox_y rfl (y_assign_slice rfl) ?_
        refine ox_y rfl (y_assign_int rfl) ?_
        refine ox_nil ?_
        refine ex_then ?_
        refine cx_seq ?_
        refine cx_seq ?_
        refine cx_region ?_
        refine ox_y rfl (y_move_int rfl) ?_
        refine ox_y rfl (y_move_int rfl) ?_
        refine ox_y rfl (y_neq rfl rfl) ?_
        refine ox_y rfl (y_move_bool rfl) ?_
        refine ox_join 4 (fun tm0 => (upd (upd (upd (upd (upd (upd (upd (upd (upd (upd (upd (upd tm0 1 (.slice A1_0 p1.length c1_0)) 2 (.slice A2_0 p2.length c2_0)) 3 (.int .i64 p3)) 4 (.int .u8 p4)) 5 (.pointer (some ⟨b1, 0, none⟩))) 10 (.bool false)) 11 (.pointer (some ⟨b11, 0, none⟩))) 12 (.pointer (some ⟨b12, 0, none⟩))) 13 (.int .i64 y9.2.2)) 14 (.slice A15 y13.1.length c16)) 16 (.slice A21 y19.1.length c22)) 69 (.bool ((y9.2.2 != y13.2) || (y9.2.2 != y19.2))))) (fun tm0 => ?_) (fun key => ?_)
        · refine ox_nil ?_
          refine ex_then ?_
          rcases ite_some h with ⟨hp26, h⟩ | ⟨hp26, h⟩
          · refine cx_true (congrArg Value.bool hp26) ?_
            refine cx_seq ?_
            refine cx_region ?_
            refine ox_y rfl (y_assign_bool rfl) ?_
            refine ox_nil ?_
            refine ex_then ?_
            refine cx_ret ?_
            refine ex_then_ret ?_
            obtain rfl := Option.some.inj h
            exact ex_res1 (.inl rfl) rfl (resV_tmp (v := .bool false) rfl) (fun W2 hW2 => ⟨rfl, hW2.none⟩)
          · refine cx_false (congrArg Value.bool hp26) ?_
            refine cx_skip ?_
            refine ex_then ?_
            refine cx_seq ?_
            refine cx_seq ?_
            refine cx_region ?_
            refine ox_y rfl (y_move_int rfl) ?_
            refine ox_y rfl (y_neq rfl rfl) ?_
            refine ox_nil ?_
            refine ex_then ?_
            rcases ite_some h with ⟨hp27, h⟩ | ⟨hp27, h⟩
            · refine cx_true (congrArg Value.bool hp27) ?_
              refine cx_seq ?_
              refine cx_region ?_
              obtain ⟨y28, hy29, h⟩ := bind_some h
              refine ox_y rfl (y_call [] go_13 rfl (fun W2 hW2 => calxlaw02_sanity_ok  y28 hy29 W2 ) rfl) ?_
              refine ox_y rfl (y_assign_bool rfl) ?_
              refine ox_nil ?_
              refine ex_then ?_
              refine cx_ret ?_
              refine ex_then_ret ?_
              obtain rfl := Option.some.inj h
              exact ex_res1 (.inl rfl) rfl (resV_tmp (v := .bool y28) rfl) (fun W2 hW2 => ⟨rfl, hW2.none⟩)
            · refine cx_false (congrArg Value.bool hp27) ?_
              refine cx_skip ?_
              refine ex_then ?_
              refine cx_seq ?_
              refine cx_region ?_
              refine ox_y rfl (y_loadN 0 [.int .i64 p0.fRise, .int .i64 p0.fFall, .int .i64 p0.fUp, .int .i64 p0.fDown, .slice A0_4 p0.fLooks.length c0_4] ag_24 rfl rfl rfl) ?_
              refine ox_y rfl (y_move_slice rfl) ?_
              refine ox_y rfl (y_move_slice rfl) ?_
              obtain ⟨y30, hy31, h⟩ := bind_some h
              refine ox_y rfl (y_call [.agg #[.int .i64 p0.fRise, .int .i64 p0.fFall, .int .i64 p0.fUp, .int .i64 p0.fDown, .slice A0_4 p0.fLooks.length c0_4], .slice A1_0 p1.length c1_0, .slice A2_0 p2.length c2_0] go_40 rfl (fun W2 hW2 => fire_Fits_ok p0 p1 p2 y30 hy31 W2 A0_4 p0.fLooks.length c0_4 rfl ((RdL.arg hr0_4) W2 hW2) A1_0 p1.length c1_0 rfl ((RdL.arg hr1_0) W2 hW2) A2_0 p2.length c2_0 rfl ((RdL.arg hr2_0) W2 hW2)) rfl) ?_
              refine ox_y rfl (y_move_tuple rfl) ?_
              refine ox_y rfl (y_extract (vs := [.bool y30.1, .int .i64 y30.2]) (v := .bool y30.1) rfl rfl) ?_
              refine ox_y rfl (y_extract (vs := [.bool y30.1, .int .i64 y30.2]) (v := .int .i64 y30.2) rfl rfl) ?_
              refine ox_y rfl (y_assign_bool rfl) ?_
              refine ox_y rfl (y_assign_int rfl) ?_
              refine ox_nil ?_
              refine ex_then ?_
              refine cx_seq ?_
              refine cx_seq ?_
              refine cx_region ?_
              refine ox_y rfl (y_move_int rfl) ?_
              refine ox_y rfl (y_eql rfl rfl) ?_
              refine ox_y rfl (y_move_bool rfl) ?_
              refine ox_join 2 (fun tm0 => (upd (upd (upd (upd (upd (upd (upd (upd (upd (upd (upd tm0 1 (.slice A1_0 p1.length c1_0)) 2 (.slice A2_0 p2.length c2_0)) 3 (.int .i64 p3)) 4 (.int .u8 p4)) 5 (.pointer (some ⟨b1, 0, none⟩))) 10 (.bool false)) 11 (.pointer (some ⟨b11, 0, none⟩))) 12 (.pointer (some ⟨b12, 0, none⟩))) 14 (.slice A15 y13.1.length c16)) 16 (.slice A21 y19.1.length c22)) 84 (.bool ((y30.2 == 0) && y30.1)))) (fun tm0 => ?_) (fun key => ?_)
              · refine ox_nil ?_
                refine ex_then ?_
                rcases ite_some h with ⟨hp33, h⟩ | ⟨hp33, h⟩
                · refine cx_true (congrArg Value.bool hp33) ?_
                  refine cx_seq ?_
                  refine cx_region ?_
                  refine ox_y rfl (y_move_slice rfl) ?_
                  refine ox_y rfl (y_move_int rfl) ?_
                  obtain ⟨y34, hy35, h⟩ := bind_some h
                  refine ox_y rfl (y_call [.slice A2_0 p2.length c2_0, .int .i64 p3] go_41 rfl (fun W2 hW2 => calxref02_Burn_ok p2 p3 y34 hy35 W2 A2_0 p2.length c2_0 rfl ((RdL.arg hr2_0) W2 hW2)) rfl) ?_
                  refine ox_alloc ze_49 rfl (fun b36 => ?_)
                  try dsimp only [List.nil_append, List.cons_append, List.set_cons_zero, List.set_cons_succ]
                  refine ox_n rfl (y_storeN 5 [.int .i64 y34.fHours, .int .i64 y34.fRow, .int .i64 y34.fSum] sz_49 rfl (Nat.le_of_ble_eq_true rfl) rfl rfl rfl) ?_
                  refine ox_nil ?_
                  refine ex_then ?_
                  refine cx_seq ?_
                  refine cx_seq ?_
                  refine cx_region ?_
                  refine ox_y rfl (y_loadN 1 [.int .i64 y9.1.fHours, .int .i64 y9.1.fRow, .int .i64 y9.1.fSum] ag_49 rfl rfl rfl) ?_
                  refine ox_y rfl (y_loadN 5 [.int .i64 y34.fHours, .int .i64 y34.fRow, .int .i64 y34.fSum] ag_49 rfl rfl rfl) ?_
                  obtain ⟨y37, hy38, h⟩ := bind_some h
                  refine ox_y rfl (y_call [.agg #[.int .i64 y9.1.fHours, .int .i64 y9.1.fRow, .int .i64 y9.1.fSum], .agg #[.int .i64 y34.fHours, .int .i64 y34.fRow, .int .i64 y34.fSum]] go_42 rfl (fun W2 hW2 => calxlaw02_under_ok y9.1 y34 y37 hy38 W2 ) rfl) ?_
                  refine ox_y rfl (y_not rfl) ?_
                  refine ox_y rfl (y_move_bool rfl) ?_
                  obtain ⟨b40, hb41, h⟩ := bind_some h
                  refine ox_join 5 (fun tm0 => (upd (upd (upd (upd (upd (upd (upd (upd (upd (upd (upd tm0 1 (.slice A1_0 p1.length c1_0)) 2 (.slice A2_0 p2.length c2_0)) 3 (.int .i64 p3)) 4 (.int .u8 p4)) 5 (.pointer (some ⟨b1, 0, none⟩))) 10 (.bool false)) 11 (.pointer (some ⟨b11, 0, none⟩))) 12 (.pointer (some ⟨b12, 0, none⟩))) 14 (.slice A15 y13.1.length c16)) 16 (.slice A21 y19.1.length c22)) 97 (.bool b40))) (fun tm0 => ?_) (fun key => ?_)
                  · refine ox_nil ?_
                    refine ex_then ?_
                    rcases ite_some h with ⟨hp42, h⟩ | ⟨hp42, h⟩
                    · refine cx_true (congrArg Value.bool hp42) ?_
                      refine cx_seq ?_
                      refine cx_region ?_
                      refine ox_y rfl (y_assign_bool rfl) ?_
                      refine ox_nil ?_
                      refine ex_then ?_
                      refine cx_ret ?_
                      refine ex_then_ret ?_
                      refine ex_then_ret ?_
                      obtain rfl := Option.some.inj h
                      exact ex_res1 (.inl rfl) rfl (resV_tmp (v := .bool false) rfl) (fun W2 hW2 => ⟨rfl, hW2.none⟩)
                    · refine cx_false (congrArg Value.bool hp42) ?_
                      refine cx_skip ?_
                      refine ex_then ?_
                      refine cx_seq ?_
                      refine cx_region ?_
                      refine ox_y rfl (y_assign_int rfl) ?_
                      refine ox_nil ?_
                      refine ex_then ?_
                      refine cx_block ?_
                      obtain ⟨u45, hl60, h⟩ := bind_some h
                      refine cx_loop (fun (s : (Bool × Int)) L tm => ∃ (tm0 : Nat → Value), L = [cellsR b1 24 [.int .i64 p0.fRise, .int .i64 p0.fFall, .int .i64 p0.fUp, .int .i64 p0.fDown, .slice A0_4 p0.fLooks.length c0_4], cellsR b11 49 [.int .i64 y9.1.fHours, .int .i64 y9.1.fRow, .int .i64 y9.1.fSum], cellsR b12 49 [.int .i64 y9.2.1.fHours, .int .i64 y9.2.1.fRow, .int .i64 y9.2.1.fSum], rowR A15 c16 32 2 y13.1.length (encL TSpan_cells y13.1), rowR A21 c22 32 2 y19.1.length (encL TSpan_cells y19.1), cellsR b36 49 [.int .i64 y34.fHours, .int .i64 y34.fRow, .int .i64 y34.fSum]] ∧ tm = (upd (upd (upd (upd (upd (upd (upd (upd (upd (upd (upd (upd tm0 1 (.slice A1_0 p1.length c1_0)) 2 (.slice A2_0 p2.length c2_0)) 3 (.int .i64 p3)) 4 (.int .u8 p4)) 5 (.pointer (some ⟨b1, 0, none⟩))) 10 (.bool s.1)) 11 (.pointer (some ⟨b11, 0, none⟩))) 12 (.pointer (some ⟨b12, 0, none⟩))) 14 (.slice A15 y13.1.length c16)) 16 (.slice A21 y19.1.length c22)) 97 (.bool b40)) 21 (.int .i64 s.2))) (fun | (.inl s), e, L, tm => e = .ret ∧ ∃ (tm0 : Nat → Value), L = [cellsR b1 24 [.int .i64 p0.fRise, .int .i64 p0.fFall, .int .i64 p0.fUp, .int .i64 p0.fDown, .slice A0_4 p0.fLooks.length c0_4], cellsR b11 49 [.int .i64 y9.1.fHours, .int .i64 y9.1.fRow, .int .i64 y9.1.fSum], cellsR b12 49 [.int .i64 y9.2.1.fHours, .int .i64 y9.2.1.fRow, .int .i64 y9.2.1.fSum], rowR A15 c16 32 2 y13.1.length (encL TSpan_cells y13.1), rowR A21 c22 32 2 y19.1.length (encL TSpan_cells y19.1), cellsR b36 49 [.int .i64 y34.fHours, .int .i64 y34.fRow, .int .i64 y34.fSum]] ∧ tm = (upd (upd (upd (upd (upd (upd (upd (upd (upd (upd (upd (upd tm0 1 (.slice A1_0 p1.length c1_0)) 2 (.slice A2_0 p2.length c2_0)) 3 (.int .i64 p3)) 4 (.int .u8 p4)) 5 (.pointer (some ⟨b1, 0, none⟩))) 10 (.bool s.1)) 11 (.pointer (some ⟨b11, 0, none⟩))) 12 (.pointer (some ⟨b12, 0, none⟩))) 14 (.slice A15 y13.1.length c16)) 16 (.slice A21 y19.1.length c22)) 97 (.bool b40)) 21 (.int .i64 s.2)) | (.inr s), e, L, tm => e = .exit 0 ∧ ∃ (tm0 : Nat → Value), L = [cellsR b1 24 [.int .i64 p0.fRise, .int .i64 p0.fFall, .int .i64 p0.fUp, .int .i64 p0.fDown, .slice A0_4 p0.fLooks.length c0_4], cellsR b11 49 [.int .i64 y9.1.fHours, .int .i64 y9.1.fRow, .int .i64 y9.1.fSum], cellsR b12 49 [.int .i64 y9.2.1.fHours, .int .i64 y9.2.1.fRow, .int .i64 y9.2.1.fSum], rowR A15 c16 32 2 y13.1.length (encL TSpan_cells y13.1), rowR A21 c22 32 2 y19.1.length (encL TSpan_cells y19.1), cellsR b36 49 [.int .i64 y34.fHours, .int .i64 y34.fRow, .int .i64 y34.fSum]] ∧ tm = (upd (upd (upd (upd (upd (upd (upd (upd (upd (upd (upd (upd tm0 1 (.slice A1_0 p1.length c1_0)) 2 (.slice A2_0 p2.length c2_0)) 3 (.int .i64 p3)) 4 (.int .u8 p4)) 5 (.pointer (some ⟨b1, 0, none⟩))) 10 (.bool s.1)) 11 (.pointer (some ⟨b11, 0, none⟩))) 12 (.pointer (some ⟨b12, 0, none⟩))) 14 (.slice A15 y13.1.length c16)) 16 (.slice A21 y19.1.length c22)) 97 (.bool b40)) 21 (.int .i64 s.2))) hl60 ⟨_, rfl, (keep (keep (keep (keep (keep (keep (keep (keep (keep (keep (keep (keep rfl rfl) rfl) rfl) rfl) rfl) rfl) rfl) rfl) rfl) rfl) rfl) rfl)⟩ ?_ ?_
                      · rintro s44 L tm st ⟨tm0_s44, rfl, rfl⟩ h
                        unfold calxlaw02_FireSinks_l1 at h
                        refine cx_seq ?_
                        refine cx_seq ?_
                        refine cx_region ?_
                        refine ox_y rfl (y_move_int rfl) ?_
                        refine ox_y rfl (y_move_slice rfl) ?_
                        refine ox_y rfl (y_len (us := []) us_46 rfl) ?_
                        refine ox_y rfl (y_lss rfl rfl) ?_
                        refine ox_nil ?_
                        refine ex_then ?_
                        rcases ite_some h with ⟨hp46, h⟩ | ⟨hp46, h⟩
                        · refine cx_true (congrArg Value.bool hp46) ?_
                          refine cx_skip ?_
                          refine ex_then ?_
                          refine cx_seq ?_
                          refine cx_block ?_
                          refine cx_seq ?_
                          refine cx_region ?_
                          refine ox_y rfl (y_move_slice rfl) ?_
                          refine ox_y rfl (y_move_int rfl) ?_
                          obtain ⟨hg47, h⟩ := guardO_some h
                          refine ox_y rfl (y_indexR sl_41 (by decide) hg47.1 hg47.2 (RdL.arg hr2_0) (encL_len cI_len rfl) rfl rfl) ?_
                          refine ox_y rfl (y_loadR1 (A := A2_0) (j := (Int.toNat s44.2 * 1)) (v := .int .i64 (rdL p2 s44.2)) sc_3 (RdL.arg hr2_0) rfl (encL_get0 cI_len hg47.1 (lt_nat hg47.2 rfl) rfl)) ?_
                          refine ox_y rfl (y_move_int rfl) ?_
                          refine ox_y rfl (y_geq rfl rfl) ?_
                          refine ox_y rfl (y_assign_bool rfl) ?_
                          refine ox_nil ?_
                          refine ex_then ?_
                          refine cx_seq ?_
                          refine cx_region ?_
                          refine ox_y rfl (y_move_slice rfl) ?_
                          refine ox_y rfl (y_move_int rfl) ?_
                          obtain ⟨y48, hy49, h⟩ := bind_some h
                          refine ox_y rfl (y_call [.slice A15 y13.1.length c16, .int .i64 s44.2] go_43 rfl (fun W2 hW2 => calxlaw02_within_ok y13.1 s44.2 y48 hy49 W2 A15 y13.1.length c16 rfl ((RdL.row 3 rfl) W2 hW2)) rfl) ?_
                          refine ox_y rfl (y_move_bool rfl) ?_
                          refine ox_join 3 (fun tm0 => (upd (upd (upd (upd (upd (upd (upd (upd (upd (upd (upd (upd (upd (upd (upd tm0 1 (.slice A1_0 p1.length c1_0)) 2 (.slice A2_0 p2.length c2_0)) 3 (.int .i64 p3)) 4 (.int .u8 p4)) 5 (.pointer (some ⟨b1, 0, none⟩))) 10 (.bool s44.1)) 11 (.pointer (some ⟨b11, 0, none⟩))) 12 (.pointer (some ⟨b12, 0, none⟩))) 14 (.slice A15 y13.1.length c16)) 16 (.slice A21 y19.1.length c22)) 97 (.bool b40)) 21 (.int .i64 s44.2)) 101 (.bool (decide (s44.2 < ((p1.length : Nat) : Int))))) 22 (.bool (decide (p3 ≤ (rdL p2 s44.2))))) 116 (.bool (y48 && (!(decide (p3 ≤ (rdL p2 s44.2)))))))) (fun tm0 => ?_) (fun key => ?_)
                          · refine ox_y rfl (y_move_bool rfl) ?_
                            obtain ⟨b52, hb53, h⟩ := bind_some h
                            refine ox_join 8 (fun tm0 => (upd (upd (upd (upd (upd (upd (upd (upd (upd (upd (upd (upd (upd (upd (upd tm0 1 (.slice A1_0 p1.length c1_0)) 2 (.slice A2_0 p2.length c2_0)) 3 (.int .i64 p3)) 4 (.int .u8 p4)) 5 (.pointer (some ⟨b1, 0, none⟩))) 10 (.bool s44.1)) 11 (.pointer (some ⟨b11, 0, none⟩))) 12 (.pointer (some ⟨b12, 0, none⟩))) 14 (.slice A15 y13.1.length c16)) 16 (.slice A21 y19.1.length c22)) 97 (.bool b40)) 21 (.int .i64 s44.2)) 101 (.bool (decide (s44.2 < ((p1.length : Nat) : Int))))) 22 (.bool (decide (p3 ≤ (rdL p2 s44.2))))) 125 (.bool b52))) (fun tm0 => ?_) (fun key => ?_)
                            · refine ox_nil ?_
                              refine ex_then ?_
                              rcases ite_some h with ⟨hp54, h⟩ | ⟨hp54, h⟩
                              · refine cx_true (congrArg Value.bool hp54) ?_
                                refine cx_seq ?_
                                refine cx_region ?_
                                refine ox_y rfl (y_assign_bool rfl) ?_
                                refine ox_nil ?_
                                refine ex_then ?_
                                refine cx_ret ?_
                                refine ex_block_ret ?_
                                refine ex_then_ret ?_
                                obtain rfl := Option.some.inj h
                                exact ex_stop ⟨rfl, _, rfl, (keep (keep (keep (keep (keep (keep (keep (keep (keep (keep (keep (keep rfl rfl) rfl) rfl) rfl) rfl) rfl) rfl) rfl) rfl) rfl) rfl) rfl)⟩
                              · refine cx_false (congrArg Value.bool hp54) ?_
                                refine cx_skip ?_
                                refine ex_block ?_
                                refine ex_then ?_
                                refine cx_region ?_
                                refine ox_y rfl (y_move_int rfl) ?_
                                refine ox_y rfl (y_add rfl rfl) ?_
                                refine ox_y rfl (y_assign_int rfl) ?_
                                refine ox_nil ?_
                                obtain rfl := Option.some.inj h
                                exact ex_next ⟨_, rfl, (keep (keep (keep (keep (keep (keep (keep (keep (keep (keep (keep (keep rfl rfl) rfl) rfl) rfl) rfl) rfl) rfl) rfl) rfl) rfl) rfl) rfl)⟩
                            · clear h; rcases ite_some hb53 with ⟨hp51, h⟩ | ⟨hp51, h⟩
                              · refine ox_skip (sees_f rfl rfl rfl rfl hp51) ?_
                                refine ox_skip (sees_f rfl rfl rfl rfl hp51) ?_
                                refine ox_skip rfl ?_
                                refine ox_skip rfl ?_
                                refine ox_skip rfl ?_
                                refine ox_skip rfl ?_
                                refine ox_skip (sees_f rfl rfl rfl rfl hp51) ?_
                                refine ox_y rfl (y_pick_tb (congrArg Value.bool hp51) rfl) ?_
                                obtain rfl := Option.some.inj h
                                exact key _ _ (keep (keep (keep (keep (keep (keep (keep (keep (keep (keep (keep (keep (keep (keep (keep rfl rfl) rfl) rfl) rfl) rfl) rfl) rfl) rfl) rfl) rfl) rfl) rfl) rfl) rfl) rfl)
                              · refine ox_y (sees_t rfl rfl rfl rfl hp51) (y_move_bool rfl) ?_
                                refine ox_y (sees_t rfl rfl rfl rfl hp51) (y_move_bool rfl) ?_
                                obtain ⟨b56, hb57, h⟩ := bind_some h
                                refine ox_join 5 (fun tm0 => (upd (upd (upd (upd (upd (upd (upd (upd (upd (upd (upd (upd (upd (upd (upd (upd tm0 1 (.slice A1_0 p1.length c1_0)) 2 (.slice A2_0 p2.length c2_0)) 3 (.int .i64 p3)) 4 (.int .u8 p4)) 5 (.pointer (some ⟨b1, 0, none⟩))) 10 (.bool s44.1)) 11 (.pointer (some ⟨b11, 0, none⟩))) 12 (.pointer (some ⟨b12, 0, none⟩))) 14 (.slice A15 y13.1.length c16)) 16 (.slice A21 y19.1.length c22)) 97 (.bool b40)) 21 (.int .i64 s44.2)) 101 (.bool (decide (s44.2 < ((p1.length : Nat) : Int))))) 22 (.bool (decide (p3 ≤ (rdL p2 s44.2))))) 117 (.bool (y48 && (!(decide (p3 ≤ (rdL p2 s44.2))))))) 124 (.bool b56))) (fun tm0 => ?_) (fun key => ?_)
                                · refine ox_y rfl (y_pick_fb (congrArg Value.bool hp51) rfl) ?_
                                  obtain rfl := Option.some.inj h
                                  exact key _ _ (keep (keep (keep (keep (keep (keep (keep (keep (keep (keep (keep (keep (keep (keep (keep rfl rfl) rfl) rfl) rfl) rfl) rfl) rfl) rfl) rfl) rfl) rfl) rfl) rfl) rfl) rfl)
                                · clear h; rcases ite_some hb57 with ⟨hp55, h⟩ | ⟨hp55, h⟩
                                  · refine ox_y (sees_t rfl rfl rfl rfl hp55) (y_move_slice rfl) ?_
                                    refine ox_y (sees_t rfl rfl rfl rfl hp55) (y_move_int rfl) ?_
                                    obtain ⟨y58, hy59, h⟩ := bind_some h
                                    refine ox_y (sees_t rfl rfl rfl rfl hp55) (y_call [.slice A21 y19.1.length c22, .int .i64 s44.2] go_43 rfl (fun W2 hW2 => calxlaw02_within_ok y19.1 s44.2 y58 hy59 W2 A21 y19.1.length c22 rfl ((RdL.row 4 rfl) W2 hW2)) rfl) ?_
                                    refine ox_y (sees_t rfl rfl rfl rfl hp55) (y_not rfl) ?_
                                    refine ox_y (sees_t rfl rfl rfl rfl hp51) (y_pick_tb (congrArg Value.bool hp55) rfl) ?_
                                    obtain rfl := Option.some.inj h
                                    exact key _ _ (keep (keep (keep (keep (keep (keep (keep (keep (keep (keep (keep (keep (keep (keep (keep (keep rfl rfl) rfl) rfl) rfl) rfl) rfl) rfl) rfl) rfl) rfl) rfl) rfl) rfl) rfl) rfl) rfl)
                                  · refine ox_skip (sees_f rfl rfl rfl rfl hp55) ?_
                                    refine ox_skip (sees_f rfl rfl rfl rfl hp55) ?_
                                    refine ox_skip (sees_f rfl rfl rfl rfl hp55) ?_
                                    refine ox_skip (sees_f rfl rfl rfl rfl hp55) ?_
                                    refine ox_y (sees_t rfl rfl rfl rfl hp51) (y_pick_fb (congrArg Value.bool hp55) rfl) ?_
                                    obtain rfl := Option.some.inj h
                                    exact key _ _ (keep (keep (keep (keep (keep (keep (keep (keep (keep (keep (keep (keep (keep (keep (keep (keep rfl rfl) rfl) rfl) rfl) rfl) rfl) rfl) rfl) rfl) rfl) rfl) rfl) rfl) rfl) rfl) rfl)
                          · rcases bool_cases y48 with hp50 | hp50
                            · refine ox_y (sees_t rfl rfl rfl rfl hp50) (y_move_bool rfl) ?_
                              refine ox_y (sees_t rfl rfl rfl rfl hp50) (y_not rfl) ?_
                              refine ox_y rfl (y_pick_tb (congrArg Value.bool hp50) rfl) ?_
                              exact key _ _ (keep (keep (keep (keep (keep (keep (keep (keep (keep (keep (keep (keep (keep (keep (keep rfl rfl) rfl) rfl) rfl) rfl) rfl) rfl) rfl) rfl) rfl) rfl) rfl) rfl) rfl) (congrArg Value.bool (and_t hp50)))
                            · refine ox_skip (sees_f rfl rfl rfl rfl hp50) ?_
                              refine ox_skip (sees_f rfl rfl rfl rfl hp50) ?_
                              refine ox_y rfl (y_pick_fb (congrArg Value.bool hp50) rfl) ?_
                              exact key _ _ (keep (keep (keep (keep (keep (keep (keep (keep (keep (keep (keep (keep (keep (keep (keep rfl rfl) rfl) rfl) rfl) rfl) rfl) rfl) rfl) rfl) rfl) rfl) rfl) rfl) rfl) (congrArg Value.bool (and_f hp50)))
                        · refine cx_false (congrArg Value.bool hp46) ?_
                          refine cx_exit ?_
                          refine ex_then_exit ?_
                          obtain rfl := Option.some.inj h
                          exact ex_stop ⟨rfl, _, rfl, (keep (keep (keep (keep (keep (keep (keep (keep (keep (keep (keep (keep rfl rfl) rfl) rfl) rfl) rfl) rfl) rfl) rfl) rfl) rfl) rfl) rfl)⟩
                      · intro e L tm hJ
                        rcases u45 with u61 | u62
                        · dsimp only at h hJ
                          obtain ⟨rfl, tm0_u61, rfl, rfl⟩ := hJ
                          refine ⟨(by intro hc; cases hc), ?_⟩
                          refine ex_block_ret ?_
                          refine ex_then_ret ?_
                          obtain rfl := Option.some.inj h
                          exact ex_res1 (.inl rfl) rfl (resV_tmp (v := .bool u61.1) rfl) (fun W2 hW2 => ⟨rfl, hW2.none⟩)
                        · dsimp only at h hJ
                          obtain ⟨rfl, tm0_u62, rfl, rfl⟩ := hJ
                          refine ⟨(by intro hc; cases hc), ?_⟩
                          refine ex_block_here ?_
                          refine ex_then ?_
                          refine cx_seq ?_
                          refine cx_region ?_
                          refine ox_y rfl (y_loadN 0 [.int .i64 p0.fRise, .int .i64 p0.fFall, .int .i64 p0.fUp, .int .i64 p0.fDown, .slice A0_4 p0.fLooks.length c0_4] ag_24 rfl rfl rfl) ?_
                          refine ox_y rfl (y_move_slice rfl) ?_
                          refine ox_y rfl (y_move_int rfl) ?_
                          refine ox_y rfl (y_move_int rfl) ?_
                          refine ox_y rfl (y_convert ui_5 ui_3 rfl) ?_
                          refine ox_y rfl (y_add rfl rfl) ?_
                          refine ox_y rfl (y_min rfl rfl) ?_
                          obtain ⟨y63, hy64, h⟩ := bind_some h
                          refine ox_y rfl (y_call [.agg #[.int .i64 p0.fRise, .int .i64 p0.fFall, .int .i64 p0.fUp, .int .i64 p0.fDown, .slice A0_4 p0.fLooks.length c0_4], .slice A1_0 p1.length c1_0, .int .i64 (min 1500 (w64 (p3 + (w64 p4))))] go_19 rfl (fun W2 hW2 => fire_Burnt_ok p0 p1 (min 1500 (w64 (p3 + (w64 p4)))) y63 hy64 W2 A0_4 p0.fLooks.length c0_4 rfl ((RdL.arg hr0_4) W2 hW2) A1_0 p1.length c1_0 rfl ((RdL.arg hr1_0) W2 hW2)) rfl) ?_
                          refine ox_y rfl (y_move_tuple rfl) ?_
                          refine ox_y rfl (y_extract (vs := [.agg #[.int .i64 y63.1.fHours, .int .i64 y63.1.fRow, .int .i64 y63.1.fSum], .agg #[.int .i64 y63.2.1.fHours, .int .i64 y63.2.1.fRow, .int .i64 y63.2.1.fSum], .int .i64 y63.2.2]) (v := .agg #[.int .i64 y63.1.fHours, .int .i64 y63.1.fRow, .int .i64 y63.1.fSum]) rfl rfl) ?_
                          refine ox_y rfl (y_extract (vs := [.agg #[.int .i64 y63.1.fHours, .int .i64 y63.1.fRow, .int .i64 y63.1.fSum], .agg #[.int .i64 y63.2.1.fHours, .int .i64 y63.2.1.fRow, .int .i64 y63.2.1.fSum], .int .i64 y63.2.2]) (v := .agg #[.int .i64 y63.2.1.fHours, .int .i64 y63.2.1.fRow, .int .i64 y63.2.1.fSum]) rfl rfl) ?_
                          refine ox_y rfl (y_extract (vs := [.agg #[.int .i64 y63.1.fHours, .int .i64 y63.1.fRow, .int .i64 y63.1.fSum], .agg #[.int .i64 y63.2.1.fHours, .int .i64 y63.2.1.fRow, .int .i64 y63.2.1.fSum], .int .i64 y63.2.2]) (v := .int .i64 y63.2.2) rfl rfl) ?_
                          refine ox_alloc ze_49 rfl (fun b65 => ?_)
                          try dsimp only [List.nil_append, List.cons_append, List.set_cons_zero, List.set_cons_succ]
                          refine ox_alloc ze_49 rfl (fun b66 => ?_)
                          try dsimp only [List.nil_append, List.cons_append, List.set_cons_zero, List.set_cons_succ]
                          refine ox_n rfl (y_storeN 6 [.int .i64 y63.1.fHours, .int .i64 y63.1.fRow, .int .i64 y63.1.fSum] sz_49 rfl (Nat.le_of_ble_eq_true rfl) rfl rfl rfl) ?_
                          refine ox_n rfl (y_storeN 7 [.int .i64 y63.2.1.fHours, .int .i64 y63.2.1.fRow, .int .i64 y63.2.1.fSum] sz_49 rfl (Nat.le_of_ble_eq_true rfl) rfl rfl rfl) ?_
                          refine ox_y rfl (y_assign_int rfl) ?_
                          refine ox_nil ?_
                          refine ex_then ?_
                          refine cx_seq ?_
                          refine cx_region ?_
                          obtain ⟨y67, hy68, h⟩ := bind_some h
                          refine ox_y rfl (y_call [] go_13 rfl (fun W2 hW2 => calxlaw02_sanity_ok  y67 hy68 W2 ) rfl) ?_
                          refine ox_y rfl (y_move_bool rfl) ?_
                          obtain ⟨b70, hb71, h⟩ := bind_some h
                          refine ox_join 4 (fun tm0 => (upd (upd (upd (upd (upd (upd (upd tm0 10 (.bool u62.1)) 11 (.pointer (some ⟨b11, 0, none⟩))) 12 (.pointer (some ⟨b12, 0, none⟩))) 23 (.pointer (some ⟨b65, 0, none⟩))) 24 (.pointer (some ⟨b66, 0, none⟩))) 25 (.int .i64 y63.2.2)) 143 (.bool b70))) (fun tm0 => ?_) (fun key => ?_)
                          · refine ox_y rfl (y_move_bool rfl) ?_
                            refine ox_join 3 (fun tm0 => (upd (upd (upd (upd (upd (upd tm0 10 (.bool u62.1)) 11 (.pointer (some ⟨b11, 0, none⟩))) 12 (.pointer (some ⟨b12, 0, none⟩))) 23 (.pointer (some ⟨b65, 0, none⟩))) 24 (.pointer (some ⟨b66, 0, none⟩))) 147 (.bool (b70 && (y63.2.2 == 0))))) (fun tm0 => ?_) (fun key => ?_)
                            · refine ox_y rfl (y_move_bool rfl) ?_
                              obtain ⟨b74, hb75, h⟩ := bind_some h
                              refine ox_join 4 (fun tm0 => (upd (upd (upd (upd tm0 10 (.bool u62.1)) 12 (.pointer (some ⟨b12, 0, none⟩))) 24 (.pointer (some ⟨b66, 0, none⟩))) 152 (.bool b74))) (fun tm0 => ?_) (fun key => ?_)
                              · refine ox_y rfl (y_move_bool rfl) ?_
                                obtain ⟨b77, hb78, h⟩ := bind_some h
                                refine ox_join 4 (fun tm0 => (upd (upd tm0 10 (.bool u62.1)) 157 (.bool b77))) (fun tm0 => ?_) (fun key => ?_)
                                · refine ox_y rfl (y_assign_bool rfl) ?_
                                  refine ox_nil ?_
                                  refine ex_then ?_
                                  refine cx_ret ?_
                                  obtain rfl := Option.some.inj h
                                  exact ex_res1 (.inl rfl) rfl (resV_tmp (v := .bool b77) rfl) (fun W2 hW2 => ⟨rfl, hW2.none⟩)
                                · clear h; rcases ite_some hb78 with ⟨hp76, h⟩ | ⟨hp76, h⟩
                                  · refine ox_y (sees_t rfl rfl rfl rfl hp76) (y_loadN 7 [.int .i64 y63.2.1.fHours, .int .i64 y63.2.1.fRow, .int .i64 y63.2.1.fSum] ag_49 rfl rfl rfl) ?_
                                    refine ox_y (sees_t rfl rfl rfl rfl hp76) (y_loadN 2 [.int .i64 y9.2.1.fHours, .int .i64 y9.2.1.fRow, .int .i64 y9.2.1.fSum] ag_49 rfl rfl rfl) ?_
                                    obtain ⟨y79, hy80, h⟩ := bind_some h
                                    refine ox_y (sees_t rfl rfl rfl rfl hp76) (y_call [.agg #[.int .i64 y63.2.1.fHours, .int .i64 y63.2.1.fRow, .int .i64 y63.2.1.fSum], .agg #[.int .i64 y9.2.1.fHours, .int .i64 y9.2.1.fRow, .int .i64 y9.2.1.fSum]] go_42 rfl (fun W2 hW2 => calxlaw02_under_ok y63.2.1 y9.2.1 y79 hy80 W2 ) rfl) ?_
                                    refine ox_y rfl (y_pick_tb (congrArg Value.bool hp76) rfl) ?_
                                    obtain rfl := Option.some.inj h
                                    exact key _ _ (keep (keep rfl rfl) rfl)
                                  · refine ox_skip (sees_f rfl rfl rfl rfl hp76) ?_
                                    refine ox_skip (sees_f rfl rfl rfl rfl hp76) ?_
                                    refine ox_skip (sees_f rfl rfl rfl rfl hp76) ?_
                                    refine ox_y rfl (y_pick_fb (congrArg Value.bool hp76) rfl) ?_
                                    obtain rfl := Option.some.inj h
                                    exact key _ _ (keep (keep rfl rfl) rfl)
                              · clear h; rcases ite_some hb75 with ⟨hp73, h⟩ | ⟨hp73, h⟩
                                · refine ox_y (sees_t rfl rfl rfl rfl hp73) (y_loadN 6 [.int .i64 y63.1.fHours, .int .i64 y63.1.fRow, .int .i64 y63.1.fSum] ag_49 rfl rfl rfl) ?_
                                  refine ox_y (sees_t rfl rfl rfl rfl hp73) (y_loadN 1 [.int .i64 y9.1.fHours, .int .i64 y9.1.fRow, .int .i64 y9.1.fSum] ag_49 rfl rfl rfl) ?_
                                  obtain ⟨y81, hy82, h⟩ := bind_some h
                                  refine ox_y (sees_t rfl rfl rfl rfl hp73) (y_call [.agg #[.int .i64 y63.1.fHours, .int .i64 y63.1.fRow, .int .i64 y63.1.fSum], .agg #[.int .i64 y9.1.fHours, .int .i64 y9.1.fRow, .int .i64 y9.1.fSum]] go_42 rfl (fun W2 hW2 => calxlaw02_under_ok y63.1 y9.1 y81 hy82 W2 ) rfl) ?_
                                  refine ox_y rfl (y_pick_tb (congrArg Value.bool hp73) rfl) ?_
                                  obtain rfl := Option.some.inj h
                                  exact key _ _ (keep (keep (keep (keep rfl rfl) rfl) rfl) rfl)
                                · refine ox_skip (sees_f rfl rfl rfl rfl hp73) ?_
                                  refine ox_skip (sees_f rfl rfl rfl rfl hp73) ?_
                                  refine ox_skip (sees_f rfl rfl rfl rfl hp73) ?_
                                  refine ox_y rfl (y_pick_fb (congrArg Value.bool hp73) rfl) ?_
                                  obtain rfl := Option.some.inj h
                                  exact key _ _ (keep (keep (keep (keep rfl rfl) rfl) rfl) rfl)
                            · rcases bool_cases b70 with hp72 | hp72
                              · refine ox_y (sees_t rfl rfl rfl rfl hp72) (y_move_int rfl) ?_
                                refine ox_y (sees_t rfl rfl rfl rfl hp72) (y_eql rfl rfl) ?_
                                refine ox_y rfl (y_pick_tb (congrArg Value.bool hp72) rfl) ?_
                                exact key _ _ (keep (keep (keep (keep (keep (keep rfl rfl) rfl) rfl) rfl) rfl) (congrArg Value.bool (and_t hp72)))
                              · refine ox_skip (sees_f rfl rfl rfl rfl hp72) ?_
                                refine ox_skip (sees_f rfl rfl rfl rfl hp72) ?_
                                refine ox_y rfl (y_pick_fb (congrArg Value.bool hp72) rfl) ?_
                                exact key _ _ (keep (keep (keep (keep (keep (keep rfl rfl) rfl) rfl) rfl) rfl) (congrArg Value.bool (and_f hp72)))
                          · clear h; rcases ite_some hb71 with ⟨hp69, h⟩ | ⟨hp69, h⟩
                            · refine ox_y (sees_t rfl rfl rfl rfl hp69) (y_loadN 1 [.int .i64 y9.1.fHours, .int .i64 y9.1.fRow, .int .i64 y9.1.fSum] ag_49 rfl rfl rfl) ?_
                              refine ox_y (sees_t rfl rfl rfl rfl hp69) (y_loadN 2 [.int .i64 y9.2.1.fHours, .int .i64 y9.2.1.fRow, .int .i64 y9.2.1.fSum] ag_49 rfl rfl rfl) ?_
                              obtain ⟨y83, hy84, h⟩ := bind_some h
                              refine ox_y (sees_t rfl rfl rfl rfl hp69) (y_call [.agg #[.int .i64 y9.1.fHours, .int .i64 y9.1.fRow, .int .i64 y9.1.fSum], .agg #[.int .i64 y9.2.1.fHours, .int .i64 y9.2.1.fRow, .int .i64 y9.2.1.fSum]] go_42 rfl (fun W2 hW2 => calxlaw02_under_ok y9.1 y9.2.1 y83 hy84 W2 ) rfl) ?_
                              refine ox_y rfl (y_pick_tb (congrArg Value.bool hp69) rfl) ?_
                              obtain rfl := Option.some.inj h
                              exact key _ _ (keep (keep (keep (keep (keep (keep (keep rfl rfl) rfl) rfl) rfl) rfl) rfl) rfl)
                            · refine ox_skip (sees_f rfl rfl rfl rfl hp69) ?_
                              refine ox_skip (sees_f rfl rfl rfl rfl hp69) ?_
                              refine ox_skip (sees_f rfl rfl rfl rfl hp69) ?_
                              refine ox_y rfl (y_pick_fb (congrArg Value.bool hp69) rfl) ?_
                              obtain rfl := Option.some.inj h
                              exact key _ _ (keep (keep (keep (keep (keep (keep (keep rfl rfl) rfl) rfl) rfl) rfl) rfl) rfl)
                  · clear h; rcases ite_some hb41 with ⟨hp39, h⟩ | ⟨hp39, h⟩
                    · refine ox_skip (sees_f rfl rfl rfl rfl hp39) ?_
                      refine ox_skip (sees_f rfl rfl rfl rfl hp39) ?_
                      refine ox_skip (sees_f rfl rfl rfl rfl hp39) ?_
                      refine ox_skip (sees_f rfl rfl rfl rfl hp39) ?_
                      refine ox_y rfl (y_pick_tb (congrArg Value.bool hp39) rfl) ?_
                      obtain rfl := Option.some.inj h
                      exact key _ _ (keep (keep (keep (keep (keep (keep (keep (keep (keep (keep (keep rfl rfl) rfl) rfl) rfl) rfl) rfl) rfl) rfl) rfl) rfl) rfl)
                    · refine ox_y (sees_t rfl rfl rfl rfl hp39) (y_loadN 5 [.int .i64 y34.fHours, .int .i64 y34.fRow, .int .i64 y34.fSum] ag_49 rfl rfl rfl) ?_
                      refine ox_y (sees_t rfl rfl rfl rfl hp39) (y_loadN 2 [.int .i64 y9.2.1.fHours, .int .i64 y9.2.1.fRow, .int .i64 y9.2.1.fSum] ag_49 rfl rfl rfl) ?_
                      obtain ⟨y85, hy86, h⟩ := bind_some h
                      refine ox_y (sees_t rfl rfl rfl rfl hp39) (y_call [.agg #[.int .i64 y34.fHours, .int .i64 y34.fRow, .int .i64 y34.fSum], .agg #[.int .i64 y9.2.1.fHours, .int .i64 y9.2.1.fRow, .int .i64 y9.2.1.fSum]] go_42 rfl (fun W2 hW2 => calxlaw02_under_ok y34 y9.2.1 y85 hy86 W2 ) rfl) ?_
                      refine ox_y (sees_t rfl rfl rfl rfl hp39) (y_not rfl) ?_
                      refine ox_y rfl (y_pick_fb (congrArg Value.bool hp39) rfl) ?_
                      obtain rfl := Option.some.inj h
                      exact key _ _ (keep (keep (keep (keep (keep (keep (keep (keep (keep (keep (keep rfl rfl) rfl) rfl) rfl) rfl) rfl) rfl) rfl) rfl) rfl) rfl)
                · refine cx_false (congrArg Value.bool hp33) ?_
                  refine cx_skip ?_
                  refine ex_then ?_
                  refine cx_seq ?_
                  refine cx_region ?_
                  refine ox_y rfl (y_loadN 0 [.int .i64 p0.fRise, .int .i64 p0.fFall, .int .i64 p0.fUp, .int .i64 p0.fDown, .slice A0_4 p0.fLooks.length c0_4] ag_24 rfl rfl rfl) ?_
                  refine ox_y rfl (y_move_slice rfl) ?_
                  refine ox_y rfl (y_move_int rfl) ?_
                  refine ox_y rfl (y_move_int rfl) ?_
                  refine ox_y rfl (y_convert ui_5 ui_3 rfl) ?_
                  refine ox_y rfl (y_add rfl rfl) ?_
                  refine ox_y rfl (y_min rfl rfl) ?_
                  obtain ⟨y87, hy88, h⟩ := bind_some h
                  refine ox_y rfl (y_call [.agg #[.int .i64 p0.fRise, .int .i64 p0.fFall, .int .i64 p0.fUp, .int .i64 p0.fDown, .slice A0_4 p0.fLooks.length c0_4], .slice A1_0 p1.length c1_0, .int .i64 (min 1500 (w64 (p3 + (w64 p4))))] go_19 rfl (fun W2 hW2 => fire_Burnt_ok p0 p1 (min 1500 (w64 (p3 + (w64 p4)))) y87 hy88 W2 A0_4 p0.fLooks.length c0_4 rfl ((RdL.arg hr0_4) W2 hW2) A1_0 p1.length c1_0 rfl ((RdL.arg hr1_0) W2 hW2)) rfl) ?_
                  refine ox_y rfl (y_move_tuple rfl) ?_
                  refine ox_y rfl (y_extract (vs := [.agg #[.int .i64 y87.1.fHours, .int .i64 y87.1.fRow, .int .i64 y87.1.fSum], .agg #[.int .i64 y87.2.1.fHours, .int .i64 y87.2.1.fRow, .int .i64 y87.2.1.fSum], .int .i64 y87.2.2]) (v := .agg #[.int .i64 y87.1.fHours, .int .i64 y87.1.fRow, .int .i64 y87.1.fSum]) rfl rfl) ?_
                  refine ox_y rfl (y_extract (vs := [.agg #[.int .i64 y87.1.fHours, .int .i64 y87.1.fRow, .int .i64 y87.1.fSum], .agg #[.int .i64 y87.2.1.fHours, .int .i64 y87.2.1.fRow, .int .i64 y87.2.1.fSum], .int .i64 y87.2.2]) (v := .agg #[.int .i64 y87.2.1.fHours, .int .i64 y87.2.1.fRow, .int .i64 y87.2.1.fSum]) rfl rfl) ?_
                  refine ox_y rfl (y_extract (vs := [.agg #[.int .i64 y87.1.fHours, .int .i64 y87.1.fRow, .int .i64 y87.1.fSum], .agg #[.int .i64 y87.2.1.fHours, .int .i64 y87.2.1.fRow, .int .i64 y87.2.1.fSum], .int .i64 y87.2.2]) (v := .int .i64 y87.2.2) rfl rfl) ?_
                  refine ox_alloc ze_49 rfl (fun b89 => ?_)
                  try dsimp only [List.nil_append, List.cons_append, List.set_cons_zero, List.set_cons_succ]
                  refine ox_alloc ze_49 rfl (fun b90 => ?_)
                  try dsimp only [List.nil_append, List.cons_append, List.set_cons_zero, List.set_cons_succ]
                  refine ox_n rfl (y_storeN 5 [.int .i64 y87.1.fHours, .int .i64 y87.1.fRow, .int .i64 y87.1.fSum] sz_49 rfl (Nat.le_of_ble_eq_true rfl) rfl rfl rfl) ?_
                  refine ox_n rfl (y_storeN 6 [.int .i64 y87.2.1.fHours, .int .i64 y87.2.1.fRow, .int .i64 y87.2.1.fSum] sz_49 rfl (Nat.le_of_ble_eq_true rfl) rfl rfl rfl) ?_
                  refine ox_y rfl (y_assign_int rfl) ?_
                  refine ox_nil ?_
                  refine ex_then ?_
                  refine cx_seq ?_
                  refine cx_region ?_
                  obtain ⟨y91, hy92, h⟩ := bind_some h
                  refine ox_y rfl (y_call [] go_13 rfl (fun W2 hW2 => calxlaw02_sanity_ok  y91 hy92 W2 ) rfl) ?_
                  refine ox_y rfl (y_move_bool rfl) ?_
                  obtain ⟨b94, hb95, h⟩ := bind_some h
                  refine ox_join 4 (fun tm0 => (upd (upd (upd (upd (upd (upd (upd tm0 10 (.bool false)) 11 (.pointer (some ⟨b11, 0, none⟩))) 12 (.pointer (some ⟨b12, 0, none⟩))) 23 (.pointer (some ⟨b89, 0, none⟩))) 24 (.pointer (some ⟨b90, 0, none⟩))) 25 (.int .i64 y87.2.2)) 143 (.bool b94))) (fun tm0 => ?_) (fun key => ?_)
                  · refine ox_y rfl (y_move_bool rfl) ?_
                    refine ox_join 3 (fun tm0 => (upd (upd (upd (upd (upd (upd tm0 10 (.bool false)) 11 (.pointer (some ⟨b11, 0, none⟩))) 12 (.pointer (some ⟨b12, 0, none⟩))) 23 (.pointer (some ⟨b89, 0, none⟩))) 24 (.pointer (some ⟨b90, 0, none⟩))) 147 (.bool (b94 && (y87.2.2 == 0))))) (fun tm0 => ?_) (fun key => ?_)
                    · refine ox_y rfl (y_move_bool rfl) ?_
                      obtain ⟨b98, hb99, h⟩ := bind_some h
                      refine ox_join 4 (fun tm0 => (upd (upd (upd (upd tm0 10 (.bool false)) 12 (.pointer (some ⟨b12, 0, none⟩))) 24 (.pointer (some ⟨b90, 0, none⟩))) 152 (.bool b98))) (fun tm0 => ?_) (fun key => ?_)
                      · refine ox_y rfl (y_move_bool rfl) ?_
                        obtain ⟨b101, hb102, h⟩ := bind_some h
                        refine ox_join 4 (fun tm0 => (upd (upd tm0 10 (.bool false)) 157 (.bool b101))) (fun tm0 => ?_) (fun key => ?_)
                        · refine ox_y rfl (y_assign_bool rfl) ?_
                          refine ox_nil ?_
                          refine ex_then ?_
                          refine cx_ret ?_
                          obtain rfl := Option.some.inj h
                          exact ex_res1 (.inl rfl) rfl (resV_tmp (v := .bool b101) rfl) (fun W2 hW2 => ⟨rfl, hW2.none⟩)
                        · clear h; rcases ite_some hb102 with ⟨hp100, h⟩ | ⟨hp100, h⟩
                          · refine ox_y (sees_t rfl rfl rfl rfl hp100) (y_loadN 6 [.int .i64 y87.2.1.fHours, .int .i64 y87.2.1.fRow, .int .i64 y87.2.1.fSum] ag_49 rfl rfl rfl) ?_
                            refine ox_y (sees_t rfl rfl rfl rfl hp100) (y_loadN 2 [.int .i64 y9.2.1.fHours, .int .i64 y9.2.1.fRow, .int .i64 y9.2.1.fSum] ag_49 rfl rfl rfl) ?_
                            obtain ⟨y103, hy104, h⟩ := bind_some h
                            refine ox_y (sees_t rfl rfl rfl rfl hp100) (y_call [.agg #[.int .i64 y87.2.1.fHours, .int .i64 y87.2.1.fRow, .int .i64 y87.2.1.fSum], .agg #[.int .i64 y9.2.1.fHours, .int .i64 y9.2.1.fRow, .int .i64 y9.2.1.fSum]] go_42 rfl (fun W2 hW2 => calxlaw02_under_ok y87.2.1 y9.2.1 y103 hy104 W2 ) rfl) ?_
                            refine ox_y rfl (y_pick_tb (congrArg Value.bool hp100) rfl) ?_
                            obtain rfl := Option.some.inj h
                            exact key _ _ (keep (keep rfl rfl) rfl)
                          · refine ox_skip (sees_f rfl rfl rfl rfl hp100) ?_
                            refine ox_skip (sees_f rfl rfl rfl rfl hp100) ?_
                            refine ox_skip (sees_f rfl rfl rfl rfl hp100) ?_
                            refine ox_y rfl (y_pick_fb (congrArg Value.bool hp100) rfl) ?_
                            obtain rfl := Option.some.inj h
                            exact key _ _ (keep (keep rfl rfl) rfl)
                      · clear h; rcases ite_some hb99 with ⟨hp97, h⟩ | ⟨hp97, h⟩
                        · refine ox_y (sees_t rfl rfl rfl rfl hp97) (y_loadN 5 [.int .i64 y87.1.fHours, .int .i64 y87.1.fRow, .int .i64 y87.1.fSum] ag_49 rfl rfl rfl) ?_
                          refine ox_y (sees_t rfl rfl rfl rfl hp97) (y_loadN 1 [.int .i64 y9.1.fHours, .int .i64 y9.1.fRow, .int .i64 y9.1.fSum] ag_49 rfl rfl rfl) ?_
                          obtain ⟨y105, hy106, h⟩ := bind_some h
                          refine ox_y (sees_t rfl rfl rfl rfl hp97) (y_call [.agg #[.int .i64 y87.1.fHours, .int .i64 y87.1.fRow, .int .i64 y87.1.fSum], .agg #[.int .i64 y9.1.fHours, .int .i64 y9.1.fRow, .int .i64 y9.1.fSum]] go_42 rfl (fun W2 hW2 => calxlaw02_under_ok y87.1 y9.1 y105 hy106 W2 ) rfl) ?_
                          refine ox_y rfl (y_pick_tb (congrArg Value.bool hp97) rfl) ?_
                          obtain rfl := Option.some.inj h
                          exact key _ _ (keep (keep (keep (keep rfl rfl) rfl) rfl) rfl)
                        · refine ox_skip (sees_f rfl rfl rfl rfl hp97) ?_
                          refine ox_skip (sees_f rfl rfl rfl rfl hp97) ?_
                          refine ox_skip (sees_f rfl rfl rfl rfl hp97) ?_
                          refine ox_y rfl (y_pick_fb (congrArg Value.bool hp97) rfl) ?_
                          obtain rfl := Option.some.inj h
                          exact key _ _ (keep (keep (keep (keep rfl rfl) rfl) rfl) rfl)
                    · rcases bool_cases b94 with hp96 | hp96
                      · refine ox_y (sees_t rfl rfl rfl rfl hp96) (y_move_int rfl) ?_
                        refine ox_y (sees_t rfl rfl rfl rfl hp96) (y_eql rfl rfl) ?_
                        refine ox_y rfl (y_pick_tb (congrArg Value.bool hp96) rfl) ?_
                        exact key _ _ (keep (keep (keep (keep (keep (keep rfl rfl) rfl) rfl) rfl) rfl) (congrArg Value.bool (and_t hp96)))
                      · refine ox_skip (sees_f rfl rfl rfl rfl hp96) ?_
                        refine ox_skip (sees_f rfl rfl rfl rfl hp96) ?_
                        refine ox_y rfl (y_pick_fb (congrArg Value.bool hp96) rfl) ?_
                        exact key _ _ (keep (keep (keep (keep (keep (keep rfl rfl) rfl) rfl) rfl) rfl) (congrArg Value.bool (and_f hp96)))
                  · clear h; rcases ite_some hb95 with ⟨hp93, h⟩ | ⟨hp93, h⟩
                    · refine ox_y (sees_t rfl rfl rfl rfl hp93) (y_loadN 1 [.int .i64 y9.1.fHours, .int .i64 y9.1.fRow, .int .i64 y9.1.fSum] ag_49 rfl rfl rfl) ?_
                      refine ox_y (sees_t rfl rfl rfl rfl hp93) (y_loadN 2 [.int .i64 y9.2.1.fHours, .int .i64 y9.2.1.fRow, .int .i64 y9.2.1.fSum] ag_49 rfl rfl rfl) ?_
                      obtain ⟨y107, hy108, h⟩ := bind_some h
                      refine ox_y (sees_t rfl rfl rfl rfl hp93) (y_call [.agg #[.int .i64 y9.1.fHours, .int .i64 y9.1.fRow, .int .i64 y9.1.fSum], .agg #[.int .i64 y9.2.1.fHours, .int .i64 y9.2.1.fRow, .int .i64 y9.2.1.fSum]] go_42 rfl (fun W2 hW2 => calxlaw02_under_ok y9.1 y9.2.1 y107 hy108 W2 ) rfl) ?_
                      refine ox_y rfl (y_pick_tb (congrArg Value.bool hp93) rfl) ?_
                      obtain rfl := Option.some.inj h
                      exact key _ _ (keep (keep (keep (keep (keep (keep (keep rfl rfl) rfl) rfl) rfl) rfl) rfl) rfl)
                    · refine ox_skip (sees_f rfl rfl rfl rfl hp93) ?_
                      refine ox_skip (sees_f rfl rfl rfl rfl hp93) ?_
                      refine ox_skip (sees_f rfl rfl rfl rfl hp93) ?_
                      refine ox_y rfl (y_pick_fb (congrArg Value.bool hp93) rfl) ?_
                      obtain rfl := Option.some.inj h
                      exact key _ _ (keep (keep (keep (keep (keep (keep (keep rfl rfl) rfl) rfl) rfl) rfl) rfl) rfl)
              · rcases bool_cases (y30.2 == 0) with hp32 | hp32
                · refine ox_y (sees_t rfl rfl rfl rfl hp32) (y_move_bool rfl) ?_
                  refine ox_y rfl (y_pick_tb (congrArg Value.bool hp32) rfl) ?_
                  exact key _ _ (keep (keep (keep (keep (keep (keep (keep (keep (keep (keep (keep rfl rfl) rfl) rfl) rfl) rfl) rfl) rfl) rfl) rfl) rfl) (congrArg Value.bool (and_t hp32)))
                · refine ox_skip (sees_f rfl rfl rfl rfl hp32) ?_
                  refine ox_y rfl (y_pick_fb (congrArg Value.bool hp32) rfl) ?_
                  exact key _ _ (keep (keep (keep (keep (keep (keep (keep (keep (keep (keep (keep rfl rfl) rfl) rfl) rfl) rfl) rfl) rfl) rfl) rfl) rfl) (congrArg Value.bool (and_f hp32)))
        · rcases bool_cases (y9.2.2 != y13.2) with hp25 | hp25
          · refine ox_skip (sees_f rfl rfl rfl rfl hp25) ?_
            refine ox_skip (sees_f rfl rfl rfl rfl hp25) ?_
            refine ox_skip (sees_f rfl rfl rfl rfl hp25) ?_
            refine ox_y rfl (y_pick_tb (congrArg Value.bool hp25) rfl) ?_
            exact key _ _ (keep (keep (keep (keep (keep (keep (keep (keep (keep (keep (keep (keep rfl rfl) rfl) rfl) rfl) rfl) rfl) rfl) rfl) rfl) rfl) rfl) (congrArg Value.bool (or_t hp25)))
          · refine ox_y (sees_t rfl rfl rfl rfl hp25) (y_move_int rfl) ?_
            refine ox_y (sees_t rfl rfl rfl rfl hp25) (y_move_int rfl) ?_
            refine ox_y (sees_t rfl rfl rfl rfl hp25) (y_neq rfl rfl) ?_
            refine ox_y rfl (y_pick_fb (congrArg Value.bool hp25) rfl) ?_
            exact key _ _ (keep (keep (keep (keep (keep (keep (keep (keep (keep (keep (keep (keep rfl rfl) rfl) rfl) rfl) rfl) rfl) rfl) rfl) rfl) rfl) rfl) (congrArg Value.bool (or_f hp25)))
    · rcases bool_cases ((!y2) || (decide (20 < ((p1.length : Nat) : Int)))) with hp5 | hp5
      · refine ox_skip (sees_f rfl rfl rfl rfl hp5) ?_
        refine ox_skip (sees_f rfl rfl rfl rfl hp5) ?_
        refine ox_skip (sees_f rfl rfl rfl rfl hp5) ?_
        refine ox_y rfl (y_pick_tb (congrArg Value.bool hp5) rfl) ?_
        exact key _ _ (keep (keep (keep (keep (keep (keep (keep rfl rfl) rfl) rfl) rfl) rfl) rfl) (congrArg Value.bool (or_t hp5)))
      · refine ox_y (sees_t rfl rfl rfl rfl hp5) (y_move_slice rfl) ?_
        refine ox_y (sees_t rfl rfl rfl rfl hp5) (y_len (us := []) us_41 rfl) ?_
        refine ox_y (sees_t rfl rfl rfl rfl hp5) (y_gtr rfl rfl) ?_
        refine ox_y rfl (y_pick_fb (congrArg Value.bool hp5) rfl) ?_
        exact key _ _ (keep (keep (keep (keep (keep (keep (keep rfl rfl) rfl) rfl) rfl) rfl) rfl) (congrArg Value.bool (or_f hp5)))
  · rcases bool_cases (!y2) with hp4 | hp4
    · refine ox_skip (sees_f rfl rfl rfl rfl hp4) ?_
      refine ox_skip (sees_f rfl rfl rfl rfl hp4) ?_
      refine ox_skip (sees_f rfl rfl rfl rfl hp4) ?_
      refine ox_y rfl (y_pick_tb (congrArg Value.bool hp4) rfl) ?_
      exact key _ _ (keep (keep (keep (keep (keep (keep (keep rfl rfl) rfl) rfl) rfl) rfl) rfl) (congrArg Value.bool (or_t hp4)))
    · refine ox_y (sees_t rfl rfl rfl rfl hp4) (y_move_slice rfl) ?_
      refine ox_y (sees_t rfl rfl rfl rfl hp4) (y_len (us := []) us_46 rfl) ?_
      refine ox_y (sees_t rfl rfl rfl rfl hp4) (y_gtr rfl rfl) ?_
      refine ox_y rfl (y_pick_fb (congrArg Value.bool hp4) rfl) ?_
      exact key _ _ (keep (keep (keep (keep (keep (keep (keep rfl rfl) rfl) rfl) rfl) rfl) rfl) (congrArg Value.bool (or_f hp4)))

end Go.Proofs.Ytndajeiecdmhnaa
