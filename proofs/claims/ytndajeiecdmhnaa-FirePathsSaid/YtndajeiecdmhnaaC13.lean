/- The calls hand back what the plain functions say. -/
import Derived.Test.YtndajeiecdmhnaaF
import Derived.Test.YtndajeiecdmhnaaGk
import Derived.Test.YtndajeiecdmhnaaGy
import Derived.Test.YtndajeiecdmhnaaC0
import Derived.Test.YtndajeiecdmhnaaC2
import Derived.Test.YtndajeiecdmhnaaC4
import Derived.Test.YtndajeiecdmhnaaC7
import Derived.Test.YtndajeiecdmhnaaC8
set_option linter.unusedVariables false
set_option maxHeartbeats 4000000
namespace Go.Proofs.Ytndajeiecdmhnaa
open Go.RowKit (Below)
attribute [local irreducible] OX QX CX EX OpY Calls CallsIn

/-! calx/calxlaw02.path -/
set_option maxRecDepth 100000 in
theorem calxlaw02_path_ok (p0_l : (List TSpot)) (res : Bool) (h : calxlaw02_path p0_l = some res) (W : World) (A0_0 : Option Addr) (n0_0 c0_0 : Nat) (hn0_0 : n0_0 = p0_l.length) (hr0_0 : Rd W A0_0 n0_0 c0_0 (encL TSpot_cells p0_l)) :
    Calls Try.prog 18 [.slice A0_0 n0_0 c0_0].toArray W fun e W2 => e = .returned (.bool res) ∧ Ext W W2 [] := by
  subst hn0_0
  unfold calxlaw02_path at h
  refine calls_enter (m := 16) Try.func18 rfl rfl (Nat.le_of_ble_eq_true rfl) ?_
  refine cx_seq ?_
  refine cx_region ?_
  refine ox_y rfl (y_assign_bool rfl) ?_
  refine ox_nil ?_
  refine ex_then ?_
  refine cx_seq ?_
  refine cx_region ?_
  refine ox_y rfl (y_move_slice rfl) ?_
  refine ox_y rfl (y_len (us := []) us_46 rfl) ?_
  refine ox_y rfl (y_leq rfl rfl) ?_
  refine ox_y rfl (y_move_bool rfl) ?_
  refine ox_join 9 (fun tm0 => (upd (upd tm0 2 (.bool false)) 15 (.bool ((decide (((p0_l.length : Nat) : Int) ≤ 40)) || ((decide (200 < ((p0_l.length : Nat) : Int))) && (decide (((p0_l.length : Nat) : Int) ≤ 230))))))) (fun tm0 => ?_) (fun key => ?_)
  · refine ox_y rfl (y_assign_bool rfl) ?_
    refine ox_nil ?_
    refine ex_then ?_
    refine cx_ret ?_
    obtain rfl := Option.some.inj h
    exact ex_res1 (.inl rfl) rfl (resV_tmp (v := .bool ((decide (((p0_l.length : Nat) : Int) ≤ 40)) || ((decide (200 < ((p0_l.length : Nat) : Int))) && (decide (((p0_l.length : Nat) : Int) ≤ 230))))) rfl) (fun W2 hW2 => ⟨rfl, hW2.none⟩)
  · rcases bool_cases (decide (((p0_l.length : Nat) : Int) ≤ 40)) with hp1 | hp1
    · refine ox_skip (sees_f rfl rfl rfl rfl hp1) ?_
      refine ox_skip (sees_f rfl rfl rfl rfl hp1) ?_
      refine ox_skip (sees_f rfl rfl rfl rfl hp1) ?_
      refine ox_skip (sees_f rfl rfl rfl rfl hp1) ?_
      refine ox_skip rfl ?_
      refine ox_skip rfl ?_
      refine ox_skip rfl ?_
      refine ox_skip (sees_f rfl rfl rfl rfl hp1) ?_
      refine ox_y rfl (y_pick_tb (congrArg Value.bool hp1) rfl) ?_
      exact key _ _ (keep (keep rfl rfl) (congrArg Value.bool (or_t hp1)))
    · refine ox_y (sees_t rfl rfl rfl rfl hp1) (y_move_slice rfl) ?_
      refine ox_y (sees_t rfl rfl rfl rfl hp1) (y_len (us := []) us_46 rfl) ?_
      refine ox_y (sees_t rfl rfl rfl rfl hp1) (y_gtr rfl rfl) ?_
      refine ox_y (sees_t rfl rfl rfl rfl hp1) (y_move_bool rfl) ?_
      refine ox_join 4 (fun tm0 => (upd (upd (upd tm0 2 (.bool false)) 6 (.bool (decide (((p0_l.length : Nat) : Int) ≤ 40)))) 14 (.bool ((decide (200 < ((p0_l.length : Nat) : Int))) && (decide (((p0_l.length : Nat) : Int) ≤ 230)))))) (fun tm0 => ?_) (fun key => ?_)
      · refine ox_y rfl (y_pick_fb (congrArg Value.bool hp1) rfl) ?_
        exact key _ _ (keep (keep rfl rfl) (congrArg Value.bool (or_f hp1)))
      · rcases bool_cases (decide (200 < ((p0_l.length : Nat) : Int))) with hp2 | hp2
        · refine ox_y (sees_t rfl rfl rfl rfl hp2) (y_move_slice rfl) ?_
          refine ox_y (sees_t rfl rfl rfl rfl hp2) (y_len (us := []) us_46 rfl) ?_
          refine ox_y (sees_t rfl rfl rfl rfl hp2) (y_leq rfl rfl) ?_
          refine ox_y (sees_t rfl rfl rfl rfl hp1) (y_pick_tb (congrArg Value.bool hp2) rfl) ?_
          exact key _ _ (keep (keep (keep rfl rfl) rfl) (congrArg Value.bool (and_t hp2)))
        · refine ox_skip (sees_f rfl rfl rfl rfl hp2) ?_
          refine ox_skip (sees_f rfl rfl rfl rfl hp2) ?_
          refine ox_skip (sees_f rfl rfl rfl rfl hp2) ?_
          refine ox_y (sees_t rfl rfl rfl rfl hp1) (y_pick_fb (congrArg Value.bool hp2) rfl) ?_
          exact key _ _ (keep (keep (keep rfl rfl) rfl) (congrArg Value.bool (and_f hp2)))

/-! calx/calxref02.CheckPath -/
set_option maxRecDepth 100000 in
theorem calxref02_CheckPath_ok (p0_l : (List TSpot)) (res : Int) (h : calxref02_CheckPath p0_l = some res) (W : World) (A0_0 : Option Addr) (n0_0 c0_0 : Nat) (hn0_0 : n0_0 = p0_l.length) (hr0_0 : Rd W A0_0 n0_0 c0_0 (encL TSpot_cells p0_l)) :
    Calls Try.prog 26 [.slice A0_0 n0_0 c0_0].toArray W fun e W2 => e = .returned (.int .i64 res) ∧ Ext W W2 [] := by
  subst hn0_0
  unfold calxref02_CheckPath at h
  refine calls_enter (m := 44) Try.func26 rfl rfl (Nat.le_of_ble_eq_true rfl) ?_
  refine cx_seq ?_
  refine cx_region ?_
  refine ox_y rfl (y_assign_int rfl) ?_
  refine ox_nil ?_
  refine ex_then ?_
  refine cx_seq ?_
  refine cx_seq ?_
  refine cx_region ?_
  refine ox_y rfl (y_move_slice rfl) ?_
  refine ox_y rfl (y_len (us := []) us_46 rfl) ?_
  refine ox_y rfl (y_gtr rfl rfl) ?_
  refine ox_nil ?_
  refine ex_then ?_
  rcases ite_some h with ⟨hp1, h⟩ | ⟨hp1, h⟩
  · refine cx_true (congrArg Value.bool hp1) ?_
    refine cx_seq ?_
    refine cx_region ?_
    refine ox_y rfl (y_assign_int rfl) ?_
    refine ox_nil ?_
    refine ex_then ?_
    refine cx_ret ?_
    refine ex_then_ret ?_
    obtain rfl := Option.some.inj h
    exact ex_res1 (.inl rfl) rfl (resV_tmp (v := .int .i64 2) rfl) (fun W2 hW2 => ⟨rfl, hW2.none⟩)
  · refine cx_false (congrArg Value.bool hp1) ?_
    refine cx_skip ?_
    refine ex_then ?_
    refine cx_seq ?_
    refine cx_seq ?_
    refine cx_region ?_
    refine ox_y rfl (y_move_slice rfl) ?_
    refine ox_y rfl (y_len (us := []) us_46 rfl) ?_
    refine ox_y rfl (y_eql rfl rfl) ?_
    refine ox_nil ?_
    refine ex_then ?_
    rcases ite_some h with ⟨hp2, h⟩ | ⟨hp2, h⟩
    · refine cx_true (congrArg Value.bool hp2) ?_
      refine cx_seq ?_
      refine cx_region ?_
      refine ox_y rfl (y_assign_int rfl) ?_
      refine ox_nil ?_
      refine ex_then ?_
      refine cx_ret ?_
      refine ex_then_ret ?_
      obtain rfl := Option.some.inj h
      exact ex_res1 (.inl rfl) rfl (resV_tmp (v := .int .i64 1) rfl) (fun W2 hW2 => ⟨rfl, hW2.none⟩)
    · refine cx_false (congrArg Value.bool hp2) ?_
      refine cx_skip ?_
      refine ex_then ?_
      refine cx_seq ?_
      refine cx_seq ?_
      refine cx_region ?_
      refine ox_y rfl (y_assign_int rfl) ?_
      refine ox_nil ?_
      refine ex_then ?_
      refine cx_block ?_
      obtain ⟨u5, hl19, h⟩ := bind_some h
      refine cx_loop (fun (s : (Int × Int)) L tm => ∃ (tm0 : Nat → Value), L = [] ∧ tm = (upd (upd (upd (upd (upd tm0 0 (.slice A0_0 p0_l.length c0_0)) 2 (.int .i64 s.1)) 7 (.bool (decide (200 < ((p0_l.length : Nat) : Int))))) 10 (.bool (((p0_l.length : Nat) : Int) == 0))) 3 (.int .i64 s.2))) (fun | (.inl s), e, L, tm => e = .ret ∧ ∃ (tm0 : Nat → Value), L = [] ∧ tm = (upd (upd (upd (upd (upd tm0 0 (.slice A0_0 p0_l.length c0_0)) 2 (.int .i64 s.1)) 7 (.bool (decide (200 < ((p0_l.length : Nat) : Int))))) 10 (.bool (((p0_l.length : Nat) : Int) == 0))) 3 (.int .i64 s.2)) | (.inr s), e, L, tm => e = .exit 0 ∧ ∃ (tm0 : Nat → Value), L = [] ∧ tm = (upd (upd (upd (upd (upd tm0 0 (.slice A0_0 p0_l.length c0_0)) 2 (.int .i64 s.1)) 7 (.bool (decide (200 < ((p0_l.length : Nat) : Int))))) 10 (.bool (((p0_l.length : Nat) : Int) == 0))) 3 (.int .i64 s.2))) hl19 ⟨_, rfl, (keep (keep (keep (keep (keep rfl rfl) rfl) rfl) rfl) rfl)⟩ ?_ ?_
      · rintro s4 L tm st ⟨tm0_s4, rfl, rfl⟩ h
        unfold calxref02_CheckPath_l1 at h
        refine cx_seq ?_
        refine cx_seq ?_
        refine cx_region ?_
        refine ox_y rfl (y_move_int rfl) ?_
        refine ox_y rfl (y_move_slice rfl) ?_
        refine ox_y rfl (y_len (us := []) us_46 rfl) ?_
        refine ox_y rfl (y_lss rfl rfl) ?_
        refine ox_nil ?_
        refine ex_then ?_
        rcases ite_some h with ⟨hp6, h⟩ | ⟨hp6, h⟩
        · refine cx_true (congrArg Value.bool hp6) ?_
          refine cx_skip ?_
          refine ex_then ?_
          refine cx_seq ?_
          refine cx_block ?_
          refine cx_seq ?_
          refine cx_region ?_
          refine ox_y rfl (y_move_slice rfl) ?_
          refine ox_y rfl (y_move_int rfl) ?_
          obtain ⟨hg7, h⟩ := guardO_some h
          refine ox_y rfl (y_indexR sl_46 (by decide) hg7.1 hg7.2 (RdL.arg hr0_0) (encL_len TSpot_cells_len rfl) rfl rfl) ?_
          refine ox_y rfl (y_loadRN (A := A0_0) (j := (Int.toNat s4.2 * 2)) [.int .i64 ((rdL p0_l s4.2).fFoot), .int .i64 ((rdL p0_l s4.2).fHour)] ag_26 (Nat.succ_pos _) (RdL.arg hr0_0) rfl (encL_gets TSpot_cells_len hg7.1 (lt_nat hg7.2 rfl))) ?_
          obtain ⟨y8, hy9, h⟩ := bind_some h
          refine ox_y rfl (y_call [.agg #[.int .i64 ((rdL p0_l s4.2).fFoot), .int .i64 ((rdL p0_l s4.2).fHour)]] go_71 rfl (fun W2 hW2 => calxref02_Spot_ok (TSpot.mk ((rdL p0_l s4.2).fFoot) ((rdL p0_l s4.2).fHour)) y8 hy9 W2 ) rfl) ?_
          refine ox_y rfl (y_assign_bool rfl) ?_
          refine ox_nil ?_
          refine ex_then ?_
          refine cx_seq ?_
          refine cx_draws 22 mixed (by kernel_rfl) (by kernel_rfl) ?_
          refine qx_y rfl (y_move_bool rfl) ?_
          refine qx_y rfl (y_not rfl) ?_
          refine qx_y rfl (y_move_bool rfl) ?_
          obtain ⟨b11, hb12, h⟩ := bind_some h
          refine qx_join 19 (fun tm0 => (upd (upd (upd (upd (upd (upd (upd (upd tm0 0 (.slice A0_0 p0_l.length c0_0)) 2 (.int .i64 s4.1)) 7 (.bool (decide (200 < ((p0_l.length : Nat) : Int))))) 10 (.bool (((p0_l.length : Nat) : Int) == 0))) 3 (.int .i64 s4.2)) 14 (.bool (decide (s4.2 < ((p0_l.length : Nat) : Int))))) 4 (.bool y8)) 43 (.bool b11))) (fun tm0 => ?_) (fun key => ?_)
          · refine qx_nil ?_
            refine ox_nil ?_
            refine ex_then ?_
            rcases ite_some h with ⟨hp13, h⟩ | ⟨hp13, h⟩
            · refine cx_true (congrArg Value.bool hp13) ?_
              refine cx_seq ?_
              refine cx_region ?_
              refine ox_y rfl (y_assign_int rfl) ?_
              refine ox_nil ?_
              refine ex_then ?_
              refine cx_ret ?_
              refine ex_block_ret ?_
              refine ex_then_ret ?_
              obtain rfl := Option.some.inj h
              exact ex_stop ⟨rfl, _, rfl, (keep (keep (keep (keep (keep rfl rfl) rfl) rfl) rfl) rfl)⟩
            · refine cx_false (congrArg Value.bool hp13) ?_
              refine cx_skip ?_
              refine ex_block ?_
              refine ex_then ?_
              refine cx_region ?_
              refine ox_y rfl (y_move_int rfl) ?_
              refine ox_y rfl (y_add rfl rfl) ?_
              refine ox_y rfl (y_assign_int rfl) ?_
              refine ox_nil ?_
              obtain rfl := Option.some.inj h
              exact ex_next ⟨_, rfl, (keep (keep (keep (keep (keep rfl rfl) rfl) rfl) rfl) rfl)⟩
          · clear h; rcases ite_some hb12 with ⟨hp10, h⟩ | ⟨hp10, h⟩
            · refine qx_skip (sees_f rfl rfl rfl rfl hp10) ?_
              refine qx_skip (sees_f rfl rfl rfl rfl hp10) ?_
              refine qx_skip (sees_f rfl rfl rfl rfl hp10) ?_
              refine qx_skip rfl ?_
              refine qx_skip rfl ?_
              refine qx_skip rfl ?_
              refine qx_skip rfl ?_
              refine qx_skip rfl ?_
              refine qx_skip rfl ?_
              refine qx_skip rfl ?_
              refine qx_skip rfl ?_
              refine qx_skip rfl ?_
              refine qx_skip rfl ?_
              refine qx_skip rfl ?_
              refine qx_skip rfl ?_
              refine qx_skip rfl ?_
              refine qx_skip rfl ?_
              refine qx_skip (sees_f rfl rfl rfl rfl hp10) ?_
              refine qx_y rfl (y_pick_tb (congrArg Value.bool hp10) rfl) ?_
              obtain rfl := Option.some.inj h
              exact key _ _ (keep (keep (keep (keep (keep (keep (keep (keep rfl rfl) rfl) rfl) rfl) rfl) rfl) rfl) rfl)
            · refine qx_y (sees_t rfl rfl rfl rfl hp10) (y_move_int rfl) ?_
              refine qx_y (sees_t rfl rfl rfl rfl hp10) (y_gtr rfl rfl) ?_
              refine qx_y (sees_t rfl rfl rfl rfl hp10) (y_move_bool rfl) ?_
              obtain ⟨b15, hb16, h⟩ := bind_some h
              refine qx_join 15 (fun tm0 => (upd (upd (upd (upd (upd (upd (upd (upd (upd tm0 0 (.slice A0_0 p0_l.length c0_0)) 2 (.int .i64 s4.1)) 7 (.bool (decide (200 < ((p0_l.length : Nat) : Int))))) 10 (.bool (((p0_l.length : Nat) : Int) == 0))) 3 (.int .i64 s4.2)) 14 (.bool (decide (s4.2 < ((p0_l.length : Nat) : Int))))) 4 (.bool y8)) 24 (.bool (!y8))) 42 (.bool b15))) (fun tm0 => ?_) (fun key => ?_)
              · refine qx_y rfl (y_pick_fb (congrArg Value.bool hp10) rfl) ?_
                obtain rfl := Option.some.inj h
                exact key _ _ (keep (keep (keep (keep (keep (keep (keep (keep rfl rfl) rfl) rfl) rfl) rfl) rfl) rfl) rfl)
              · clear h; rcases ite_some hb16 with ⟨hp14, h⟩ | ⟨hp14, h⟩
                · refine qx_y (sees_t rfl rfl rfl rfl hp14) (y_move_slice rfl) ?_
                  refine qx_y (sees_t rfl rfl rfl rfl hp14) (y_move_int rfl) ?_
                  obtain ⟨hg17, h⟩ := guardO_some h
                  refine qx_y (sees_t rfl rfl rfl rfl hp14) (y_indexR sl_46 (by decide) hg17.1 hg17.2 (RdL.arg hr0_0) (encL_len TSpot_cells_len rfl) rfl rfl) ?_
                  refine qx_y (sees_t rfl rfl rfl rfl hp14) (y_fieldAddrR (A := A0_0) (j := (Int.toNat s4.2 * 2)) fo_26_1 rfl) ?_
                  refine qx_y (sees_t rfl rfl rfl rfl hp14) (y_loadR1 (A := A0_0) (j := ((Int.toNat s4.2 * 2) + 1)) (v := .int .i64 ((rdL p0_l s4.2).fHour)) sc_3 (RdL.arg hr0_0) rfl (encL_get TSpot_cells_len hg17.1 (lt_nat hg17.2 rfl) rfl)) ?_
                  refine qx_y (sees_t rfl rfl rfl rfl hp14) (y_move_slice rfl) ?_
                  refine qx_y (sees_t rfl rfl rfl rfl hp14) (y_move_int rfl) ?_
                  refine qx_y (sees_t rfl rfl rfl rfl hp14) (y_sub rfl rfl) ?_
                  refine qx_y (sees_t rfl rfl rfl rfl hp14) (y_max rfl rfl) ?_
                  obtain ⟨hg18, h⟩ := guardO_some h
                  refine qx_y (sees_t rfl rfl rfl rfl hp14) (y_indexR sl_46 (by decide) hg18.1 hg18.2 (RdL.arg hr0_0) (encL_len TSpot_cells_len rfl) rfl rfl) ?_
                  refine qx_y (sees_t rfl rfl rfl rfl hp14) (y_fieldAddrR (A := A0_0) (j := (Int.toNat (max 0 (w64 (s4.2 - 1))) * 2)) fo_26_1 rfl) ?_
                  refine qx_y (sees_t rfl rfl rfl rfl hp14) (y_loadR1 (A := A0_0) (j := ((Int.toNat (max 0 (w64 (s4.2 - 1))) * 2) + 1)) (v := .int .i64 ((rdL p0_l (max 0 (w64 (s4.2 - 1)))).fHour)) sc_3 (RdL.arg hr0_0) rfl (encL_get TSpot_cells_len hg18.1 (lt_nat hg18.2 rfl) rfl)) ?_
                  refine qx_y (sees_t rfl rfl rfl rfl hp14) (y_add rfl rfl) ?_
                  refine qx_y (sees_t rfl rfl rfl rfl hp14) (y_neq rfl rfl) ?_
                  refine qx_y (sees_t rfl rfl rfl rfl hp10) (y_pick_tb (congrArg Value.bool hp14) rfl) ?_
                  obtain rfl := Option.some.inj h
                  exact key _ _ (keep (keep (keep (keep (keep (keep (keep (keep (keep rfl rfl) rfl) rfl) rfl) rfl) rfl) rfl) rfl) rfl)
                · refine qx_skip (sees_f rfl rfl rfl rfl hp14) ?_
                  refine qx_skip (sees_f rfl rfl rfl rfl hp14) ?_
                  refine qx_skip (sees_f rfl rfl rfl rfl hp14) ?_
                  refine qx_skip (sees_f rfl rfl rfl rfl hp14) ?_
                  refine qx_skip (sees_f rfl rfl rfl rfl hp14) ?_
                  refine qx_skip (sees_f rfl rfl rfl rfl hp14) ?_
                  refine qx_skip (sees_f rfl rfl rfl rfl hp14) ?_
                  refine qx_skip (sees_f rfl rfl rfl rfl hp14) ?_
                  refine qx_skip (sees_f rfl rfl rfl rfl hp14) ?_
                  refine qx_skip (sees_f rfl rfl rfl rfl hp14) ?_
                  refine qx_skip (sees_f rfl rfl rfl rfl hp14) ?_
                  refine qx_skip (sees_f rfl rfl rfl rfl hp14) ?_
                  refine qx_skip (sees_f rfl rfl rfl rfl hp14) ?_
                  refine qx_skip (sees_f rfl rfl rfl rfl hp14) ?_
                  refine qx_y (sees_t rfl rfl rfl rfl hp10) (y_pick_fb (congrArg Value.bool hp14) rfl) ?_
                  obtain rfl := Option.some.inj h
                  exact key _ _ (keep (keep (keep (keep (keep (keep (keep (keep (keep rfl rfl) rfl) rfl) rfl) rfl) rfl) rfl) rfl) rfl)
        · refine cx_false (congrArg Value.bool hp6) ?_
          refine cx_exit ?_
          refine ex_then_exit ?_
          obtain rfl := Option.some.inj h
          exact ex_stop ⟨rfl, _, rfl, (keep (keep (keep (keep (keep rfl rfl) rfl) rfl) rfl) rfl)⟩
      · intro e L tm hJ
        rcases u5 with u20 | u21
        · dsimp only at h hJ
          obtain ⟨rfl, tm0_u20, rfl, rfl⟩ := hJ
          refine ⟨(by intro hc; cases hc), ?_⟩
          refine ex_block_ret ?_
          refine ex_then_ret ?_
          obtain rfl := Option.some.inj h
          exact ex_res1 (.inl rfl) rfl (resV_tmp (v := .int .i64 u20.1) rfl) (fun W2 hW2 => ⟨rfl, hW2.none⟩)
        · dsimp only at h hJ
          obtain ⟨rfl, tm0_u21, rfl, rfl⟩ := hJ
          refine ⟨(by intro hc; cases hc), ?_⟩
          refine ex_block_here ?_
          refine ex_then ?_
          refine cx_seq ?_
          refine cx_region ?_
          refine ox_y rfl (y_assign_int rfl) ?_
          refine ox_nil ?_
          refine ex_then ?_
          refine cx_ret ?_
          obtain rfl := Option.some.inj h
          exact ex_res1 (.inl rfl) rfl (resV_tmp (v := .int .i64 0) rfl) (fun W2 hW2 => ⟨rfl, hW2.none⟩)

/-! calx/calxref02.sunk -/
set_option maxRecDepth 100000 in
theorem calxref02_sunk_ok (p0_f : TFire) (p1_path : (List TSpot)) (p2_need : Int) (res : Int) (h : calxref02_sunk p0_f p1_path p2_need = some res) (W : World) (A0_4 : Option Addr) (n0_4 c0_4 : Nat) (hn0_4 : n0_4 = p0_f.fLooks.length) (hr0_4 : Rd W A0_4 n0_4 c0_4 (encL TLook_cells p0_f.fLooks)) (A1_0 : Option Addr) (n1_0 c1_0 : Nat) (hn1_0 : n1_0 = p1_path.length) (hr1_0 : Rd W A1_0 n1_0 c1_0 (encL TSpot_cells p1_path)) :
    Calls Try.prog 66 [.agg #[.int .i64 p0_f.fRise, .int .i64 p0_f.fFall, .int .i64 p0_f.fUp, .int .i64 p0_f.fDown, .slice A0_4 n0_4 c0_4], .slice A1_0 n1_0 c1_0, .int .i64 p2_need].toArray W fun e W2 => e = .returned (.int .i64 res) ∧ Ext W W2 [] := by
  subst hn0_4
  subst hn1_0
  unfold calxref02_sunk at h
  refine calls_enter (m := 29) Try.func66 rfl rfl (Nat.le_of_ble_eq_true rfl) ?_
  refine cx_seq ?_
  refine cx_region ?_
  refine ox_box [.int .i64 p0_f.fRise, .int .i64 p0_f.fFall, .int .i64 p0_f.fUp, .int .i64 p0_f.fDown, .slice A0_4 p0_f.fLooks.length c0_4] rfl rfl rfl (fun b1 => ?_)
  refine ox_y rfl (y_assign_int rfl) ?_
  refine ox_nil ?_
  refine ex_then ?_
  refine cx_seq ?_
  refine cx_region ?_
  refine ox_y rfl (y_loadN 0 [.int .i64 p0_f.fRise, .int .i64 p0_f.fFall, .int .i64 p0_f.fUp, .int .i64 p0_f.fDown, .slice A0_4 p0_f.fLooks.length c0_4] ag_24 rfl rfl rfl) ?_
  obtain ⟨y2, hy3, h⟩ := bind_some h
  refine ox_y rfl (y_call [.agg #[.int .i64 p0_f.fRise, .int .i64 p0_f.fFall, .int .i64 p0_f.fUp, .int .i64 p0_f.fDown, .slice A0_4 p0_f.fLooks.length c0_4]] go_35 rfl (fun W2 hW2 => calxref02_Check_ok p0_f y2 hy3 W2 A0_4 p0_f.fLooks.length c0_4 rfl ((RdL.arg hr0_4) W2 hW2)) rfl) ?_
  refine ox_y rfl (y_assign_int rfl) ?_
  refine ox_nil ?_
  refine ex_then ?_
  refine cx_seq ?_
  refine cx_seq ?_
  refine cx_region ?_
  refine ox_y rfl (y_move_int rfl) ?_
  refine ox_y rfl (y_neq rfl rfl) ?_
  refine ox_nil ?_
  refine ex_then ?_
  rcases ite_some h with ⟨hp4, h⟩ | ⟨hp4, h⟩
  · refine cx_true (congrArg Value.bool hp4) ?_
    refine cx_seq ?_
    refine cx_region ?_
    refine ox_y rfl (y_move_int rfl) ?_
    refine ox_y rfl (y_assign_int rfl) ?_
    refine ox_nil ?_
    refine ex_then ?_
    refine cx_ret ?_
    refine ex_then_ret ?_
    obtain rfl := Option.some.inj h
    exact ex_res1 (.inl rfl) rfl (resV_tmp (v := .int .i64 y2) rfl) (fun W2 hW2 => ⟨rfl, hW2.none⟩)
  · refine cx_false (congrArg Value.bool hp4) ?_
    refine cx_skip ?_
    refine ex_then ?_
    refine cx_seq ?_
    refine cx_region ?_
    refine ox_y rfl (y_move_slice rfl) ?_
    obtain ⟨y5, hy6, h⟩ := bind_some h
    refine ox_y rfl (y_call [.slice A1_0 p1_path.length c1_0] go_26 rfl (fun W2 hW2 => calxref02_CheckPath_ok p1_path y5 hy6 W2 A1_0 p1_path.length c1_0 rfl ((RdL.arg hr1_0) W2 hW2)) rfl) ?_
    refine ox_y rfl (y_assign_int rfl) ?_
    refine ox_nil ?_
    refine ex_then ?_
    refine cx_seq ?_
    refine cx_seq ?_
    refine cx_region ?_
    refine ox_y rfl (y_move_int rfl) ?_
    refine ox_y rfl (y_neq rfl rfl) ?_
    refine ox_nil ?_
    refine ex_then ?_
    rcases ite_some h with ⟨hp7, h⟩ | ⟨hp7, h⟩
    · refine cx_true (congrArg Value.bool hp7) ?_
      refine cx_seq ?_
      refine cx_region ?_
      refine ox_y rfl (y_move_int rfl) ?_
      refine ox_y rfl (y_assign_int rfl) ?_
      refine ox_nil ?_
      refine ex_then ?_
      refine cx_ret ?_
      refine ex_then_ret ?_
      obtain rfl := Option.some.inj h
      exact ex_res1 (.inl rfl) rfl (resV_tmp (v := .int .i64 y5) rfl) (fun W2 hW2 => ⟨rfl, hW2.none⟩)
    · refine cx_false (congrArg Value.bool hp7) ?_
      refine cx_skip ?_
      refine ex_then ?_
      refine cx_seq ?_
      refine cx_region ?_
      refine ox_y rfl (y_move_int rfl) ?_
      obtain ⟨y8, hy9, h⟩ := bind_some h
      refine ox_y rfl (y_call [.int .i64 p2_need] go_106 rfl (fun W2 hW2 => calxref02_Heat_ok p2_need y8 hy9 W2 ) rfl) ?_
      refine ox_y rfl (y_assign_bool rfl) ?_
      refine ox_nil ?_
      refine ex_then ?_
      refine cx_seq ?_
      refine cx_seq ?_
      refine cx_region ?_
      refine ox_y rfl (y_move_bool rfl) ?_
      refine ox_y rfl (y_not rfl) ?_
      refine ox_nil ?_
      refine ex_then ?_
      rcases ite_some h with ⟨hp10, h⟩ | ⟨hp10, h⟩
      · refine cx_true (congrArg Value.bool hp10) ?_
        refine cx_seq ?_
        refine cx_region ?_
        refine ox_y rfl (y_assign_int rfl) ?_
        refine ox_nil ?_
        refine ex_then ?_
        refine cx_ret ?_
        refine ex_then_ret ?_
        obtain rfl := Option.some.inj h
        exact ex_res1 (.inl rfl) rfl (resV_tmp (v := .int .i64 1) rfl) (fun W2 hW2 => ⟨rfl, hW2.none⟩)
      · refine cx_false (congrArg Value.bool hp10) ?_
        refine cx_skip ?_
        refine ex_then ?_
        refine cx_seq ?_
        refine cx_region ?_
        refine ox_y rfl (y_loadN 0 [.int .i64 p0_f.fRise, .int .i64 p0_f.fFall, .int .i64 p0_f.fUp, .int .i64 p0_f.fDown, .slice A0_4 p0_f.fLooks.length c0_4] ag_24 rfl rfl rfl) ?_
        obtain ⟨y11, hy12, h⟩ := bind_some h
        refine ox_y rfl (y_call [.agg #[.int .i64 p0_f.fRise, .int .i64 p0_f.fFall, .int .i64 p0_f.fUp, .int .i64 p0_f.fDown, .slice A0_4 p0_f.fLooks.length c0_4]] go_76 rfl (fun W2 hW2 => calxref02_agree_ok p0_f y11 hy12 W2 A0_4 p0_f.fLooks.length c0_4 rfl ((RdL.arg hr0_4) W2 hW2)) rfl) ?_
        refine ox_y rfl (y_assign_bool rfl) ?_
        refine ox_nil ?_
        refine ex_then ?_
        refine cx_seq ?_
        refine cx_seq ?_
        refine cx_region ?_
        refine ox_y rfl (y_move_bool rfl) ?_
        refine ox_y rfl (y_not rfl) ?_
        refine ox_nil ?_
        refine ex_then ?_
        rcases ite_some h with ⟨hp13, h⟩ | ⟨hp13, h⟩
        · refine cx_true (congrArg Value.bool hp13) ?_
          refine cx_seq ?_
          refine cx_region ?_
          refine ox_y rfl (y_assign_int rfl) ?_
          refine ox_nil ?_
          refine ex_then ?_
          refine cx_ret ?_
          refine ex_then_ret ?_
          obtain rfl := Option.some.inj h
          exact ex_res1 (.inl rfl) rfl (resV_tmp (v := .int .i64 9) rfl) (fun W2 hW2 => ⟨rfl, hW2.none⟩)
        · refine cx_false (congrArg Value.bool hp13) ?_
          refine cx_skip ?_
          refine ex_then ?_
          refine cx_seq ?_
          refine cx_region ?_
          refine ox_y rfl (y_assign_int rfl) ?_
          refine ox_nil ?_
          refine ex_then ?_
          refine cx_ret ?_
          obtain rfl := Option.some.inj h
          exact ex_res1 (.inl rfl) rfl (resV_tmp (v := .int .i64 0) rfl) (fun W2 hW2 => ⟨rfl, hW2.none⟩)

/-! calx/calxref02.ends -/
set_option maxRecDepth 100000 in
theorem calxref02_ends_ok (p0_f : TFire) (p1_at : TSpot) (res : TSpan) (h : calxref02_ends p0_f p1_at = some res) (W : World) (A0_4 : Option Addr) (n0_4 c0_4 : Nat) (hn0_4 : n0_4 = p0_f.fLooks.length) (hr0_4 : Rd W A0_4 n0_4 c0_4 (encL TLook_cells p0_f.fLooks)) :
    Calls Try.prog 107 [.agg #[.int .i64 p0_f.fRise, .int .i64 p0_f.fFall, .int .i64 p0_f.fUp, .int .i64 p0_f.fDown, .slice A0_4 n0_4 c0_4], .agg #[.int .i64 p1_at.fFoot, .int .i64 p1_at.fHour]].toArray W fun e W2 => e = .returned (.agg #[.int .i64 res.fLo, .int .i64 res.fHi]) ∧ Ext W W2 [] := by
  subst hn0_4
  unfold calxref02_ends at h
  refine calls_enter (m := 48) Try.func107 rfl rfl (Nat.le_of_ble_eq_true rfl) ?_
  refine cx_seq ?_
  refine cx_region ?_
  refine ox_box [.int .i64 p0_f.fRise, .int .i64 p0_f.fFall, .int .i64 p0_f.fUp, .int .i64 p0_f.fDown, .slice A0_4 p0_f.fLooks.length c0_4] rfl rfl rfl (fun b1 => ?_)
  refine ox_box [.int .i64 p1_at.fFoot, .int .i64 p1_at.fHour] rfl rfl rfl (fun b2 => ?_)
  refine ox_alloc ze_32 rfl (fun b3 => ?_)
  refine ox_nil ?_
  refine ex_then ?_
  refine cx_seq ?_
  refine cx_region ?_
  refine ox_y rfl (y_buildS [.int .i64 0, .int .i64 1500] [(0, 1), (1, 1)] ust_32 ze_32 (by kernel_rfl)) ?_
  refine ox_alloc ze_32 rfl (fun b4 => ?_)
  refine ox_n rfl (y_storeN 3 [.int .i64 0, .int .i64 1500] sz_32 rfl (Nat.le_of_ble_eq_true rfl) rfl rfl rfl) ?_
  refine ox_nil ?_
  refine ex_then ?_
  refine cx_seq ?_
  refine cx_seq ?_
  refine cx_region ?_
  refine ox_y rfl (y_assign_int rfl) ?_
  refine ox_nil ?_
  refine ex_then ?_
  refine cx_block ?_
  obtain ⟨u8, hl16, h⟩ := bind_some h
  refine cx_loop (fun (s : (Int × Int × Int)) L tm => ∃ (tm0 : Nat → Value), L = [cellsR b1 24 [.int .i64 p0_f.fRise, .int .i64 p0_f.fFall, .int .i64 p0_f.fUp, .int .i64 p0_f.fDown, .slice A0_4 p0_f.fLooks.length c0_4], cellsR b2 26 [.int .i64 p1_at.fFoot, .int .i64 p1_at.fHour], cellsR b3 32 [.int .i64 0, .int .i64 0], cellsR b4 32 [.int .i64 s.2.1, .int .i64 s.2.2]] ∧ tm = (upd (upd (upd (upd (upd (upd (upd tm0 0 (.agg #[.int .i64 p0_f.fRise, .int .i64 p0_f.fFall, .int .i64 p0_f.fUp, .int .i64 p0_f.fDown, .slice A0_4 p0_f.fLooks.length c0_4])) 1 (.agg #[.int .i64 p1_at.fFoot, .int .i64 p1_at.fHour])) 2 (.pointer (some ⟨b1, 0, none⟩))) 3 (.pointer (some ⟨b2, 0, none⟩))) 4 (.pointer (some ⟨b3, 0, none⟩))) 5 (.pointer (some ⟨b4, 0, none⟩))) 6 (.int .i64 s.1))) (fun s e L tm => e = .exit 0 ∧ ∃ (tm0 : Nat → Value), L = [cellsR b1 24 [.int .i64 p0_f.fRise, .int .i64 p0_f.fFall, .int .i64 p0_f.fUp, .int .i64 p0_f.fDown, .slice A0_4 p0_f.fLooks.length c0_4], cellsR b2 26 [.int .i64 p1_at.fFoot, .int .i64 p1_at.fHour], cellsR b3 32 [.int .i64 0, .int .i64 0], cellsR b4 32 [.int .i64 s.2.1, .int .i64 s.2.2]] ∧ tm = (upd (upd (upd (upd (upd (upd (upd tm0 0 (.agg #[.int .i64 p0_f.fRise, .int .i64 p0_f.fFall, .int .i64 p0_f.fUp, .int .i64 p0_f.fDown, .slice A0_4 p0_f.fLooks.length c0_4])) 1 (.agg #[.int .i64 p1_at.fFoot, .int .i64 p1_at.fHour])) 2 (.pointer (some ⟨b1, 0, none⟩))) 3 (.pointer (some ⟨b2, 0, none⟩))) 4 (.pointer (some ⟨b3, 0, none⟩))) 5 (.pointer (some ⟨b4, 0, none⟩))) 6 (.int .i64 s.1))) hl16 ⟨_, rfl, (keep (keep (keep (keep (keep (keep (keep rfl rfl) rfl) rfl) rfl) rfl) rfl) rfl)⟩ ?_ ?_
  · rintro s7 L tm st ⟨tm0_s7, rfl, rfl⟩ h
    unfold calxref02_ends_l1 at h
    refine cx_seq ?_
    refine cx_seq ?_
    refine cx_region ?_
    refine ox_y rfl (y_move_int rfl) ?_
    refine ox_y rfl (y_fieldAddr fo_24_4 rfl) ?_
    refine ox_y rfl (y_load1 0 (v := .slice A0_4 p0_f.fLooks.length c0_4) sc_22 rfl rfl rfl) ?_
    refine ox_y rfl (y_len (us := []) us_22 rfl) ?_
    refine ox_y rfl (y_lss rfl rfl) ?_
    refine ox_nil ?_
    refine ex_then ?_
    rcases ite_some h with ⟨hp9, h⟩ | ⟨hp9, h⟩
    · refine cx_true (congrArg Value.bool hp9) ?_
      refine cx_skip ?_
      refine ex_then ?_
      refine cx_seq ?_
      refine cx_block ?_
      refine cx_seq ?_
      refine cx_region ?_
      refine ox_y rfl (y_fieldAddr fo_24_4 rfl) ?_
      refine ox_y rfl (y_load1 0 (v := .slice A0_4 p0_f.fLooks.length c0_4) sc_22 rfl rfl rfl) ?_
      refine ox_y rfl (y_move_int rfl) ?_
      obtain ⟨hg10, h⟩ := guardO_some h
      refine ox_y rfl (y_indexR sl_22 (by decide) hg10.1 hg10.2 (RdL.arg hr0_4) (encL_len TLook_cells_len rfl) rfl rfl) ?_
      refine ox_y rfl (y_loadRN (A := A0_4) (j := (Int.toNat s7.1 * 5)) [.int .i64 ((rdL p0_f.fLooks s7.1).fID), .int .i64 ((rdL p0_f.fLooks s7.1).fAt.fFoot), .int .i64 ((rdL p0_f.fLooks s7.1).fAt.fHour), .int .i64 ((rdL p0_f.fLooks s7.1).fHeat.fLo), .int .i64 ((rdL p0_f.fLooks s7.1).fHeat.fHi)] ag_34 (Nat.succ_pos _) (RdL.arg hr0_4) rfl (encL_gets TLook_cells_len hg10.1 (lt_nat hg10.2 rfl))) ?_
      refine ox_alloc ze_34 rfl (fun b11 => ?_)
      refine ox_n rfl (y_storeN 4 [.int .i64 ((rdL p0_f.fLooks s7.1).fID), .int .i64 ((rdL p0_f.fLooks s7.1).fAt.fFoot), .int .i64 ((rdL p0_f.fLooks s7.1).fAt.fHour), .int .i64 ((rdL p0_f.fLooks s7.1).fHeat.fLo), .int .i64 ((rdL p0_f.fLooks s7.1).fHeat.fHi)] sz_34 rfl (Nat.le_of_ble_eq_true rfl) rfl rfl rfl) ?_
      refine ox_nil ?_
      refine ex_then ?_
      refine cx_seq ?_
      refine cx_draws 13 mixed (by kernel_rfl) (by kernel_rfl) ?_
      refine qx_y rfl (y_fieldAddr fo_32_0 rfl) ?_
      refine qx_y rfl (y_load1 3 (v := .int .i64 s7.2.1) sc_3 rfl rfl rfl) ?_
      refine qx_y rfl (y_fieldAddr fo_34_2 rfl) ?_
      refine qx_y rfl (y_fieldAddr fo_32_0 rfl) ?_
      refine qx_y rfl (y_load1 4 (v := .int .i64 ((rdL p0_f.fLooks s7.1).fHeat.fLo)) sc_3 rfl rfl rfl) ?_
      refine qx_y rfl (y_loadN 0 [.int .i64 p0_f.fRise, .int .i64 p0_f.fFall, .int .i64 p0_f.fUp, .int .i64 p0_f.fDown, .slice A0_4 p0_f.fLooks.length c0_4] ag_24 rfl rfl rfl) ?_
      refine qx_y rfl (y_loadN 1 [.int .i64 p1_at.fFoot, .int .i64 p1_at.fHour] ag_26 rfl rfl rfl) ?_
      refine qx_y rfl (y_fieldAddr fo_34_1 rfl) ?_
      refine qx_y rfl (y_loadN 4 [.int .i64 ((rdL p0_f.fLooks s7.1).fAt.fFoot), .int .i64 ((rdL p0_f.fLooks s7.1).fAt.fHour)] ag_26 rfl rfl rfl) ?_
      obtain ⟨y12, hy13, h⟩ := bind_some h
      refine qx_y rfl (y_call [.agg #[.int .i64 p0_f.fRise, .int .i64 p0_f.fFall, .int .i64 p0_f.fUp, .int .i64 p0_f.fDown, .slice A0_4 p0_f.fLooks.length c0_4], .agg #[.int .i64 p1_at.fFoot, .int .i64 p1_at.fHour], .agg #[.int .i64 ((rdL p0_f.fLooks s7.1).fAt.fFoot), .int .i64 ((rdL p0_f.fLooks s7.1).fAt.fHour)]] go_74 rfl (fun W2 hW2 => calxref02_far_ok p0_f p1_at (TSpot.mk ((rdL p0_f.fLooks s7.1).fAt.fFoot) ((rdL p0_f.fLooks s7.1).fAt.fHour)) y12 hy13 W2 A0_4 p0_f.fLooks.length c0_4 rfl ((RdL.arg hr0_4) W2 hW2)) rfl) ?_
      refine qx_y rfl (y_sub rfl rfl) ?_
      refine qx_y rfl (y_max rfl rfl) ?_
      refine qx_y rfl (y_fieldAddr fo_32_0 rfl) ?_
      refine qx_nil ?_
      refine ox_n rfl (y_store1 3 (v := .int .i64 (max s7.2.1 (w64 (((rdL p0_f.fLooks s7.1).fHeat.fLo) - y12)))) sz_3 rfl (Nat.lt_of_lt_of_le (Nat.lt_succ_self _) (Nat.le_of_ble_eq_true rfl)) rfl rfl rfl) ?_
      refine ox_nil ?_
      refine ex_then ?_
      refine cx_draws 13 mixed (by kernel_rfl) (by kernel_rfl) ?_
      refine qx_y rfl (y_fieldAddr fo_32_1 rfl) ?_
      refine qx_y rfl (y_load1 3 (v := .int .i64 s7.2.2) sc_3 rfl rfl rfl) ?_
      refine qx_y rfl (y_fieldAddr fo_34_2 rfl) ?_
      refine qx_y rfl (y_fieldAddr fo_32_1 rfl) ?_
      refine qx_y rfl (y_load1 4 (v := .int .i64 ((rdL p0_f.fLooks s7.1).fHeat.fHi)) sc_3 rfl rfl rfl) ?_
      refine qx_y rfl (y_loadN 0 [.int .i64 p0_f.fRise, .int .i64 p0_f.fFall, .int .i64 p0_f.fUp, .int .i64 p0_f.fDown, .slice A0_4 p0_f.fLooks.length c0_4] ag_24 rfl rfl rfl) ?_
      refine qx_y rfl (y_fieldAddr fo_34_1 rfl) ?_
      refine qx_y rfl (y_loadN 4 [.int .i64 ((rdL p0_f.fLooks s7.1).fAt.fFoot), .int .i64 ((rdL p0_f.fLooks s7.1).fAt.fHour)] ag_26 rfl rfl rfl) ?_
      refine qx_y rfl (y_loadN 1 [.int .i64 p1_at.fFoot, .int .i64 p1_at.fHour] ag_26 rfl rfl rfl) ?_
      obtain ⟨y14, hy15, h⟩ := bind_some h
      refine qx_y rfl (y_call [.agg #[.int .i64 p0_f.fRise, .int .i64 p0_f.fFall, .int .i64 p0_f.fUp, .int .i64 p0_f.fDown, .slice A0_4 p0_f.fLooks.length c0_4], .agg #[.int .i64 ((rdL p0_f.fLooks s7.1).fAt.fFoot), .int .i64 ((rdL p0_f.fLooks s7.1).fAt.fHour)], .agg #[.int .i64 p1_at.fFoot, .int .i64 p1_at.fHour]] go_74 rfl (fun W2 hW2 => calxref02_far_ok p0_f (TSpot.mk ((rdL p0_f.fLooks s7.1).fAt.fFoot) ((rdL p0_f.fLooks s7.1).fAt.fHour)) p1_at y14 hy15 W2 A0_4 p0_f.fLooks.length c0_4 rfl ((RdL.arg hr0_4) W2 hW2)) rfl) ?_
      refine qx_y rfl (y_add rfl rfl) ?_
      refine qx_y rfl (y_min rfl rfl) ?_
      refine qx_y rfl (y_fieldAddr fo_32_1 rfl) ?_
      refine qx_nil ?_
      refine ox_n rfl (y_store1 3 (v := .int .i64 (min s7.2.2 (w64 (((rdL p0_f.fLooks s7.1).fHeat.fHi) + y14)))) sz_3 rfl (Nat.lt_of_lt_of_le (Nat.lt_succ_self _) (Nat.le_of_ble_eq_true rfl)) rfl rfl rfl) ?_
      refine ox_nil ?_
      refine ex_block ?_
      refine ex_then ?_
      refine cx_region ?_
      refine ox_y rfl (y_move_int rfl) ?_
      refine ox_y rfl (y_add rfl rfl) ?_
      refine ox_y rfl (y_assign_int rfl) ?_
      refine ox_nil ?_
      refine ex_take 4 ?_
      obtain rfl := Option.some.inj h
      exact ex_next ⟨_, rfl, (keep (keep (keep (keep (keep (keep (keep rfl rfl) rfl) rfl) rfl) rfl) rfl) rfl)⟩
    · refine cx_false (congrArg Value.bool hp9) ?_
      refine cx_exit ?_
      refine ex_then_exit ?_
      obtain rfl := Option.some.inj h
      exact ex_stop ⟨rfl, _, rfl, (keep (keep (keep (keep (keep (keep (keep rfl rfl) rfl) rfl) rfl) rfl) rfl) rfl)⟩
  · intro e L tm hJ
    obtain ⟨rfl, tm0_u8, rfl, rfl⟩ := hJ
    refine ⟨(by intro hc; cases hc), ?_⟩
    refine ex_block_here ?_
    refine ex_then ?_
    refine cx_seq ?_
    refine cx_region ?_
    refine ox_y rfl (y_loadN 3 [.int .i64 u8.2.1, .int .i64 u8.2.2] ag_32 rfl rfl rfl) ?_
    refine ox_n rfl (y_storeN 2 [.int .i64 u8.2.1, .int .i64 u8.2.2] sz_32 rfl (Nat.le_of_ble_eq_true rfl) rfl rfl rfl) ?_
    refine ox_nil ?_
    refine ex_then ?_
    refine cx_ret ?_
    obtain rfl := Option.some.inj h
    exact ex_res1 (.inl rfl) rfl (resV_cellN 2 [.int .i64 u8.2.1, .int .i64 u8.2.2] ag_32 rfl rfl rfl) (fun W2 hW2 => ⟨rfl, hW2.none⟩)

/-! calx/calxref02.along -/
set_option maxRecDepth 100000 in
theorem calxref02_along_ok (p0_f : TFire) (p1_path : (List TSpot)) (p2_high : Bool) (res : (List Int)) (h : calxref02_along p0_f p1_path p2_high = some res) (W : World) (A0_4 : Option Addr) (n0_4 c0_4 : Nat) (hn0_4 : n0_4 = p0_f.fLooks.length) (hr0_4 : Rd W A0_4 n0_4 c0_4 (encL TLook_cells p0_f.fLooks)) (A1_0 : Option Addr) (n1_0 c1_0 : Nat) (hn1_0 : n1_0 = p1_path.length) (hr1_0 : Rd W A1_0 n1_0 c1_0 (encL TSpot_cells p1_path)) :
    Calls Try.prog 67 [.agg #[.int .i64 p0_f.fRise, .int .i64 p0_f.fFall, .int .i64 p0_f.fUp, .int .i64 p0_f.fDown, .slice A0_4 n0_4 c0_4], .slice A1_0 n1_0 c1_0, .bool p2_high].toArray W fun e W2 => ∃ x : Option Addr × Nat × Nat, x.2.1 = res.length ∧ e = .returned (.slice x.1 x.2.1 x.2.2) ∧ Ext W W2 [rowR x.1 x.2.2 3 1 x.2.1 (encL cI res)] := by
  subst hn0_4
  subst hn1_0
  unfold calxref02_along at h
  refine calls_enter (m := 34) Try.func67 rfl rfl (Nat.le_of_ble_eq_true rfl) ?_
  refine cx_seq ?_
  refine cx_region ?_
  refine ox_box [.int .i64 p0_f.fRise, .int .i64 p0_f.fFall, .int .i64 p0_f.fUp, .int .i64 p0_f.fDown, .slice A0_4 p0_f.fLooks.length c0_4] rfl rfl rfl (fun b1 => ?_)
  refine ox_y rfl (y_assign_slice rfl) ?_
  refine ox_nil ?_
  refine ex_then ?_
  refine cx_seq ?_
  refine cx_region ?_
  refine ox_y rfl (y_assign_slice rfl) ?_
  refine ox_nil ?_
  refine ex_then ?_
  refine cx_seq ?_
  refine cx_seq ?_
  refine cx_region ?_
  refine ox_y rfl (y_assign_int rfl) ?_
  refine ox_nil ?_
  refine ex_then ?_
  refine cx_block ?_
  obtain ⟨u5, hl20, h⟩ := bind_some h
  refine cx_nilrow 3 1 ?_
  refine cx_loop (fun (s : (Int × (List Int))) L tm => ∃ (tm0 : Nat → Value) (A1_s : Option Addr) (c1_s : Nat) (n1_s : Nat), n1_s = s.2.length ∧ L = [cellsR b1 24 [.int .i64 p0_f.fRise, .int .i64 p0_f.fFall, .int .i64 p0_f.fUp, .int .i64 p0_f.fDown, .slice A0_4 p0_f.fLooks.length c0_4], rowR A1_s c1_s 3 1 n1_s (encL cI s.2)] ∧ tm = (upd (upd (upd (upd (upd (upd (upd tm0 0 (.agg #[.int .i64 p0_f.fRise, .int .i64 p0_f.fFall, .int .i64 p0_f.fUp, .int .i64 p0_f.fDown, .slice A0_4 p0_f.fLooks.length c0_4])) 1 (.slice A1_0 p1_path.length c1_0)) 2 (.bool p2_high)) 3 (.pointer (some ⟨b1, 0, none⟩))) 6 (.slice none 0 0)) 7 (.slice A1_s n1_s c1_s)) 8 (.int .i64 s.1))) (fun s e L tm => e = .exit 0 ∧ ∃ (tm0 : Nat → Value) (A1_s : Option Addr) (c1_s : Nat) (n1_s : Nat), n1_s = s.2.length ∧ L = [cellsR b1 24 [.int .i64 p0_f.fRise, .int .i64 p0_f.fFall, .int .i64 p0_f.fUp, .int .i64 p0_f.fDown, .slice A0_4 p0_f.fLooks.length c0_4], rowR A1_s c1_s 3 1 n1_s (encL cI s.2)] ∧ tm = (upd (upd (upd (upd (upd (upd (upd tm0 0 (.agg #[.int .i64 p0_f.fRise, .int .i64 p0_f.fFall, .int .i64 p0_f.fUp, .int .i64 p0_f.fDown, .slice A0_4 p0_f.fLooks.length c0_4])) 1 (.slice A1_0 p1_path.length c1_0)) 2 (.bool p2_high)) 3 (.pointer (some ⟨b1, 0, none⟩))) 6 (.slice none 0 0)) 7 (.slice A1_s n1_s c1_s)) 8 (.int .i64 s.1))) hl20 ⟨_, none, 0, 0, rfl, rfl, (keep (keep (keep (keep (keep (keep (keep rfl rfl) rfl) rfl) rfl) rfl) rfl) rfl)⟩ ?_ ?_
  · rintro s4 L tm st ⟨tm0_s4, A1_s4, c1_s4, n1_s4, rfl, rfl, rfl⟩ h
    unfold calxref02_along_l1 at h
    refine cx_seq ?_
    refine cx_seq ?_
    refine cx_region ?_
    refine ox_y rfl (y_move_int rfl) ?_
    refine ox_y rfl (y_move_slice rfl) ?_
    refine ox_y rfl (y_len (us := []) us_46 rfl) ?_
    refine ox_y rfl (y_lss rfl rfl) ?_
    refine ox_nil ?_
    refine ex_then ?_
    rcases ite_some h with ⟨hp6, h⟩ | ⟨hp6, h⟩
    · refine cx_true (congrArg Value.bool hp6) ?_
      refine cx_skip ?_
      refine ex_then ?_
      refine cx_seq ?_
      refine cx_block ?_
      refine cx_seq ?_
      refine cx_drawsA 6 mixed (by kernel_rfl) (by kernel_rfl) (by kernel_rfl) ?_
      refine ax_y rfl (fun _ => y_loadN 0 [.int .i64 p0_f.fRise, .int .i64 p0_f.fFall, .int .i64 p0_f.fUp, .int .i64 p0_f.fDown, .slice A0_4 p0_f.fLooks.length c0_4] ag_24 rfl rfl rfl) ?_
      refine ax_y rfl (fun _ => y_move_slice rfl) ?_
      refine ax_y rfl (fun _ => y_move_int rfl) ?_
      obtain ⟨hg7, h⟩ := guardO_some h
      refine ax_y rfl (fun _ => y_indexR sl_46 (by decide) hg7.1 hg7.2 (RdL.arg hr1_0) (encL_len TSpot_cells_len rfl) rfl rfl) ?_
      refine ax_y rfl (fun _ => y_loadRN (A := A1_0) (j := (Int.toNat s4.1 * 2)) [.int .i64 ((rdL p1_path s4.1).fFoot), .int .i64 ((rdL p1_path s4.1).fHour)] ag_26 (Nat.succ_pos _) (RdL.arg hr1_0) rfl (encL_gets TSpot_cells_len hg7.1 (lt_nat hg7.2 rfl))) ?_
      obtain ⟨y8, hy9, h⟩ := bind_some h
      refine ax_y rfl (fun _ => y_call [.agg #[.int .i64 p0_f.fRise, .int .i64 p0_f.fFall, .int .i64 p0_f.fUp, .int .i64 p0_f.fDown, .slice A0_4 p0_f.fLooks.length c0_4], .agg #[.int .i64 ((rdL p1_path s4.1).fFoot), .int .i64 ((rdL p1_path s4.1).fHour)]] go_107 rfl (fun W2 hW2 => calxref02_ends_ok p0_f (TSpot.mk ((rdL p1_path s4.1).fFoot) ((rdL p1_path s4.1).fHour)) y8 hy9 W2 A0_4 p0_f.fLooks.length c0_4 rfl ((RdL.arg hr0_4) W2 hW2)) rfl) ?_
      refine ax_nil rfl ze_32 (fun b10 => ?_)
      refine ox_n rfl (y_storeN 2 [.int .i64 y8.fLo, .int .i64 y8.fHi] sz_32 rfl (Nat.le_of_ble_eq_true rfl) rfl rfl rfl) ?_
      refine ox_nil ?_
      refine ex_only ?_
      refine ex_then ?_
      refine cx_seq ?_
      refine cx_region ?_
      refine ox_y rfl (y_move_bool rfl) ?_
      refine ox_nil ?_
      refine ex_then ?_
      rcases ite_some h with ⟨hp11, h⟩ | ⟨hp11, h⟩
      · refine cx_true (congrArg Value.bool hp11) ?_
        refine cx_region ?_
        refine ox_y rfl (y_move_slice rfl) ?_
        refine ox_y rfl (y_fieldAddr fo_32_1 rfl) ?_
        refine ox_y rfl (y_load1 2 (v := .int .i64 y8.fHi) sc_3 rfl rfl rfl) ?_
        refine ox_buildSliceE 1 (encL cI [y8.fHi]) _ mc_3_1 us_41 ze_3 by_3 (by decide) (by decide) (by kernel_rfl) (encL_len cI_len rfl) rfl (fun b12 => ?_)
        obtain ⟨hg15, h⟩ := guardO_some h
        refine ox_append0 1 us_41 ze_3 by_3 rfl rfl rfl (RdL.row 3 rfl) (encL_len cI_len rfl) (encL_one cI_one _) (app_room hg15 (by decide)) rfl (fun A13 c14 => ?_)
        refine ox_y rfl (y_assign_slice rfl) ?_
        refine ox_nil ?_
        refine ex_block ?_
        refine ex_then ?_
        refine cx_region ?_
        refine ox_y rfl (y_move_int rfl) ?_
        refine ox_y rfl (y_add rfl rfl) ?_
        refine ox_y rfl (y_assign_int rfl) ?_
        refine ox_nil ?_
        refine ex_take 2 ?_
        obtain rfl := Option.some.inj h
        exact ex_next ⟨_, A13, c14, (s4.2.length + 1), (hn_app rfl rfl), rfl, (keep (keep (keep (keep (keep (keep (keep rfl rfl) rfl) rfl) rfl) rfl) rfl) rfl)⟩
      · refine cx_false (congrArg Value.bool hp11) ?_
        refine cx_region ?_
        refine ox_y rfl (y_move_slice rfl) ?_
        refine ox_y rfl (y_fieldAddr fo_32_0 rfl) ?_
        refine ox_y rfl (y_load1 2 (v := .int .i64 y8.fLo) sc_3 rfl rfl rfl) ?_
        refine ox_buildSliceE 1 (encL cI [y8.fLo]) _ mc_3_1 us_41 ze_3 by_3 (by decide) (by decide) (by kernel_rfl) (encL_len cI_len rfl) rfl (fun b16 => ?_)
        obtain ⟨hg19, h⟩ := guardO_some h
        refine ox_append0 1 us_41 ze_3 by_3 rfl rfl rfl (RdL.row 3 rfl) (encL_len cI_len rfl) (encL_one cI_one _) (app_room hg19 (by decide)) rfl (fun A17 c18 => ?_)
        refine ox_y rfl (y_assign_slice rfl) ?_
        refine ox_nil ?_
        refine ex_block ?_
        refine ex_then ?_
        refine cx_region ?_
        refine ox_y rfl (y_move_int rfl) ?_
        refine ox_y rfl (y_add rfl rfl) ?_
        refine ox_y rfl (y_assign_int rfl) ?_
        refine ox_nil ?_
        refine ex_take 2 ?_
        obtain rfl := Option.some.inj h
        exact ex_next ⟨_, A17, c18, (s4.2.length + 1), (hn_app rfl rfl), rfl, (keep (keep (keep (keep (keep (keep (keep rfl rfl) rfl) rfl) rfl) rfl) rfl) rfl)⟩
    · refine cx_false (congrArg Value.bool hp6) ?_
      refine cx_exit ?_
      refine ex_then_exit ?_
      obtain rfl := Option.some.inj h
      exact ex_stop ⟨rfl, _, A1_s4, c1_s4, s4.2.length, rfl, rfl, (keep (keep (keep (keep (keep (keep (keep rfl rfl) rfl) rfl) rfl) rfl) rfl) rfl)⟩
  · intro e L tm hJ
    obtain ⟨rfl, tm0_u5, A1_u5, c1_u5, n1_u5, rfl, rfl, rfl⟩ := hJ
    refine ⟨(by intro hc; cases hc), ?_⟩
    refine ex_block_here ?_
    refine ex_then ?_
    refine cx_seq ?_
    refine cx_region ?_
    refine ox_y rfl (y_move_slice rfl) ?_
    refine ox_y rfl (y_assign_slice rfl) ?_
    refine ox_nil ?_
    refine ex_then ?_
    refine cx_ret ?_
    obtain rfl := Option.some.inj h
    exact ex_res1 (.inl rfl) rfl (resV_tmp (v := .slice A1_u5 u5.2.length c1_u5) rfl) (fun W2 hW2 => ⟨(A1_u5, u5.2.length, c1_u5), rfl, rfl, (hW2.pick 1 rfl)⟩)

/-! calx/calxref02.Burnt -/
set_option maxRecDepth 100000 in
theorem calxref02_Burnt_ok (p0_f : TFire) (p1_path : (List TSpot)) (p2_need : Int) (res : TBurnings) (h : calxref02_Burnt p0_f p1_path p2_need = some res) (W : World) (A0_4 : Option Addr) (n0_4 c0_4 : Nat) (hn0_4 : n0_4 = p0_f.fLooks.length) (hr0_4 : Rd W A0_4 n0_4 c0_4 (encL TLook_cells p0_f.fLooks)) (A1_0 : Option Addr) (n1_0 c1_0 : Nat) (hn1_0 : n1_0 = p1_path.length) (hr1_0 : Rd W A1_0 n1_0 c1_0 (encL TSpot_cells p1_path)) :
    Calls Try.prog 20 [.agg #[.int .i64 p0_f.fRise, .int .i64 p0_f.fFall, .int .i64 p0_f.fUp, .int .i64 p0_f.fDown, .slice A0_4 n0_4 c0_4], .slice A1_0 n1_0 c1_0, .int .i64 p2_need].toArray W fun e W2 => e = .returned (.agg #[.int .i64 res.fLeast.fHours, .int .i64 res.fLeast.fRow, .int .i64 res.fLeast.fSum, .int .i64 res.fMost.fHours, .int .i64 res.fMost.fRow, .int .i64 res.fMost.fSum, .int .i64 res.fE]) ∧ Ext W W2 [] := by
  subst hn0_4
  subst hn1_0
  unfold calxref02_Burnt at h
  refine calls_enter (m := 27) Try.func20 rfl rfl (Nat.le_of_ble_eq_true rfl) ?_
  refine cx_seq ?_
  refine cx_region ?_
  refine ox_box [.int .i64 p0_f.fRise, .int .i64 p0_f.fFall, .int .i64 p0_f.fUp, .int .i64 p0_f.fDown, .slice A0_4 p0_f.fLooks.length c0_4] rfl rfl rfl (fun b1 => ?_)
  refine ox_alloc ze_53 rfl (fun b2 => ?_)
  refine ox_nil ?_
  refine ex_then ?_
  refine cx_seq ?_
  refine cx_region ?_
  refine ox_y rfl (y_loadN 0 [.int .i64 p0_f.fRise, .int .i64 p0_f.fFall, .int .i64 p0_f.fUp, .int .i64 p0_f.fDown, .slice A0_4 p0_f.fLooks.length c0_4] ag_24 rfl rfl rfl) ?_
  refine ox_y rfl (y_move_slice rfl) ?_
  refine ox_y rfl (y_move_int rfl) ?_
  obtain ⟨y3, hy4, h⟩ := bind_some h
  refine ox_y rfl (y_call [.agg #[.int .i64 p0_f.fRise, .int .i64 p0_f.fFall, .int .i64 p0_f.fUp, .int .i64 p0_f.fDown, .slice A0_4 p0_f.fLooks.length c0_4], .slice A1_0 p1_path.length c1_0, .int .i64 p2_need] go_66 rfl (fun W2 hW2 => calxref02_sunk_ok p0_f p1_path p2_need y3 hy4 W2 A0_4 p0_f.fLooks.length c0_4 rfl ((RdL.arg hr0_4) W2 hW2) A1_0 p1_path.length c1_0 rfl ((RdL.arg hr1_0) W2 hW2)) rfl) ?_
  refine ox_y rfl (y_assign_int rfl) ?_
  refine ox_nil ?_
  refine ex_then ?_
  refine cx_seq ?_
  refine cx_seq ?_
  refine cx_region ?_
  refine ox_y rfl (y_move_int rfl) ?_
  refine ox_y rfl (y_neq rfl rfl) ?_
  refine ox_nil ?_
  refine ex_then ?_
  rcases ite_some h with ⟨hp5, h⟩ | ⟨hp5, h⟩
  · refine cx_true (congrArg Value.bool hp5) ?_
    refine cx_seq ?_
    refine cx_region ?_
    refine ox_y rfl (y_move_int rfl) ?_
    refine ox_y rfl (y_buildS [.int .i64 0, .int .i64 0, .int .i64 0, .int .i64 0, .int .i64 0, .int .i64 0, .int .i64 y3] [(0, 3), (3, 3), (6, 1)] ust_53 ze_53 (by kernel_rfl)) ?_
    refine ox_n rfl (y_storeN 1 [.int .i64 0, .int .i64 0, .int .i64 0, .int .i64 0, .int .i64 0, .int .i64 0, .int .i64 y3] sz_53 rfl (Nat.le_of_ble_eq_true rfl) rfl rfl rfl) ?_
    refine ox_nil ?_
    refine ex_then ?_
    refine cx_ret ?_
    refine ex_then_ret ?_
    obtain rfl := Option.some.inj h
    exact ex_res1 (.inl rfl) rfl (resV_cellN 1 [.int .i64 0, .int .i64 0, .int .i64 0, .int .i64 0, .int .i64 0, .int .i64 0, .int .i64 y3] ag_53 rfl rfl rfl) (fun W2 hW2 => ⟨rfl, hW2.none⟩)
  · refine cx_false (congrArg Value.bool hp5) ?_
    refine cx_skip ?_
    refine ex_then ?_
    refine cx_seq ?_
    obtain ⟨y7, hy8, h⟩ := bind_some h
    obtain ⟨y13, hy14, h⟩ := bind_some h
    obtain ⟨y15, hy16, h⟩ := bind_some h
    obtain ⟨y21, hy22, h⟩ := bind_some h
    refine cx_drawsG [[], [], [0, 1], [], [0, 1, 2, 3], [], [], [0, 1, 2, 3, 4, 5, 6], [], [0, 1, 2, 3, 4, 5, 6, 7, 8], [0, 1, 2, 3, 4, 5, 6, 7, 8, 9], [0, 1, 2, 3, 4, 5, 6, 7, 8, 9, 10]] [(none, 0, [true, true]), (none, 0, [true, true]), (none, 1, [true, true]), (none, 0, [true, true, false]), (none, 0, [true, true, true]), (none, 0, [true, true, false]), (none, 0, [true, true, false]), (none, 1, [true, true, true]), (none, 0, [true, true, false, false]), (none, 0, [true, true, true, true]), (none, 0, [true, true, true, true]), (some 1, 0, [true, true, true, true])] [⟨fun _ => .agg #[.int .i64 p0_f.fRise, .int .i64 p0_f.fFall, .int .i64 p0_f.fUp, .int .i64 p0_f.fDown, .slice A0_4 p0_f.fLooks.length c0_4], fun _ => noR, fun _ => []⟩, ⟨fun _ => .slice A1_0 p1_path.length c1_0, fun _ => noR, fun _ => []⟩, ⟨fun ξ6 => .slice (ξ6 2 0).1 y7.length (ξ6 2 0).2.2, fun _ => noR, fun ξ6 => [rowR (ξ6 2 0).1 (ξ6 2 0).2.2 3 1 y7.length (encL cI y7)]⟩, ⟨fun _ => .int .i64 p2_need, fun _ => noR, fun _ => []⟩, ⟨fun _ => .agg #[.int .i64 y13.fHours, .int .i64 y13.fRow, .int .i64 y13.fSum], fun _ => noR, fun _ => []⟩, ⟨fun _ => .agg #[.int .i64 p0_f.fRise, .int .i64 p0_f.fFall, .int .i64 p0_f.fUp, .int .i64 p0_f.fDown, .slice A0_4 p0_f.fLooks.length c0_4], fun _ => noR, fun _ => []⟩, ⟨fun _ => .slice A1_0 p1_path.length c1_0, fun _ => noR, fun _ => []⟩, ⟨fun ξ6 => .slice (ξ6 7 0).1 y15.length (ξ6 7 0).2.2, fun _ => noR, fun ξ6 => [rowR (ξ6 7 0).1 (ξ6 7 0).2.2 3 1 y15.length (encL cI y15)]⟩, ⟨fun _ => .int .i64 p2_need, fun _ => noR, fun _ => []⟩, ⟨fun _ => .agg #[.int .i64 y21.fHours, .int .i64 y21.fRow, .int .i64 y21.fSum], fun _ => noR, fun _ => []⟩, ⟨fun _ => .agg #[.int .i64 y13.fHours, .int .i64 y13.fRow, .int .i64 y13.fSum, .int .i64 y21.fHours, .int .i64 y21.fRow, .int .i64 y21.fSum, .int .i64 0], fun _ => noR, fun _ => []⟩, ⟨fun _ => undef, fun _ => cellsR b2 53 [.int .i64 y13.fHours, .int .i64 y13.fRow, .int .i64 y13.fSum, .int .i64 y21.fHours, .int .i64 y21.fRow, .int .i64 y21.fSum, .int .i64 0], fun _ => []⟩] 2 mixed (by kernel_rfl) (by kernel_rfl) ⟨⟨fun ξ6 ξ6' h => ⟨rfl, rfl, rfl⟩, fun _ => rfl⟩, ⟨fun ξ6 ξ6' h => ⟨rfl, rfl, rfl⟩, fun _ => rfl⟩, ⟨fun ξ6 ξ6' h => ⟨by simp only [h 2 (.inl rfl)], rfl, by simp only [h 2 (.inl rfl)]⟩, fun _ => rfl⟩, ⟨fun ξ6 ξ6' h => ⟨rfl, rfl, rfl⟩, fun _ => rfl⟩, ⟨fun ξ6 ξ6' h => ⟨rfl, rfl, rfl⟩, fun _ => rfl⟩, ⟨fun ξ6 ξ6' h => ⟨rfl, rfl, rfl⟩, fun _ => rfl⟩, ⟨fun ξ6 ξ6' h => ⟨rfl, rfl, rfl⟩, fun _ => rfl⟩, ⟨fun ξ6 ξ6' h => ⟨by simp only [h 7 (.inl rfl)], rfl, by simp only [h 7 (.inl rfl)]⟩, fun _ => rfl⟩, ⟨fun ξ6 ξ6' h => ⟨rfl, rfl, rfl⟩, fun _ => rfl⟩, ⟨fun ξ6 ξ6' h => ⟨rfl, rfl, rfl⟩, fun _ => rfl⟩, ⟨fun ξ6 ξ6' h => ⟨rfl, rfl, rfl⟩, fun _ => rfl⟩, ⟨fun ξ6 ξ6' h => ⟨rfl, rfl, rfl⟩, fun _ => rfl⟩, trivial⟩ rfl (fun ξ6 => ?_)
    refine gx_o rfl (fun L2 => ?_) ?_
    · dsimp only [maskL, List.cons_append, List.nil_append]
      refine ox_y rfl (y_loadN 0 [.int .i64 p0_f.fRise, .int .i64 p0_f.fFall, .int .i64 p0_f.fUp, .int .i64 p0_f.fDown, .slice A0_4 p0_f.fLooks.length c0_4] ag_24 rfl rfl rfl) ?_
      refine ox_nil ?_
      exact ex_capG (fun _ => (none, 0, 0)) rfl (List.append_nil _)
    dsimp only [aftL, List.set_cons_zero, List.set_cons_succ, List.nil_append, List.cons_append, List.append_nil]
    refine gx_o rfl (fun L2 => ?_) ?_
    · dsimp only [maskL, List.cons_append, List.nil_append]
      refine ox_y rfl (y_move_slice rfl) ?_
      refine ox_nil ?_
      exact ex_capG (fun _ => (none, 0, 0)) rfl (List.append_nil _)
    dsimp only [aftL, List.set_cons_zero, List.set_cons_succ, List.nil_append, List.cons_append, List.append_nil]
    refine gx_o rfl (fun L2 => ?_) ?_
    · dsimp only [maskL, List.cons_append, List.nil_append]
      refine ox_call [.agg #[.int .i64 p0_f.fRise, .int .i64 p0_f.fFall, .int .i64 p0_f.fUp, .int .i64 p0_f.fDown, .slice A0_4 p0_f.fLooks.length c0_4], .slice A1_0 p1_path.length c1_0, .bool false] _ _ _ rfl go_67 rfl (fun W2 hW2 => calxref02_along_ok p0_f p1_path false y7 hy8 W2 A0_4 p0_f.fLooks.length c0_4 rfl ((RdL.arg hr0_4) W2 hW2) A1_0 p1_path.length c1_0 rfl ((RdL.arg hr1_0) W2 hW2)) ?_
      rintro ⟨A9, n11, c10⟩ hn12
      replace hn12 : n11 = y7.length := hn12; subst hn12
      refine ox_nil ?_
      exact ex_capG (fun _ => (A9, 0, c10)) rfl rfl
    dsimp only [aftL, List.set_cons_zero, List.set_cons_succ, List.nil_append, List.cons_append, List.append_nil]
    refine gx_o rfl (fun L2 => ?_) ?_
    · dsimp only [maskL, List.cons_append, List.nil_append]
      refine ox_y rfl (y_move_int rfl) ?_
      refine ox_nil ?_
      exact ex_capG (fun _ => (none, 0, 0)) rfl (List.append_nil _)
    dsimp only [aftL, List.set_cons_zero, List.set_cons_succ, List.nil_append, List.cons_append, List.append_nil]
    refine gx_o rfl (fun L2 => ?_) ?_
    · dsimp only [maskL, List.cons_append, List.nil_append]
      refine ox_y rfl (y_call [.slice (ξ6 2 0).1 y7.length (ξ6 2 0).2.2, .int .i64 p2_need] go_41 rfl (fun W2 hW2 => calxref02_Burn_ok y7 p2_need y13 hy14 W2 (ξ6 2 0).1 y7.length (ξ6 2 0).2.2 rfl ((RdL.row 2 rfl) W2 hW2)) rfl) ?_
      refine ox_nil ?_
      exact ex_capG (fun _ => (none, 0, 0)) rfl (List.append_nil _)
    dsimp only [aftL, List.set_cons_zero, List.set_cons_succ, List.nil_append, List.cons_append, List.append_nil]
    refine gx_o rfl (fun L2 => ?_) ?_
    · dsimp only [maskL, List.cons_append, List.nil_append]
      refine ox_y rfl (y_loadN 0 [.int .i64 p0_f.fRise, .int .i64 p0_f.fFall, .int .i64 p0_f.fUp, .int .i64 p0_f.fDown, .slice A0_4 p0_f.fLooks.length c0_4] ag_24 rfl rfl rfl) ?_
      refine ox_nil ?_
      exact ex_capG (fun _ => (none, 0, 0)) rfl (List.append_nil _)
    dsimp only [aftL, List.set_cons_zero, List.set_cons_succ, List.nil_append, List.cons_append, List.append_nil]
    refine gx_o rfl (fun L2 => ?_) ?_
    · dsimp only [maskL, List.cons_append, List.nil_append]
      refine ox_y rfl (y_move_slice rfl) ?_
      refine ox_nil ?_
      exact ex_capG (fun _ => (none, 0, 0)) rfl (List.append_nil _)
    dsimp only [aftL, List.set_cons_zero, List.set_cons_succ, List.nil_append, List.cons_append, List.append_nil]
    refine gx_o rfl (fun L2 => ?_) ?_
    · dsimp only [maskL, List.cons_append, List.nil_append]
      refine ox_call [.agg #[.int .i64 p0_f.fRise, .int .i64 p0_f.fFall, .int .i64 p0_f.fUp, .int .i64 p0_f.fDown, .slice A0_4 p0_f.fLooks.length c0_4], .slice A1_0 p1_path.length c1_0, .bool true] _ _ _ rfl go_67 rfl (fun W2 hW2 => calxref02_along_ok p0_f p1_path true y15 hy16 W2 A0_4 p0_f.fLooks.length c0_4 rfl ((RdL.arg hr0_4) W2 hW2) A1_0 p1_path.length c1_0 rfl ((RdL.arg hr1_0) W2 hW2)) ?_
      rintro ⟨A17, n19, c18⟩ hn20
      replace hn20 : n19 = y15.length := hn20; subst hn20
      refine ox_nil ?_
      exact ex_capG (fun _ => (A17, 0, c18)) rfl rfl
    dsimp only [aftL, List.set_cons_zero, List.set_cons_succ, List.nil_append, List.cons_append, List.append_nil]
    refine gx_o rfl (fun L2 => ?_) ?_
    · dsimp only [maskL, List.cons_append, List.nil_append]
      refine ox_y rfl (y_move_int rfl) ?_
      refine ox_nil ?_
      exact ex_capG (fun _ => (none, 0, 0)) rfl (List.append_nil _)
    dsimp only [aftL, List.set_cons_zero, List.set_cons_succ, List.nil_append, List.cons_append, List.append_nil]
    refine gx_o rfl (fun L2 => ?_) ?_
    · dsimp only [maskL, List.cons_append, List.nil_append]
      refine ox_y rfl (y_call [.slice (ξ6 7 0).1 y15.length (ξ6 7 0).2.2, .int .i64 p2_need] go_41 rfl (fun W2 hW2 => calxref02_Burn_ok y15 p2_need y21 hy22 W2 (ξ6 7 0).1 y15.length (ξ6 7 0).2.2 rfl ((RdL.row 3 rfl) W2 hW2)) rfl) ?_
      refine ox_nil ?_
      exact ex_capG (fun _ => (none, 0, 0)) rfl (List.append_nil _)
    dsimp only [aftL, List.set_cons_zero, List.set_cons_succ, List.nil_append, List.cons_append, List.append_nil]
    refine gx_o rfl (fun L2 => ?_) ?_
    · dsimp only [maskL, List.cons_append, List.nil_append]
      refine ox_y rfl (y_buildS [.int .i64 y13.fHours, .int .i64 y13.fRow, .int .i64 y13.fSum, .int .i64 y21.fHours, .int .i64 y21.fRow, .int .i64 y21.fSum, .int .i64 0] [(0, 3), (3, 3), (6, 1)] ust_53 ze_53 (by kernel_rfl)) ?_
      refine ox_nil ?_
      exact ex_capG (fun _ => (none, 0, 0)) rfl (List.append_nil _)
    dsimp only [aftL, List.set_cons_zero, List.set_cons_succ, List.nil_append, List.cons_append, List.append_nil]
    refine gx_n rfl (fun L2 => ?_) ?_
    · dsimp only [maskL, List.cons_append, List.nil_append]
      refine ox_n rfl (y_storeN 1 [.int .i64 y13.fHours, .int .i64 y13.fRow, .int .i64 y13.fSum, .int .i64 y21.fHours, .int .i64 y21.fRow, .int .i64 y21.fSum, .int .i64 0] sz_53 rfl (Nat.le_of_ble_eq_true rfl) rfl rfl rfl) ?_
      refine ox_nil ?_
      exact ex_capGn (fun _ => (none, 0, 0)) (List.append_nil _)
    dsimp only [aftL, List.set_cons_zero, List.set_cons_succ, List.nil_append, List.cons_append, List.append_nil]
    refine gx_nil ?_
    refine ex_then ?_
    refine cx_ret ?_
    obtain rfl := Option.some.inj h
    exact ex_res1 (.inl rfl) rfl (resV_cellN 1 [.int .i64 y13.fHours, .int .i64 y13.fRow, .int .i64 y13.fSum, .int .i64 y21.fHours, .int .i64 y21.fRow, .int .i64 y21.fSum, .int .i64 0] ag_53 rfl rfl rfl) (fun W2 hW2 => ⟨rfl, hW2.none⟩)

/-! calx/calxref02.steps -/
set_option maxRecDepth 100000 in
theorem calxref02_steps_ok (p0_l : (List Int)) (p1_need : Int) (res : (List TSpan)) (h : calxref02_steps p0_l p1_need = some res) (W : World) (A0_0 : Option Addr) (n0_0 c0_0 : Nat) (hn0_0 : n0_0 = p0_l.length) (hr0_0 : Rd W A0_0 n0_0 c0_0 (encL cI p0_l)) :
    Calls Try.prog 69 [.slice A0_0 n0_0 c0_0, .int .i64 p1_need].toArray W fun e W2 => ∃ x : Option Addr × Nat × Nat, x.2.1 = res.length ∧ e = .returned (.slice x.1 x.2.1 x.2.2) ∧ Ext W W2 [rowR x.1 x.2.2 32 2 x.2.1 (encL TSpan_cells res)] := by
  subst hn0_0
  unfold calxref02_steps at h
  refine calls_enter (m := 49) Try.func69 rfl rfl (Nat.le_of_ble_eq_true rfl) ?_
  refine cx_seq ?_
  refine cx_region ?_
  refine ox_y rfl (y_assign_slice rfl) ?_
  refine ox_nil ?_
  refine ex_then ?_
  refine cx_seq ?_
  refine cx_region ?_
  refine ox_y rfl (y_assign_slice rfl) ?_
  refine ox_nil ?_
  refine ex_then ?_
  refine cx_seq ?_
  refine cx_seq ?_
  refine cx_region ?_
  refine ox_y rfl (y_assign_int rfl) ?_
  refine ox_nil ?_
  refine ex_then ?_
  refine cx_block ?_
  obtain ⟨u4, hl18, h⟩ := bind_some h
  refine cx_nilrow 32 2 ?_
  refine cx_loop (fun (s : (Int × (List TSpan))) L tm => ∃ (tm0 : Nat → Value) (A0_s : Option Addr) (c0_s : Nat) (n0_s : Nat), n0_s = s.2.length ∧ L = [rowR A0_s c0_s 32 2 n0_s (encL TSpan_cells s.2)] ∧ tm = (upd (upd (upd (upd (upd tm0 0 (.slice A0_0 p0_l.length c0_0)) 1 (.int .i64 p1_need)) 4 (.slice none 0 0)) 5 (.slice A0_s n0_s c0_s)) 6 (.int .i64 s.1))) (fun s e L tm => e = .exit 0 ∧ ∃ (tm0 : Nat → Value) (A0_s : Option Addr) (c0_s : Nat) (n0_s : Nat), n0_s = s.2.length ∧ L = [rowR A0_s c0_s 32 2 n0_s (encL TSpan_cells s.2)] ∧ tm = (upd (upd (upd (upd (upd tm0 0 (.slice A0_0 p0_l.length c0_0)) 1 (.int .i64 p1_need)) 4 (.slice none 0 0)) 5 (.slice A0_s n0_s c0_s)) 6 (.int .i64 s.1))) hl18 ⟨_, none, 0, 0, rfl, rfl, (keep (keep (keep (keep (keep rfl rfl) rfl) rfl) rfl) rfl)⟩ ?_ ?_
  · rintro s3 L tm st ⟨tm0_s3, A0_s3, c0_s3, n0_s3, rfl, rfl, rfl⟩ h
    unfold calxref02_steps_l1 at h
    refine cx_seq ?_
    refine cx_seq ?_
    refine cx_region ?_
    refine ox_y rfl (y_move_int rfl) ?_
    refine ox_y rfl (y_move_slice rfl) ?_
    refine ox_y rfl (y_len (us := []) us_41 rfl) ?_
    refine ox_y rfl (y_lss rfl rfl) ?_
    refine ox_nil ?_
    refine ex_then ?_
    rcases ite_some h with ⟨hp5, h⟩ | ⟨hp5, h⟩
    · refine cx_true (congrArg Value.bool hp5) ?_
      refine cx_skip ?_
      refine ex_then ?_
      refine cx_seq ?_
      refine cx_block ?_
      refine cx_seq ?_
      refine cx_seq ?_
      refine cx_region ?_
      refine ox_y rfl (y_move_slice rfl) ?_
      refine ox_y rfl (y_move_int rfl) ?_
      obtain ⟨hg6, h⟩ := guardO_some h
      refine ox_y rfl (y_indexR sl_41 (by decide) hg6.1 hg6.2 (RdL.arg hr0_0) (encL_len cI_len rfl) rfl rfl) ?_
      refine ox_y rfl (y_loadR1 (A := A0_0) (j := (Int.toNat s3.1 * 1)) (v := .int .i64 (rdL p0_l s3.1)) sc_3 (RdL.arg hr0_0) rfl (encL_get0 cI_len hg6.1 (lt_nat hg6.2 rfl) rfl)) ?_
      refine ox_y rfl (y_move_int rfl) ?_
      refine ox_y rfl (y_lss rfl rfl) ?_
      refine ox_nil ?_
      refine ex_then ?_
      rcases ite_some h with ⟨hp7, h⟩ | ⟨hp7, h⟩
      · refine cx_true (congrArg Value.bool hp7) ?_
        refine cx_exit ?_
        refine ex_then_exit ?_
        refine ex_block_here ?_
        refine ex_then ?_
        refine cx_region ?_
        refine ox_y rfl (y_move_int rfl) ?_
        refine ox_y rfl (y_add rfl rfl) ?_
        refine ox_y rfl (y_assign_int rfl) ?_
        refine ox_nil ?_
        obtain rfl := Option.some.inj h
        exact ex_next ⟨_, A0_s3, c0_s3, s3.2.length, rfl, rfl, (keep (keep (keep (keep (keep rfl rfl) rfl) rfl) rfl) rfl)⟩
      · refine cx_false (congrArg Value.bool hp7) ?_
        refine cx_skip ?_
        refine ex_then ?_
        refine cx_seq ?_
        refine cx_region ?_
        refine ox_y rfl (y_move_slice rfl) ?_
        refine ox_y rfl (y_len (us := []) us_55 rfl) ?_
        refine ox_y rfl (y_gtr rfl rfl) ?_
        refine ox_y rfl (y_move_bool rfl) ?_
        obtain ⟨b9, hb10, h⟩ := bind_some h
        refine ox_join 12 (fun tm0 => (upd (upd (upd (upd (upd (upd (upd (upd tm0 0 (.slice A0_0 p0_l.length c0_0)) 1 (.int .i64 p1_need)) 4 (.slice none 0 0)) 5 (.slice A0_s3 s3.2.length c0_s3)) 6 (.int .i64 s3.1)) 10 (.bool (decide (s3.1 < ((p0_l.length : Nat) : Int))))) 18 (.bool (decide ((rdL p0_l s3.1) < p1_need)))) 34 (.bool b9))) (fun tm0 => ?_) (fun key => ?_)
        · refine ox_nil ?_
          refine ex_then ?_
          rcases ite_some h with ⟨hp11, h⟩ | ⟨hp11, h⟩
          · refine cx_true (congrArg Value.bool hp11) ?_
            refine cx_region ?_
            refine ox_y rfl (y_move_slice rfl) ?_
            refine ox_y rfl (y_move_slice rfl) ?_
            refine ox_y rfl (y_len (us := []) us_55 rfl) ?_
            refine ox_y rfl (y_sub rfl rfl) ?_
            refine ox_y rfl (y_move_int rfl) ?_
            obtain ⟨hg12, h⟩ := guardO_some h
            refine ox_y rfl (y_indexR sl_55 (by decide) hg12.1 hg12.2 (RdL.row 0 rfl) (encL_len TSpan_cells_len rfl) rfl rfl) ?_
            refine ox_y rfl (y_fieldAddrR (A := A0_s3) (j := (Int.toNat (w64 (((s3.2.length : Nat) : Int) - 1)) * 2)) fo_32_1 rfl) ?_
            refine ox_n rfl (y_storeRF 0 (xs := s3.2) TSpan_cells_len (TSpan.mk ((rdL s3.2 (w64 (((s3.2.length : Nat) : Int) - 1))).fLo) s3.1) 1 (by decide) sz_3 rfl hg12.1 (lt_nat hg12.2 rfl) rfl rfl rfl rfl) ?_
            refine ox_nil ?_
            refine ex_block ?_
            refine ex_then ?_
            refine cx_region ?_
            refine ox_y rfl (y_move_int rfl) ?_
            refine ox_y rfl (y_add rfl rfl) ?_
            refine ox_y rfl (y_assign_int rfl) ?_
            refine ox_nil ?_
            obtain rfl := Option.some.inj h
            exact ex_next ⟨_, A0_s3, c0_s3, s3.2.length, (hn_set rfl), rfl, (keep (keep (keep (keep (keep rfl rfl) rfl) rfl) rfl) rfl)⟩
          · refine cx_false (congrArg Value.bool hp11) ?_
            refine cx_region ?_
            refine ox_y rfl (y_move_slice rfl) ?_
            refine ox_y rfl (y_move_int rfl) ?_
            refine ox_y rfl (y_move_int rfl) ?_
            refine ox_y rfl (y_buildS [.int .i64 s3.1, .int .i64 s3.1] [(0, 1), (1, 1)] ust_32 ze_32 (by kernel_rfl)) ?_
            refine ox_buildSliceE 1 (encL TSpan_cells [(TSpan.mk s3.1 s3.1)]) _ mc_32_1 us_55 ze_32 by_32 (by decide) (by decide) (by kernel_rfl) (encL_len TSpan_cells_len rfl) rfl (fun b13 => ?_)
            obtain ⟨hg16, h⟩ := guardO_some h
            refine ox_append0 0 us_55 ze_32 by_32 rfl rfl rfl (RdL.row 1 rfl) (encL_len TSpan_cells_len rfl) (encL_one TSpan_cells_one _) (app_room hg16 (by decide)) rfl (fun A14 c15 => ?_)
            refine ox_y rfl (y_assign_slice rfl) ?_
            refine ox_nil ?_
            refine ex_block ?_
            refine ex_then ?_
            refine cx_region ?_
            refine ox_y rfl (y_move_int rfl) ?_
            refine ox_y rfl (y_add rfl rfl) ?_
            refine ox_y rfl (y_assign_int rfl) ?_
            refine ox_nil ?_
            refine ex_take 1 ?_
            obtain rfl := Option.some.inj h
            exact ex_next ⟨_, A14, c15, (s3.2.length + 1), (hn_app rfl rfl), rfl, (keep (keep (keep (keep (keep rfl rfl) rfl) rfl) rfl) rfl)⟩
        · clear h; rcases ite_some hb10 with ⟨hp8, h⟩ | ⟨hp8, h⟩
          · refine ox_y (sees_t rfl rfl rfl rfl hp8) (y_move_slice rfl) ?_
            refine ox_y (sees_t rfl rfl rfl rfl hp8) (y_move_slice rfl) ?_
            refine ox_y (sees_t rfl rfl rfl rfl hp8) (y_len (us := []) us_55 rfl) ?_
            refine ox_y (sees_t rfl rfl rfl rfl hp8) (y_sub rfl rfl) ?_
            refine ox_y (sees_t rfl rfl rfl rfl hp8) (y_max rfl rfl) ?_
            obtain ⟨hg17, h⟩ := guardO_some h
            refine ox_y (sees_t rfl rfl rfl rfl hp8) (y_indexR sl_55 (by decide) hg17.1 hg17.2 (RdL.row 0 rfl) (encL_len TSpan_cells_len rfl) rfl rfl) ?_
            refine ox_y (sees_t rfl rfl rfl rfl hp8) (y_fieldAddrR (A := A0_s3) (j := (Int.toNat (max 0 (w64 (((s3.2.length : Nat) : Int) - 1))) * 2)) fo_32_1 rfl) ?_
            refine ox_y (sees_t rfl rfl rfl rfl hp8) (y_loadR1 (A := A0_s3) (j := ((Int.toNat (max 0 (w64 (((s3.2.length : Nat) : Int) - 1))) * 2) + 1)) (v := .int .i64 ((rdL s3.2 (max 0 (w64 (((s3.2.length : Nat) : Int) - 1)))).fHi)) sc_3 (RdL.row 0 rfl) rfl (encL_get TSpan_cells_len hg17.1 (lt_nat hg17.2 rfl) rfl)) ?_
            refine ox_y (sees_t rfl rfl rfl rfl hp8) (y_move_int rfl) ?_
            refine ox_y (sees_t rfl rfl rfl rfl hp8) (y_sub rfl rfl) ?_
            refine ox_y (sees_t rfl rfl rfl rfl hp8) (y_eql rfl rfl) ?_
            refine ox_y rfl (y_pick_tb (congrArg Value.bool hp8) rfl) ?_
            obtain rfl := Option.some.inj h
            exact key _ _ (keep (keep (keep (keep (keep (keep (keep (keep rfl rfl) rfl) rfl) rfl) rfl) rfl) rfl) rfl)
          · refine ox_skip (sees_f rfl rfl rfl rfl hp8) ?_
            refine ox_skip (sees_f rfl rfl rfl rfl hp8) ?_
            refine ox_skip (sees_f rfl rfl rfl rfl hp8) ?_
            refine ox_skip (sees_f rfl rfl rfl rfl hp8) ?_
            refine ox_skip (sees_f rfl rfl rfl rfl hp8) ?_
            refine ox_skip (sees_f rfl rfl rfl rfl hp8) ?_
            refine ox_skip (sees_f rfl rfl rfl rfl hp8) ?_
            refine ox_skip (sees_f rfl rfl rfl rfl hp8) ?_
            refine ox_skip (sees_f rfl rfl rfl rfl hp8) ?_
            refine ox_skip (sees_f rfl rfl rfl rfl hp8) ?_
            refine ox_skip (sees_f rfl rfl rfl rfl hp8) ?_
            refine ox_y rfl (y_pick_fb (congrArg Value.bool hp8) rfl) ?_
            obtain rfl := Option.some.inj h
            exact key _ _ (keep (keep (keep (keep (keep (keep (keep (keep rfl rfl) rfl) rfl) rfl) rfl) rfl) rfl) rfl)
    · refine cx_false (congrArg Value.bool hp5) ?_
      refine cx_exit ?_
      refine ex_then_exit ?_
      obtain rfl := Option.some.inj h
      exact ex_stop ⟨rfl, _, A0_s3, c0_s3, s3.2.length, rfl, rfl, (keep (keep (keep (keep (keep rfl rfl) rfl) rfl) rfl) rfl)⟩
  · intro e L tm hJ
    obtain ⟨rfl, tm0_u4, A0_u4, c0_u4, n0_u4, rfl, rfl, rfl⟩ := hJ
    refine ⟨(by intro hc; cases hc), ?_⟩
    refine ex_block_here ?_
    refine ex_then ?_
    refine cx_seq ?_
    refine cx_region ?_
    refine ox_y rfl (y_move_slice rfl) ?_
    refine ox_y rfl (y_assign_slice rfl) ?_
    refine ox_nil ?_
    refine ex_then ?_
    refine cx_ret ?_
    obtain rfl := Option.some.inj h
    exact ex_res1 (.inl rfl) rfl (resV_tmp (v := .slice A0_u4 u4.2.length c0_u4) rfl) (fun W2 hW2 => ⟨(A0_u4, u4.2.length, c0_u4), rfl, rfl, (hW2.pick 0 rfl)⟩)

/-! calx/calxref02.Surely -/
set_option maxRecDepth 100000 in
theorem calxref02_Surely_ok (p0_f : TFire) (p1_path : (List TSpot)) (p2_need : Int) (res : TSpanned) (h : calxref02_Surely p0_f p1_path p2_need = some res) (W : World) (A0_4 : Option Addr) (n0_4 c0_4 : Nat) (hn0_4 : n0_4 = p0_f.fLooks.length) (hr0_4 : Rd W A0_4 n0_4 c0_4 (encL TLook_cells p0_f.fLooks)) (A1_0 : Option Addr) (n1_0 c1_0 : Nat) (hn1_0 : n1_0 = p1_path.length) (hr1_0 : Rd W A1_0 n1_0 c1_0 (encL TSpot_cells p1_path)) :
    Calls Try.prog 22 [.agg #[.int .i64 p0_f.fRise, .int .i64 p0_f.fFall, .int .i64 p0_f.fUp, .int .i64 p0_f.fDown, .slice A0_4 n0_4 c0_4], .slice A1_0 n1_0 c1_0, .int .i64 p2_need].toArray W fun e W2 => ∃ x : Option Addr × Nat × Nat, x.2.1 = res.fL.length ∧ e = .returned (.agg #[.slice x.1 x.2.1 x.2.2, .int .i64 res.fE]) ∧ Ext W W2 [rowR x.1 x.2.2 32 2 x.2.1 (encL TSpan_cells res.fL)] := by
  subst hn0_4
  subst hn1_0
  unfold calxref02_Surely at h
  refine calls_enter (m := 22) Try.func22 rfl rfl (Nat.le_of_ble_eq_true rfl) ?_
  refine cx_seq ?_
  refine cx_region ?_
  refine ox_box [.int .i64 p0_f.fRise, .int .i64 p0_f.fFall, .int .i64 p0_f.fUp, .int .i64 p0_f.fDown, .slice A0_4 p0_f.fLooks.length c0_4] rfl rfl rfl (fun b1 => ?_)
  refine ox_alloc ze_59 rfl (fun b2 => ?_)
  refine ox_nil ?_
  refine ex_then ?_
  refine cx_seq ?_
  refine cx_region ?_
  refine ox_y rfl (y_loadN 0 [.int .i64 p0_f.fRise, .int .i64 p0_f.fFall, .int .i64 p0_f.fUp, .int .i64 p0_f.fDown, .slice A0_4 p0_f.fLooks.length c0_4] ag_24 rfl rfl rfl) ?_
  refine ox_y rfl (y_move_slice rfl) ?_
  refine ox_y rfl (y_move_int rfl) ?_
  obtain ⟨y3, hy4, h⟩ := bind_some h
  refine ox_y rfl (y_call [.agg #[.int .i64 p0_f.fRise, .int .i64 p0_f.fFall, .int .i64 p0_f.fUp, .int .i64 p0_f.fDown, .slice A0_4 p0_f.fLooks.length c0_4], .slice A1_0 p1_path.length c1_0, .int .i64 p2_need] go_66 rfl (fun W2 hW2 => calxref02_sunk_ok p0_f p1_path p2_need y3 hy4 W2 A0_4 p0_f.fLooks.length c0_4 rfl ((RdL.arg hr0_4) W2 hW2) A1_0 p1_path.length c1_0 rfl ((RdL.arg hr1_0) W2 hW2)) rfl) ?_
  refine ox_y rfl (y_assign_int rfl) ?_
  refine ox_nil ?_
  refine ex_then ?_
  refine cx_seq ?_
  refine cx_seq ?_
  refine cx_region ?_
  refine ox_y rfl (y_move_int rfl) ?_
  refine ox_y rfl (y_neq rfl rfl) ?_
  refine ox_nil ?_
  refine ex_then ?_
  rcases ite_some h with ⟨hp5, h⟩ | ⟨hp5, h⟩
  · refine cx_true (congrArg Value.bool hp5) ?_
    refine cx_seq ?_
    refine cx_region ?_
    refine ox_y rfl (y_move_int rfl) ?_
    refine ox_y rfl (y_buildS [.slice none 0 0, .int .i64 y3] [(0, 1), (1, 1)] ust_59 ze_59 (by kernel_rfl)) ?_
    refine ox_n rfl (y_storeN 1 [.slice none 0 0, .int .i64 y3] sz_59 rfl (Nat.le_of_ble_eq_true rfl) rfl rfl rfl) ?_
    refine ox_nil ?_
    refine ex_then ?_
    refine cx_ret ?_
    refine ex_then_ret ?_
    obtain rfl := Option.some.inj h
    exact ex_res1 (.inl rfl) rfl (resV_cellN 1 [.slice none 0 0, .int .i64 y3] ag_59 rfl rfl rfl) (fun W2 hW2 => ⟨(none, 0, 0), rfl, rfl, ((hW2.nilrow 32 2).pick 2 rfl)⟩)
  · refine cx_false (congrArg Value.bool hp5) ?_
    refine cx_skip ?_
    refine ex_then ?_
    refine cx_seq ?_
    refine cx_region ?_
    refine ox_y rfl (y_loadN 0 [.int .i64 p0_f.fRise, .int .i64 p0_f.fFall, .int .i64 p0_f.fUp, .int .i64 p0_f.fDown, .slice A0_4 p0_f.fLooks.length c0_4] ag_24 rfl rfl rfl) ?_
    refine ox_y rfl (y_move_slice rfl) ?_
    obtain ⟨y6, hy7, h⟩ := bind_some h
    refine ox_call [.agg #[.int .i64 p0_f.fRise, .int .i64 p0_f.fFall, .int .i64 p0_f.fUp, .int .i64 p0_f.fDown, .slice A0_4 p0_f.fLooks.length c0_4], .slice A1_0 p1_path.length c1_0, .bool false] _ _ _ rfl go_67 rfl (fun W2 hW2 => calxref02_along_ok p0_f p1_path false y6 hy7 W2 A0_4 p0_f.fLooks.length c0_4 rfl ((RdL.arg hr0_4) W2 hW2) A1_0 p1_path.length c1_0 rfl ((RdL.arg hr1_0) W2 hW2)) ?_
    rintro ⟨A8, n10, c9⟩ hn11
    replace hn11 : n10 = y6.length := hn11; subst hn11
    refine ox_y rfl (y_move_int rfl) ?_
    obtain ⟨y12, hy13, h⟩ := bind_some h
    refine ox_call [.slice A8 y6.length c9, .int .i64 p2_need] _ _ _ rfl go_69 rfl (fun W2 hW2 => calxref02_steps_ok y6 p2_need y12 hy13 W2 A8 y6.length c9 rfl ((RdL.row 2 rfl) W2 hW2)) ?_
    rintro ⟨A14, n16, c15⟩ hn17
    replace hn17 : n16 = y12.length := hn17; subst hn17
    refine ox_y rfl (y_buildS [.slice A14 y12.length c15, .int .i64 0] [(0, 1), (1, 1)] ust_59 ze_59 (by kernel_rfl)) ?_
    refine ox_n rfl (y_storeN 1 [.slice A14 y12.length c15, .int .i64 0] sz_59 rfl (Nat.le_of_ble_eq_true rfl) rfl rfl rfl) ?_
    refine ox_nil ?_
    refine ex_then ?_
    refine cx_ret ?_
    obtain rfl := Option.some.inj h
    exact ex_res1 (.inl rfl) rfl (resV_cellN 1 [.slice A14 y12.length c15, .int .i64 0] ag_59 rfl rfl rfl) (fun W2 hW2 => ⟨(A14, y12.length, c15), rfl, rfl, (hW2.pick 3 rfl)⟩)

/-! calx/calxref02.Possibly -/
set_option maxRecDepth 100000 in
theorem calxref02_Possibly_ok (p0_f : TFire) (p1_path : (List TSpot)) (p2_need : Int) (res : TSpanned) (h : calxref02_Possibly p0_f p1_path p2_need = some res) (W : World) (A0_4 : Option Addr) (n0_4 c0_4 : Nat) (hn0_4 : n0_4 = p0_f.fLooks.length) (hr0_4 : Rd W A0_4 n0_4 c0_4 (encL TLook_cells p0_f.fLooks)) (A1_0 : Option Addr) (n1_0 c1_0 : Nat) (hn1_0 : n1_0 = p1_path.length) (hr1_0 : Rd W A1_0 n1_0 c1_0 (encL TSpot_cells p1_path)) :
    Calls Try.prog 24 [.agg #[.int .i64 p0_f.fRise, .int .i64 p0_f.fFall, .int .i64 p0_f.fUp, .int .i64 p0_f.fDown, .slice A0_4 n0_4 c0_4], .slice A1_0 n1_0 c1_0, .int .i64 p2_need].toArray W fun e W2 => ∃ x : Option Addr × Nat × Nat, x.2.1 = res.fL.length ∧ e = .returned (.agg #[.slice x.1 x.2.1 x.2.2, .int .i64 res.fE]) ∧ Ext W W2 [rowR x.1 x.2.2 32 2 x.2.1 (encL TSpan_cells res.fL)] := by
  subst hn0_4
  subst hn1_0
  unfold calxref02_Possibly at h
  refine calls_enter (m := 22) Try.func24 rfl rfl (Nat.le_of_ble_eq_true rfl) ?_
  refine cx_seq ?_
  refine cx_region ?_
  refine ox_box [.int .i64 p0_f.fRise, .int .i64 p0_f.fFall, .int .i64 p0_f.fUp, .int .i64 p0_f.fDown, .slice A0_4 p0_f.fLooks.length c0_4] rfl rfl rfl (fun b1 => ?_)
  refine ox_alloc ze_59 rfl (fun b2 => ?_)
  refine ox_nil ?_
  refine ex_then ?_
  refine cx_seq ?_
  refine cx_region ?_
  refine ox_y rfl (y_loadN 0 [.int .i64 p0_f.fRise, .int .i64 p0_f.fFall, .int .i64 p0_f.fUp, .int .i64 p0_f.fDown, .slice A0_4 p0_f.fLooks.length c0_4] ag_24 rfl rfl rfl) ?_
  refine ox_y rfl (y_move_slice rfl) ?_
  refine ox_y rfl (y_move_int rfl) ?_
  obtain ⟨y3, hy4, h⟩ := bind_some h
  refine ox_y rfl (y_call [.agg #[.int .i64 p0_f.fRise, .int .i64 p0_f.fFall, .int .i64 p0_f.fUp, .int .i64 p0_f.fDown, .slice A0_4 p0_f.fLooks.length c0_4], .slice A1_0 p1_path.length c1_0, .int .i64 p2_need] go_66 rfl (fun W2 hW2 => calxref02_sunk_ok p0_f p1_path p2_need y3 hy4 W2 A0_4 p0_f.fLooks.length c0_4 rfl ((RdL.arg hr0_4) W2 hW2) A1_0 p1_path.length c1_0 rfl ((RdL.arg hr1_0) W2 hW2)) rfl) ?_
  refine ox_y rfl (y_assign_int rfl) ?_
  refine ox_nil ?_
  refine ex_then ?_
  refine cx_seq ?_
  refine cx_seq ?_
  refine cx_region ?_
  refine ox_y rfl (y_move_int rfl) ?_
  refine ox_y rfl (y_neq rfl rfl) ?_
  refine ox_nil ?_
  refine ex_then ?_
  rcases ite_some h with ⟨hp5, h⟩ | ⟨hp5, h⟩
  · refine cx_true (congrArg Value.bool hp5) ?_
    refine cx_seq ?_
    refine cx_region ?_
    refine ox_y rfl (y_move_int rfl) ?_
    refine ox_y rfl (y_buildS [.slice none 0 0, .int .i64 y3] [(0, 1), (1, 1)] ust_59 ze_59 (by kernel_rfl)) ?_
    refine ox_n rfl (y_storeN 1 [.slice none 0 0, .int .i64 y3] sz_59 rfl (Nat.le_of_ble_eq_true rfl) rfl rfl rfl) ?_
    refine ox_nil ?_
    refine ex_then ?_
    refine cx_ret ?_
    refine ex_then_ret ?_
    obtain rfl := Option.some.inj h
    exact ex_res1 (.inl rfl) rfl (resV_cellN 1 [.slice none 0 0, .int .i64 y3] ag_59 rfl rfl rfl) (fun W2 hW2 => ⟨(none, 0, 0), rfl, rfl, ((hW2.nilrow 32 2).pick 2 rfl)⟩)
  · refine cx_false (congrArg Value.bool hp5) ?_
    refine cx_skip ?_
    refine ex_then ?_
    refine cx_seq ?_
    refine cx_region ?_
    refine ox_y rfl (y_loadN 0 [.int .i64 p0_f.fRise, .int .i64 p0_f.fFall, .int .i64 p0_f.fUp, .int .i64 p0_f.fDown, .slice A0_4 p0_f.fLooks.length c0_4] ag_24 rfl rfl rfl) ?_
    refine ox_y rfl (y_move_slice rfl) ?_
    obtain ⟨y6, hy7, h⟩ := bind_some h
    refine ox_call [.agg #[.int .i64 p0_f.fRise, .int .i64 p0_f.fFall, .int .i64 p0_f.fUp, .int .i64 p0_f.fDown, .slice A0_4 p0_f.fLooks.length c0_4], .slice A1_0 p1_path.length c1_0, .bool true] _ _ _ rfl go_67 rfl (fun W2 hW2 => calxref02_along_ok p0_f p1_path true y6 hy7 W2 A0_4 p0_f.fLooks.length c0_4 rfl ((RdL.arg hr0_4) W2 hW2) A1_0 p1_path.length c1_0 rfl ((RdL.arg hr1_0) W2 hW2)) ?_
    rintro ⟨A8, n10, c9⟩ hn11
    replace hn11 : n10 = y6.length := hn11; subst hn11
    refine ox_y rfl (y_move_int rfl) ?_
    obtain ⟨y12, hy13, h⟩ := bind_some h
    refine ox_call [.slice A8 y6.length c9, .int .i64 p2_need] _ _ _ rfl go_69 rfl (fun W2 hW2 => calxref02_steps_ok y6 p2_need y12 hy13 W2 A8 y6.length c9 rfl ((RdL.row 2 rfl) W2 hW2)) ?_
    rintro ⟨A14, n16, c15⟩ hn17
    replace hn17 : n16 = y12.length := hn17; subst hn17
    refine ox_y rfl (y_buildS [.slice A14 y12.length c15, .int .i64 0] [(0, 1), (1, 1)] ust_59 ze_59 (by kernel_rfl)) ?_
    refine ox_n rfl (y_storeN 1 [.slice A14 y12.length c15, .int .i64 0] sz_59 rfl (Nat.le_of_ble_eq_true rfl) rfl rfl rfl) ?_
    refine ox_nil ?_
    refine ex_then ?_
    refine cx_ret ?_
    obtain rfl := Option.some.inj h
    exact ex_res1 (.inl rfl) rfl (resV_cellN 1 [.slice A14 y12.length c15, .int .i64 0] ag_59 rfl rfl rfl) (fun W2 hW2 => ⟨(A14, y12.length, c15), rfl, rfl, (hW2.pick 3 rfl)⟩)

/-! calx/calxlaw02.FirePaths -/
set_option maxRecDepth 100000 in
theorem calxlaw02_FirePaths_ok (p0 : TFire) (p1 : (List TSpot)) (p2 : Int) (res : Bool) (h : calxlaw02_FirePaths p0 p1 p2 = some res) (W : World) (A0_4 : Option Addr) (n0_4 c0_4 : Nat) (hn0_4 : n0_4 = p0.fLooks.length) (hr0_4 : Rd W A0_4 n0_4 c0_4 (encL TLook_cells p0.fLooks)) (A1_0 : Option Addr) (n1_0 c1_0 : Nat) (hn1_0 : n1_0 = p1.length) (hr1_0 : Rd W A1_0 n1_0 c1_0 (encL TSpot_cells p1)) :
    Calls Try.prog 4 [.agg #[.int .i64 p0.fRise, .int .i64 p0.fFall, .int .i64 p0.fUp, .int .i64 p0.fDown, .slice A0_4 n0_4 c0_4], .slice A1_0 n1_0 c1_0, .int .i64 p2].toArray W fun e W2 => e = .returned (.bool res) ∧ Ext W W2 [] := by
  subst hn0_4
  subst hn1_0
  unfold calxlaw02_FirePaths at h
  refine calls_enter (m := 112) Try.func4 rfl rfl (Nat.le_of_ble_eq_true rfl) ?_
  refine cx_seq ?_
  refine cx_region ?_
  refine ox_box [.int .i64 p0.fRise, .int .i64 p0.fFall, .int .i64 p0.fUp, .int .i64 p0.fDown, .slice A0_4 p0.fLooks.length c0_4] rfl rfl rfl (fun b1 => ?_)
  refine ox_y rfl (y_assign_bool rfl) ?_
  refine ox_nil ?_
  refine ex_then ?_
  refine cx_seq ?_
  refine cx_seq ?_
  refine cx_region ?_
  refine ox_y rfl (y_loadN 0 [.int .i64 p0.fRise, .int .i64 p0.fFall, .int .i64 p0.fUp, .int .i64 p0.fDown, .slice A0_4 p0.fLooks.length c0_4] ag_24 rfl rfl rfl) ?_
  obtain ⟨y2, hy3, h⟩ := bind_some h
  refine ox_y rfl (y_call [.agg #[.int .i64 p0.fRise, .int .i64 p0.fFall, .int .i64 p0.fUp, .int .i64 p0.fDown, .slice A0_4 p0.fLooks.length c0_4]] go_11 rfl (fun W2 hW2 => calxlaw02_few_ok p0 y2 hy3 W2 A0_4 p0.fLooks.length c0_4 rfl ((RdL.arg hr0_4) W2 hW2)) rfl) ?_
  refine ox_y rfl (y_not rfl) ?_
  refine ox_y rfl (y_move_bool rfl) ?_
  obtain ⟨b5, hb6, h⟩ := bind_some h
  refine ox_join 4 (fun tm0 => (upd (upd (upd (upd (upd tm0 1 (.slice A1_0 p1.length c1_0)) 2 (.int .i64 p2)) 3 (.pointer (some ⟨b1, 0, none⟩))) 6 (.bool false)) 25 (.bool b5))) (fun tm0 => ?_) (fun key => ?_)
  · refine ox_nil ?_
    refine ex_then ?_
    rcases ite_some h with ⟨hp7, h⟩ | ⟨hp7, h⟩
    · refine cx_true (congrArg Value.bool hp7) ?_
      refine cx_seq ?_
      refine cx_region ?_
      obtain ⟨y8, hy9, h⟩ := bind_some h
      refine ox_y rfl (y_call [] go_13 rfl (fun W2 hW2 => calxlaw02_sanity_ok  y8 hy9 W2 ) rfl) ?_
      refine ox_y rfl (y_assign_bool rfl) ?_
      refine ox_nil ?_
      refine ex_then ?_
      refine cx_ret ?_
      refine ex_then_ret ?_
      obtain rfl := Option.some.inj h
      exact ex_res1 (.inl rfl) rfl (resV_tmp (v := .bool y8) rfl) (fun W2 hW2 => ⟨rfl, hW2.none⟩)
    · refine cx_false (congrArg Value.bool hp7) ?_
      refine cx_skip ?_
      refine ex_then ?_
      refine cx_seq ?_
      refine cx_region ?_
      refine ox_y rfl (y_loadN 0 [.int .i64 p0.fRise, .int .i64 p0.fFall, .int .i64 p0.fUp, .int .i64 p0.fDown, .slice A0_4 p0.fLooks.length c0_4] ag_24 rfl rfl rfl) ?_
      refine ox_y rfl (y_move_slice rfl) ?_
      refine ox_y rfl (y_move_int rfl) ?_
      obtain ⟨y10, hy11, h⟩ := bind_some h
      refine ox_y rfl (y_call [.agg #[.int .i64 p0.fRise, .int .i64 p0.fFall, .int .i64 p0.fUp, .int .i64 p0.fDown, .slice A0_4 p0.fLooks.length c0_4], .slice A1_0 p1.length c1_0, .int .i64 p2] go_19 rfl (fun W2 hW2 => fire_Burnt_ok p0 p1 p2 y10 hy11 W2 A0_4 p0.fLooks.length c0_4 rfl ((RdL.arg hr0_4) W2 hW2) A1_0 p1.length c1_0 rfl ((RdL.arg hr1_0) W2 hW2)) rfl) ?_
      refine ox_y rfl (y_move_tuple rfl) ?_
      refine ox_y rfl (y_extract (vs := [.agg #[.int .i64 y10.1.fHours, .int .i64 y10.1.fRow, .int .i64 y10.1.fSum], .agg #[.int .i64 y10.2.1.fHours, .int .i64 y10.2.1.fRow, .int .i64 y10.2.1.fSum], .int .i64 y10.2.2]) (v := .agg #[.int .i64 y10.1.fHours, .int .i64 y10.1.fRow, .int .i64 y10.1.fSum]) rfl rfl) ?_
      refine ox_y rfl (y_extract (vs := [.agg #[.int .i64 y10.1.fHours, .int .i64 y10.1.fRow, .int .i64 y10.1.fSum], .agg #[.int .i64 y10.2.1.fHours, .int .i64 y10.2.1.fRow, .int .i64 y10.2.1.fSum], .int .i64 y10.2.2]) (v := .agg #[.int .i64 y10.2.1.fHours, .int .i64 y10.2.1.fRow, .int .i64 y10.2.1.fSum]) rfl rfl) ?_
      refine ox_y rfl (y_extract (vs := [.agg #[.int .i64 y10.1.fHours, .int .i64 y10.1.fRow, .int .i64 y10.1.fSum], .agg #[.int .i64 y10.2.1.fHours, .int .i64 y10.2.1.fRow, .int .i64 y10.2.1.fSum], .int .i64 y10.2.2]) (v := .int .i64 y10.2.2) rfl rfl) ?_
      refine ox_alloc ze_49 rfl (fun b12 => ?_)
      refine ox_alloc ze_49 rfl (fun b13 => ?_)
      refine ox_n rfl (y_storeN 1 [.int .i64 y10.1.fHours, .int .i64 y10.1.fRow, .int .i64 y10.1.fSum] sz_49 rfl (Nat.le_of_ble_eq_true rfl) rfl rfl rfl) ?_
      refine ox_n rfl (y_storeN 2 [.int .i64 y10.2.1.fHours, .int .i64 y10.2.1.fRow, .int .i64 y10.2.1.fSum] sz_49 rfl (Nat.le_of_ble_eq_true rfl) rfl rfl rfl) ?_
      refine ox_y rfl (y_assign_int rfl) ?_
      refine ox_nil ?_
      refine ex_then ?_
      refine cx_seq ?_
      refine cx_region ?_
      refine ox_y rfl (y_loadN 0 [.int .i64 p0.fRise, .int .i64 p0.fFall, .int .i64 p0.fUp, .int .i64 p0.fDown, .slice A0_4 p0.fLooks.length c0_4] ag_24 rfl rfl rfl) ?_
      refine ox_y rfl (y_move_slice rfl) ?_
      refine ox_y rfl (y_move_int rfl) ?_
      obtain ⟨y14, hy15, h⟩ := bind_some h
      refine ox_y rfl (y_call [.agg #[.int .i64 p0.fRise, .int .i64 p0.fFall, .int .i64 p0.fUp, .int .i64 p0.fDown, .slice A0_4 p0.fLooks.length c0_4], .slice A1_0 p1.length c1_0, .int .i64 p2] go_20 rfl (fun W2 hW2 => calxref02_Burnt_ok p0 p1 p2 y14 hy15 W2 A0_4 p0.fLooks.length c0_4 rfl ((RdL.arg hr0_4) W2 hW2) A1_0 p1.length c1_0 rfl ((RdL.arg hr1_0) W2 hW2)) rfl) ?_
      refine ox_alloc ze_53 rfl (fun b16 => ?_)
      refine ox_n rfl (y_storeN 3 [.int .i64 y14.fLeast.fHours, .int .i64 y14.fLeast.fRow, .int .i64 y14.fLeast.fSum, .int .i64 y14.fMost.fHours, .int .i64 y14.fMost.fRow, .int .i64 y14.fMost.fSum, .int .i64 y14.fE] sz_53 rfl (Nat.le_of_ble_eq_true rfl) rfl rfl rfl) ?_
      refine ox_nil ?_
      refine ex_then ?_
      refine cx_seq ?_
      refine cx_region ?_
      refine ox_y rfl (y_loadN 0 [.int .i64 p0.fRise, .int .i64 p0.fFall, .int .i64 p0.fUp, .int .i64 p0.fDown, .slice A0_4 p0.fLooks.length c0_4] ag_24 rfl rfl rfl) ?_
      refine ox_y rfl (y_move_slice rfl) ?_
      refine ox_y rfl (y_move_int rfl) ?_
      obtain ⟨y17, hy18, h⟩ := bind_some h
      refine ox_call [.agg #[.int .i64 p0.fRise, .int .i64 p0.fFall, .int .i64 p0.fUp, .int .i64 p0.fDown, .slice A0_4 p0.fLooks.length c0_4], .slice A1_0 p1.length c1_0, .int .i64 p2] _ _ _ rfl go_21 rfl (fun W2 hW2 => fire_Surely_ok p0 p1 p2 y17 hy18 W2 A0_4 p0.fLooks.length c0_4 rfl ((RdL.arg hr0_4) W2 hW2) A1_0 p1.length c1_0 rfl ((RdL.arg hr1_0) W2 hW2)) ?_
      rintro ⟨A19, n21, c20⟩ hn22
      replace hn22 : n21 = y17.1.length := hn22; subst hn22
      refine ox_y rfl (y_move_tuple rfl) ?_
      refine ox_y rfl (y_extract (vs := [.slice A19 y17.1.length c20, .int .i64 y17.2]) (v := .slice A19 y17.1.length c20) rfl rfl) ?_
      refine ox_y rfl (y_extract (vs := [.slice A19 y17.1.length c20, .int .i64 y17.2]) (v := .int .i64 y17.2) rfl rfl) ?_
      refine ox_y rfl (y_assign_slice rfl) ?_
      refine ox_y rfl (y_assign_int rfl) ?_
      refine ox_nil ?_
      refine ex_then ?_
      refine cx_seq ?_
      refine cx_region ?_
      refine ox_y rfl (y_loadN 0 [.int .i64 p0.fRise, .int .i64 p0.fFall, .int .i64 p0.fUp, .int .i64 p0.fDown, .slice A0_4 p0.fLooks.length c0_4] ag_24 rfl rfl rfl) ?_
      refine ox_y rfl (y_move_slice rfl) ?_
      refine ox_y rfl (y_move_int rfl) ?_
      obtain ⟨y23, hy24, h⟩ := bind_some h
      refine ox_call [.agg #[.int .i64 p0.fRise, .int .i64 p0.fFall, .int .i64 p0.fUp, .int .i64 p0.fDown, .slice A0_4 p0.fLooks.length c0_4], .slice A1_0 p1.length c1_0, .int .i64 p2] _ _ _ rfl go_22 rfl (fun W2 hW2 => calxref02_Surely_ok p0 p1 p2 y23 hy24 W2 A0_4 p0.fLooks.length c0_4 rfl ((RdL.arg hr0_4) W2 hW2) A1_0 p1.length c1_0 rfl ((RdL.arg hr1_0) W2 hW2)) ?_
      rintro ⟨A25, n27, c26⟩ hn28
      replace hn28 : n27 = y23.fL.length := hn28; subst hn28
      try dsimp only [List.nil_append, List.cons_append, List.set_cons_zero, List.set_cons_succ]
      refine ox_alloc ze_59 rfl (fun b29 => ?_)
      try dsimp only [List.nil_append, List.cons_append, List.set_cons_zero, List.set_cons_succ]
      refine ox_n rfl (y_storeN 6 [.slice A25 y23.fL.length c26, .int .i64 y23.fE] sz_59 rfl (Nat.le_of_ble_eq_true rfl) rfl rfl rfl) ?_
      refine ox_nil ?_
      refine ex_then ?_
      refine cx_seq ?_
      refine cx_region ?_
      refine ox_y rfl (y_loadN 0 [.int .i64 p0.fRise, .int .i64 p0.fFall, .int .i64 p0.fUp, .int .i64 p0.fDown, .slice A0_4 p0.fLooks.length c0_4] ag_24 rfl rfl rfl) ?_
      refine ox_y rfl (y_move_slice rfl) ?_
      refine ox_y rfl (y_move_int rfl) ?_
      obtain ⟨y30, hy31, h⟩ := bind_some h
      refine ox_call [.agg #[.int .i64 p0.fRise, .int .i64 p0.fFall, .int .i64 p0.fUp, .int .i64 p0.fDown, .slice A0_4 p0.fLooks.length c0_4], .slice A1_0 p1.length c1_0, .int .i64 p2] _ _ _ rfl go_23 rfl (fun W2 hW2 => fire_Possibly_ok p0 p1 p2 y30 hy31 W2 A0_4 p0.fLooks.length c0_4 rfl ((RdL.arg hr0_4) W2 hW2) A1_0 p1.length c1_0 rfl ((RdL.arg hr1_0) W2 hW2)) ?_
      rintro ⟨A32, n34, c33⟩ hn35
      replace hn35 : n34 = y30.1.length := hn35; subst hn35
      try dsimp only [List.nil_append, List.cons_append, List.set_cons_zero, List.set_cons_succ]
      refine ox_y rfl (y_move_tuple rfl) ?_
      refine ox_y rfl (y_extract (vs := [.slice A32 y30.1.length c33, .int .i64 y30.2]) (v := .slice A32 y30.1.length c33) rfl rfl) ?_
      refine ox_y rfl (y_extract (vs := [.slice A32 y30.1.length c33, .int .i64 y30.2]) (v := .int .i64 y30.2) rfl rfl) ?_
      refine ox_y rfl (y_assign_slice rfl) ?_
      refine ox_y rfl (y_assign_int rfl) ?_
      refine ox_nil ?_
      refine ex_then ?_
      refine cx_seq ?_
      refine cx_region ?_
      refine ox_y rfl (y_loadN 0 [.int .i64 p0.fRise, .int .i64 p0.fFall, .int .i64 p0.fUp, .int .i64 p0.fDown, .slice A0_4 p0.fLooks.length c0_4] ag_24 rfl rfl rfl) ?_
      refine ox_y rfl (y_move_slice rfl) ?_
      refine ox_y rfl (y_move_int rfl) ?_
      obtain ⟨y36, hy37, h⟩ := bind_some h
      refine ox_call [.agg #[.int .i64 p0.fRise, .int .i64 p0.fFall, .int .i64 p0.fUp, .int .i64 p0.fDown, .slice A0_4 p0.fLooks.length c0_4], .slice A1_0 p1.length c1_0, .int .i64 p2] _ _ _ rfl go_24 rfl (fun W2 hW2 => calxref02_Possibly_ok p0 p1 p2 y36 hy37 W2 A0_4 p0.fLooks.length c0_4 rfl ((RdL.arg hr0_4) W2 hW2) A1_0 p1.length c1_0 rfl ((RdL.arg hr1_0) W2 hW2)) ?_
      rintro ⟨A38, n40, c39⟩ hn41
      replace hn41 : n40 = y36.fL.length := hn41; subst hn41
      try dsimp only [List.nil_append, List.cons_append, List.set_cons_zero, List.set_cons_succ]
      refine ox_alloc ze_59 rfl (fun b42 => ?_)
      try dsimp only [List.nil_append, List.cons_append, List.set_cons_zero, List.set_cons_succ]
      refine ox_n rfl (y_storeN 9 [.slice A38 y36.fL.length c39, .int .i64 y36.fE] sz_59 rfl (Nat.le_of_ble_eq_true rfl) rfl rfl rfl) ?_
      refine ox_nil ?_
      refine ex_then ?_
      refine cx_seq ?_
      refine cx_region ?_
      refine ox_y rfl (y_move_slice rfl) ?_
      obtain ⟨y43, hy44, h⟩ := bind_some h
      refine ox_y rfl (y_call [.slice A1_0 p1.length c1_0] go_25 rfl (fun W2 hW2 => fire_CheckPath_ok p1 y43 hy44 W2 A1_0 p1.length c1_0 rfl ((RdL.arg hr1_0) W2 hW2)) rfl) ?_
      refine ox_y rfl (y_move_slice rfl) ?_
      obtain ⟨y45, hy46, h⟩ := bind_some h
      refine ox_y rfl (y_call [.slice A1_0 p1.length c1_0] go_26 rfl (fun W2 hW2 => calxref02_CheckPath_ok p1 y45 hy46 W2 A1_0 p1.length c1_0 rfl ((RdL.arg hr1_0) W2 hW2)) rfl) ?_
      refine ox_y rfl (y_eql rfl rfl) ?_
      refine ox_y rfl (y_move_bool rfl) ?_
      refine ox_join 5 (fun tm0 => (upd (upd (upd (upd (upd (upd (upd (upd (upd (upd (upd tm0 6 (.bool false)) 8 (.pointer (some ⟨b13, 0, none⟩))) 9 (.int .i64 y10.2.2)) 10 (.pointer (some ⟨b16, 0, none⟩))) 11 (.slice A19 y17.1.length c20)) 12 (.int .i64 y17.2)) 13 (.pointer (some ⟨b29, 0, none⟩))) 14 (.slice A32 y30.1.length c33)) 15 (.int .i64 y30.2)) 16 (.pointer (some ⟨b42, 0, none⟩))) 71 (.bool ((y43 == y45) && ((y10.1.fHours == y14.fLeast.fHours) && ((y10.1.fRow == y14.fLeast.fRow) && (y10.1.fSum == y14.fLeast.fSum))))))) (fun tm0 => ?_) (fun key => ?_)
      · refine ox_y rfl (y_move_bool rfl) ?_
        refine ox_join 5 (fun tm0 => (upd (upd (upd (upd (upd (upd (upd (upd (upd (upd tm0 6 (.bool false)) 9 (.int .i64 y10.2.2)) 10 (.pointer (some ⟨b16, 0, none⟩))) 11 (.slice A19 y17.1.length c20)) 12 (.int .i64 y17.2)) 13 (.pointer (some ⟨b29, 0, none⟩))) 14 (.slice A32 y30.1.length c33)) 15 (.int .i64 y30.2)) 16 (.pointer (some ⟨b42, 0, none⟩))) 77 (.bool (((y43 == y45) && ((y10.1.fHours == y14.fLeast.fHours) && ((y10.1.fRow == y14.fLeast.fRow) && (y10.1.fSum == y14.fLeast.fSum)))) && ((y10.2.1.fHours == y14.fMost.fHours) && ((y10.2.1.fRow == y14.fMost.fRow) && (y10.2.1.fSum == y14.fMost.fSum))))))) (fun tm0 => ?_) (fun key => ?_)
        · refine ox_y rfl (y_move_bool rfl) ?_
          refine ox_join 5 (fun tm0 => (upd (upd (upd (upd (upd (upd (upd (upd tm0 6 (.bool false)) 11 (.slice A19 y17.1.length c20)) 12 (.int .i64 y17.2)) 13 (.pointer (some ⟨b29, 0, none⟩))) 14 (.slice A32 y30.1.length c33)) 15 (.int .i64 y30.2)) 16 (.pointer (some ⟨b42, 0, none⟩))) 83 (.bool ((((y43 == y45) && ((y10.1.fHours == y14.fLeast.fHours) && ((y10.1.fRow == y14.fLeast.fRow) && (y10.1.fSum == y14.fLeast.fSum)))) && ((y10.2.1.fHours == y14.fMost.fHours) && ((y10.2.1.fRow == y14.fMost.fRow) && (y10.2.1.fSum == y14.fMost.fSum)))) && (y10.2.2 == y14.fE))))) (fun tm0 => ?_) (fun key => ?_)
          · refine ox_y rfl (y_assign_bool rfl) ?_
            refine ox_nil ?_
            refine ex_then ?_
            refine cx_seq ?_
            refine cx_region ?_
            obtain ⟨y50, hy51, h⟩ := bind_some h
            refine ox_y rfl (y_call [] go_13 rfl (fun W2 hW2 => calxlaw02_sanity_ok  y50 hy51 W2 ) rfl) ?_
            refine ox_y rfl (y_move_bool rfl) ?_
            refine ox_join 2 (fun tm0 => (upd (upd (upd (upd (upd (upd (upd (upd tm0 6 (.bool false)) 11 (.slice A19 y17.1.length c20)) 12 (.int .i64 y17.2)) 13 (.pointer (some ⟨b29, 0, none⟩))) 14 (.slice A32 y30.1.length c33)) 15 (.int .i64 y30.2)) 16 (.pointer (some ⟨b42, 0, none⟩))) 87 (.bool (y50 && ((((y43 == y45) && ((y10.1.fHours == y14.fLeast.fHours) && ((y10.1.fRow == y14.fLeast.fRow) && (y10.1.fSum == y14.fLeast.fSum)))) && ((y10.2.1.fHours == y14.fMost.fHours) && ((y10.2.1.fRow == y14.fMost.fRow) && (y10.2.1.fSum == y14.fMost.fSum)))) && (y10.2.2 == y14.fE)))))) (fun tm0 => ?_) (fun key => ?_)
            · refine ox_y rfl (y_move_bool rfl) ?_
              obtain ⟨b54, hb55, h⟩ := bind_some h
              refine ox_join 5 (fun tm0 => (upd (upd (upd (upd (upd (upd (upd tm0 6 (.bool false)) 12 (.int .i64 y17.2)) 13 (.pointer (some ⟨b29, 0, none⟩))) 14 (.slice A32 y30.1.length c33)) 15 (.int .i64 y30.2)) 16 (.pointer (some ⟨b42, 0, none⟩))) 93 (.bool b54))) (fun tm0 => ?_) (fun key => ?_)
              · refine ox_y rfl (y_move_bool rfl) ?_
                refine ox_join 5 (fun tm0 => (upd (upd (upd (upd (upd tm0 6 (.bool false)) 14 (.slice A32 y30.1.length c33)) 15 (.int .i64 y30.2)) 16 (.pointer (some ⟨b42, 0, none⟩))) 99 (.bool (b54 && (y17.2 == y23.fE))))) (fun tm0 => ?_) (fun key => ?_)
                · refine ox_y rfl (y_move_bool rfl) ?_
                  obtain ⟨b58, hb59, h⟩ := bind_some h
                  refine ox_join 5 (fun tm0 => (upd (upd (upd (upd tm0 6 (.bool false)) 15 (.int .i64 y30.2)) 16 (.pointer (some ⟨b42, 0, none⟩))) 105 (.bool b58))) (fun tm0 => ?_) (fun key => ?_)
                  · refine ox_y rfl (y_move_bool rfl) ?_
                    refine ox_join 5 (fun tm0 => (upd (upd tm0 6 (.bool false)) 111 (.bool (b58 && (y30.2 == y36.fE))))) (fun tm0 => ?_) (fun key => ?_)
                    · refine ox_y rfl (y_assign_bool rfl) ?_
                      refine ox_nil ?_
                      refine ex_then ?_
                      refine cx_ret ?_
                      obtain rfl := Option.some.inj h
                      exact ex_res1 (.inl rfl) rfl (resV_tmp (v := .bool (b58 && (y30.2 == y36.fE))) rfl) (fun W2 hW2 => ⟨rfl, hW2.none⟩)
                    · rcases bool_cases b58 with hp60 | hp60
                      · refine ox_y (sees_t rfl rfl rfl rfl hp60) (y_move_int rfl) ?_
                        refine ox_y (sees_t rfl rfl rfl rfl hp60) (y_fieldAddr fo_59_1 rfl) ?_
                        refine ox_y (sees_t rfl rfl rfl rfl hp60) (y_load1 9 (v := .int .i64 y36.fE) sc_28 rfl rfl rfl) ?_
                        refine ox_y (sees_t rfl rfl rfl rfl hp60) (y_eql rfl rfl) ?_
                        refine ox_y rfl (y_pick_tb (congrArg Value.bool hp60) rfl) ?_
                        exact key _ _ (keep (keep rfl rfl) (congrArg Value.bool (and_t hp60)))
                      · refine ox_skip (sees_f rfl rfl rfl rfl hp60) ?_
                        refine ox_skip (sees_f rfl rfl rfl rfl hp60) ?_
                        refine ox_skip (sees_f rfl rfl rfl rfl hp60) ?_
                        refine ox_skip (sees_f rfl rfl rfl rfl hp60) ?_
                        refine ox_y rfl (y_pick_fb (congrArg Value.bool hp60) rfl) ?_
                        exact key _ _ (keep (keep rfl rfl) (congrArg Value.bool (and_f hp60)))
                  · clear h; rcases ite_some hb59 with ⟨hp57, h⟩ | ⟨hp57, h⟩
                    · refine ox_y (sees_t rfl rfl rfl rfl hp57) (y_move_slice rfl) ?_
                      refine ox_y (sees_t rfl rfl rfl rfl hp57) (y_fieldAddr fo_59_0 rfl) ?_
                      refine ox_y (sees_t rfl rfl rfl rfl hp57) (y_load1 9 (v := .slice A38 y36.fL.length c39) sc_55 rfl rfl rfl) ?_
                      obtain ⟨y61, hy62, h⟩ := bind_some h
                      refine ox_y (sees_t rfl rfl rfl rfl hp57) (y_call [.slice A32 y30.1.length c33, .slice A38 y36.fL.length c39] go_27 rfl (fun W2 hW2 => calxref02_SameSpans_ok y30.1 y36.fL y61 hy62 W2 A32 y30.1.length c33 rfl ((RdL.row 7 rfl) W2 hW2) A38 y36.fL.length c39 rfl ((RdL.row 8 rfl) W2 hW2)) rfl) ?_
                      refine ox_y rfl (y_pick_tb (congrArg Value.bool hp57) rfl) ?_
                      obtain rfl := Option.some.inj h
                      exact key _ _ (keep (keep (keep (keep rfl rfl) rfl) rfl) rfl)
                    · refine ox_skip (sees_f rfl rfl rfl rfl hp57) ?_
                      refine ox_skip (sees_f rfl rfl rfl rfl hp57) ?_
                      refine ox_skip (sees_f rfl rfl rfl rfl hp57) ?_
                      refine ox_skip (sees_f rfl rfl rfl rfl hp57) ?_
                      refine ox_y rfl (y_pick_fb (congrArg Value.bool hp57) rfl) ?_
                      obtain rfl := Option.some.inj h
                      exact key _ _ (keep (keep (keep (keep rfl rfl) rfl) rfl) rfl)
                · rcases bool_cases b54 with hp56 | hp56
                  · refine ox_y (sees_t rfl rfl rfl rfl hp56) (y_move_int rfl) ?_
                    refine ox_y (sees_t rfl rfl rfl rfl hp56) (y_fieldAddr fo_59_1 rfl) ?_
                    refine ox_y (sees_t rfl rfl rfl rfl hp56) (y_load1 6 (v := .int .i64 y23.fE) sc_28 rfl rfl rfl) ?_
                    refine ox_y (sees_t rfl rfl rfl rfl hp56) (y_eql rfl rfl) ?_
                    refine ox_y rfl (y_pick_tb (congrArg Value.bool hp56) rfl) ?_
                    exact key _ _ (keep (keep (keep (keep (keep rfl rfl) rfl) rfl) rfl) (congrArg Value.bool (and_t hp56)))
                  · refine ox_skip (sees_f rfl rfl rfl rfl hp56) ?_
                    refine ox_skip (sees_f rfl rfl rfl rfl hp56) ?_
                    refine ox_skip (sees_f rfl rfl rfl rfl hp56) ?_
                    refine ox_skip (sees_f rfl rfl rfl rfl hp56) ?_
                    refine ox_y rfl (y_pick_fb (congrArg Value.bool hp56) rfl) ?_
                    exact key _ _ (keep (keep (keep (keep (keep rfl rfl) rfl) rfl) rfl) (congrArg Value.bool (and_f hp56)))
              · clear h; rcases ite_some hb55 with ⟨hp53, h⟩ | ⟨hp53, h⟩
                · refine ox_y (sees_t rfl rfl rfl rfl hp53) (y_move_slice rfl) ?_
                  refine ox_y (sees_t rfl rfl rfl rfl hp53) (y_fieldAddr fo_59_0 rfl) ?_
                  refine ox_y (sees_t rfl rfl rfl rfl hp53) (y_load1 6 (v := .slice A25 y23.fL.length c26) sc_55 rfl rfl rfl) ?_
                  obtain ⟨y63, hy64, h⟩ := bind_some h
                  refine ox_y (sees_t rfl rfl rfl rfl hp53) (y_call [.slice A19 y17.1.length c20, .slice A25 y23.fL.length c26] go_27 rfl (fun W2 hW2 => calxref02_SameSpans_ok y17.1 y23.fL y63 hy64 W2 A19 y17.1.length c20 rfl ((RdL.row 4 rfl) W2 hW2) A25 y23.fL.length c26 rfl ((RdL.row 5 rfl) W2 hW2)) rfl) ?_
                  refine ox_y rfl (y_pick_tb (congrArg Value.bool hp53) rfl) ?_
                  obtain rfl := Option.some.inj h
                  exact key _ _ (keep (keep (keep (keep (keep (keep (keep rfl rfl) rfl) rfl) rfl) rfl) rfl) rfl)
                · refine ox_skip (sees_f rfl rfl rfl rfl hp53) ?_
                  refine ox_skip (sees_f rfl rfl rfl rfl hp53) ?_
                  refine ox_skip (sees_f rfl rfl rfl rfl hp53) ?_
                  refine ox_skip (sees_f rfl rfl rfl rfl hp53) ?_
                  refine ox_y rfl (y_pick_fb (congrArg Value.bool hp53) rfl) ?_
                  obtain rfl := Option.some.inj h
                  exact key _ _ (keep (keep (keep (keep (keep (keep (keep rfl rfl) rfl) rfl) rfl) rfl) rfl) rfl)
            · rcases bool_cases y50 with hp52 | hp52
              · refine ox_y (sees_t rfl rfl rfl rfl hp52) (y_move_bool rfl) ?_
                refine ox_y rfl (y_pick_tb (congrArg Value.bool hp52) rfl) ?_
                exact key _ _ (keep (keep (keep (keep (keep (keep (keep (keep rfl rfl) rfl) rfl) rfl) rfl) rfl) rfl) (congrArg Value.bool (and_t hp52)))
              · refine ox_skip (sees_f rfl rfl rfl rfl hp52) ?_
                refine ox_y rfl (y_pick_fb (congrArg Value.bool hp52) rfl) ?_
                exact key _ _ (keep (keep (keep (keep (keep (keep (keep (keep rfl rfl) rfl) rfl) rfl) rfl) rfl) rfl) (congrArg Value.bool (and_f hp52)))
          · rcases bool_cases (((y43 == y45) && ((y10.1.fHours == y14.fLeast.fHours) && ((y10.1.fRow == y14.fLeast.fRow) && (y10.1.fSum == y14.fLeast.fSum)))) && ((y10.2.1.fHours == y14.fMost.fHours) && ((y10.2.1.fRow == y14.fMost.fRow) && (y10.2.1.fSum == y14.fMost.fSum)))) with hp49 | hp49
            · refine ox_y (sees_t rfl rfl rfl rfl hp49) (y_move_int rfl) ?_
              refine ox_y (sees_t rfl rfl rfl rfl hp49) (y_fieldAddr fo_53_2 rfl) ?_
              refine ox_y (sees_t rfl rfl rfl rfl hp49) (y_load1 3 (v := .int .i64 y14.fE) sc_28 rfl rfl rfl) ?_
              refine ox_y (sees_t rfl rfl rfl rfl hp49) (y_eql rfl rfl) ?_
              refine ox_y rfl (y_pick_tb (congrArg Value.bool hp49) rfl) ?_
              exact key _ _ (keep (keep (keep (keep (keep (keep (keep (keep rfl rfl) rfl) rfl) rfl) rfl) rfl) rfl) (congrArg Value.bool (and_t hp49)))
            · refine ox_skip (sees_f rfl rfl rfl rfl hp49) ?_
              refine ox_skip (sees_f rfl rfl rfl rfl hp49) ?_
              refine ox_skip (sees_f rfl rfl rfl rfl hp49) ?_
              refine ox_skip (sees_f rfl rfl rfl rfl hp49) ?_
              refine ox_y rfl (y_pick_fb (congrArg Value.bool hp49) rfl) ?_
              exact key _ _ (keep (keep (keep (keep (keep (keep (keep (keep rfl rfl) rfl) rfl) rfl) rfl) rfl) rfl) (congrArg Value.bool (and_f hp49)))
        · rcases bool_cases ((y43 == y45) && ((y10.1.fHours == y14.fLeast.fHours) && ((y10.1.fRow == y14.fLeast.fRow) && (y10.1.fSum == y14.fLeast.fSum)))) with hp48 | hp48
          · refine ox_y (sees_t rfl rfl rfl rfl hp48) (y_loadN 2 [.int .i64 y10.2.1.fHours, .int .i64 y10.2.1.fRow, .int .i64 y10.2.1.fSum] ag_49 rfl rfl rfl) ?_
            refine ox_y (sees_t rfl rfl rfl rfl hp48) (y_fieldAddr fo_53_1 rfl) ?_
            refine ox_y (sees_t rfl rfl rfl rfl hp48) (y_loadN 3 [.int .i64 y14.fMost.fHours, .int .i64 y14.fMost.fRow, .int .i64 y14.fMost.fSum] ag_49 rfl rfl rfl) ?_
            refine ox_y (sees_t rfl rfl rfl rfl hp48) (y_eqla (b := ((y10.2.1.fHours == y14.fMost.fHours) && ((y10.2.1.fRow == y14.fMost.fRow) && (y10.2.1.fSum == y14.fMost.fSum)))) eg_49 rfl rfl (fun _ => (eqS3 fl_49 (part1 sc_3 rfl) (part1 sc_3 rfl) (part1 sc_3 rfl) (part1 sc_3 rfl) (part1 sc_3 rfl) (part1 sc_3 rfl) (run_equalIn_int _ _ _ _ _ _ _ ui_3) (run_equalIn_int _ _ _ _ _ _ _ ui_3) (run_equalIn_int _ _ _ _ _ _ _ ui_3)))) ?_
            refine ox_y rfl (y_pick_tb (congrArg Value.bool hp48) rfl) ?_
            exact key _ _ (keep (keep (keep (keep (keep (keep (keep (keep (keep (keep rfl rfl) rfl) rfl) rfl) rfl) rfl) rfl) rfl) rfl) (congrArg Value.bool (and_t hp48)))
          · refine ox_skip (sees_f rfl rfl rfl rfl hp48) ?_
            refine ox_skip (sees_f rfl rfl rfl rfl hp48) ?_
            refine ox_skip (sees_f rfl rfl rfl rfl hp48) ?_
            refine ox_skip (sees_f rfl rfl rfl rfl hp48) ?_
            refine ox_y rfl (y_pick_fb (congrArg Value.bool hp48) rfl) ?_
            exact key _ _ (keep (keep (keep (keep (keep (keep (keep (keep (keep (keep rfl rfl) rfl) rfl) rfl) rfl) rfl) rfl) rfl) rfl) (congrArg Value.bool (and_f hp48)))
      · rcases bool_cases (y43 == y45) with hp47 | hp47
        · refine ox_y (sees_t rfl rfl rfl rfl hp47) (y_loadN 1 [.int .i64 y10.1.fHours, .int .i64 y10.1.fRow, .int .i64 y10.1.fSum] ag_49 rfl rfl rfl) ?_
          refine ox_y (sees_t rfl rfl rfl rfl hp47) (y_fieldAddr fo_53_0 rfl) ?_
          refine ox_y (sees_t rfl rfl rfl rfl hp47) (y_loadN 3 [.int .i64 y14.fLeast.fHours, .int .i64 y14.fLeast.fRow, .int .i64 y14.fLeast.fSum] ag_49 rfl rfl rfl) ?_
          refine ox_y (sees_t rfl rfl rfl rfl hp47) (y_eqla (b := ((y10.1.fHours == y14.fLeast.fHours) && ((y10.1.fRow == y14.fLeast.fRow) && (y10.1.fSum == y14.fLeast.fSum)))) eg_49 rfl rfl (fun _ => (eqS3 fl_49 (part1 sc_3 rfl) (part1 sc_3 rfl) (part1 sc_3 rfl) (part1 sc_3 rfl) (part1 sc_3 rfl) (part1 sc_3 rfl) (run_equalIn_int _ _ _ _ _ _ _ ui_3) (run_equalIn_int _ _ _ _ _ _ _ ui_3) (run_equalIn_int _ _ _ _ _ _ _ ui_3)))) ?_
          refine ox_y rfl (y_pick_tb (congrArg Value.bool hp47) rfl) ?_
          exact key _ _ (keep (keep (keep (keep (keep (keep (keep (keep (keep (keep (keep rfl rfl) rfl) rfl) rfl) rfl) rfl) rfl) rfl) rfl) rfl) (congrArg Value.bool (and_t hp47)))
        · refine ox_skip (sees_f rfl rfl rfl rfl hp47) ?_
          refine ox_skip (sees_f rfl rfl rfl rfl hp47) ?_
          refine ox_skip (sees_f rfl rfl rfl rfl hp47) ?_
          refine ox_skip (sees_f rfl rfl rfl rfl hp47) ?_
          refine ox_y rfl (y_pick_fb (congrArg Value.bool hp47) rfl) ?_
          exact key _ _ (keep (keep (keep (keep (keep (keep (keep (keep (keep (keep (keep rfl rfl) rfl) rfl) rfl) rfl) rfl) rfl) rfl) rfl) rfl) (congrArg Value.bool (and_f hp47)))
  · clear h; rcases ite_some hb6 with ⟨hp4, h⟩ | ⟨hp4, h⟩
    · refine ox_skip (sees_f rfl rfl rfl rfl hp4) ?_
      refine ox_skip (sees_f rfl rfl rfl rfl hp4) ?_
      refine ox_skip (sees_f rfl rfl rfl rfl hp4) ?_
      refine ox_y rfl (y_pick_tb (congrArg Value.bool hp4) rfl) ?_
      obtain rfl := Option.some.inj h
      exact key _ _ (keep (keep (keep (keep (keep rfl rfl) rfl) rfl) rfl) rfl)
    · refine ox_y (sees_t rfl rfl rfl rfl hp4) (y_move_slice rfl) ?_
      obtain ⟨y65, hy66, h⟩ := bind_some h
      refine ox_y (sees_t rfl rfl rfl rfl hp4) (y_call [.slice A1_0 p1.length c1_0] go_18 rfl (fun W2 hW2 => calxlaw02_path_ok p1 y65 hy66 W2 A1_0 p1.length c1_0 rfl ((RdL.arg hr1_0) W2 hW2)) rfl) ?_
      refine ox_y (sees_t rfl rfl rfl rfl hp4) (y_not rfl) ?_
      refine ox_y rfl (y_pick_fb (congrArg Value.bool hp4) rfl) ?_
      obtain rfl := Option.some.inj h
      exact key _ _ (keep (keep (keep (keep (keep rfl rfl) rfl) rfl) rfl) rfl)

end Go.Proofs.Ytndajeiecdmhnaa
