/- The calls hand back what the plain functions say. -/
import Derived.Test.YtndajeiecdmhnaaF
import Derived.Test.YtndajeiecdmhnaaGy
import Derived.Test.YtndajeiecdmhnaaC0
import Derived.Test.YtndajeiecdmhnaaC1
import Derived.Test.YtndajeiecdmhnaaC6
set_option linter.unusedVariables false
set_option maxHeartbeats 4000000
namespace Go.Proofs.Ytndajeiecdmhnaa
open Go.RowKit (Below)
attribute [local irreducible] OX QX CX EX OpY Calls CallsIn

/-! calx/calxlaw02.short -/
set_option maxRecDepth 100000 in
theorem calxlaw02_short_ok (p0_l : (List TSpot)) (res : Bool) (h : calxlaw02_short p0_l = some res) (W : World) (A0_0 : Option Addr) (n0_0 c0_0 : Nat) (hn0_0 : n0_0 = p0_l.length) (hr0_0 : Rd W A0_0 n0_0 c0_0 (encL TSpot_cells p0_l)) :
    Calls Try.prog 46 [.slice A0_0 n0_0 c0_0].toArray W fun e W2 => e = .returned (.bool res) ∧ Ext W W2 [] := by
  subst hn0_0
  unfold calxlaw02_short at h
  refine calls_enter (m := 16) Try.func46 rfl rfl (Nat.le_of_ble_eq_true rfl) ?_
  refine cx_seq ?_
  refine cx_region ?_
  refine ox_y rfl (y_assign_bool rfl) ?_
  refine ox_nil ?_
  refine ex_then ?_
  refine cx_seq ?_
  refine cx_region ?_
  refine ox_y rfl (y_move_slice rfl) ?_
  refine ox_y rfl (y_len (us := []) us_46 rfl) ?_
  refine ox_y rfl (y_leq rfl rfl) ?_
  refine ox_y rfl (y_move_bool rfl) ?_
  refine ox_join 9 (fun tm0 => (upd (upd tm0 2 (.bool false)) 15 (.bool ((decide (((p0_l.length : Nat) : Int) ≤ 12)) || ((decide (24 < ((p0_l.length : Nat) : Int))) && (decide (((p0_l.length : Nat) : Int) ≤ 40))))))) (fun tm0 => ?_) (fun key => ?_)
  · refine ox_y rfl (y_assign_bool rfl) ?_
    refine ox_nil ?_
    refine ex_then ?_
    refine cx_ret ?_
    obtain rfl := Option.some.inj h
    exact ex_res1 (.inl rfl) rfl (resV_tmp (v := .bool ((decide (((p0_l.length : Nat) : Int) ≤ 12)) || ((decide (24 < ((p0_l.length : Nat) : Int))) && (decide (((p0_l.length : Nat) : Int) ≤ 40))))) rfl) (fun W2 hW2 => ⟨rfl, hW2.none⟩)
  · rcases bool_cases (decide (((p0_l.length : Nat) : Int) ≤ 12)) with hp1 | hp1
    · refine ox_skip (sees_f rfl rfl rfl rfl hp1) ?_
      refine ox_skip (sees_f rfl rfl rfl rfl hp1) ?_
      refine ox_skip (sees_f rfl rfl rfl rfl hp1) ?_
      refine ox_skip (sees_f rfl rfl rfl rfl hp1) ?_
      refine ox_skip rfl ?_
      refine ox_skip rfl ?_
      refine ox_skip rfl ?_
      refine ox_skip (sees_f rfl rfl rfl rfl hp1) ?_
      refine ox_y rfl (y_pick_tb (congrArg Value.bool hp1) rfl) ?_
      exact key _ _ (keep (keep rfl rfl) (congrArg Value.bool (or_t hp1)))
    · refine ox_y (sees_t rfl rfl rfl rfl hp1) (y_move_slice rfl) ?_
      refine ox_y (sees_t rfl rfl rfl rfl hp1) (y_len (us := []) us_46 rfl) ?_
      refine ox_y (sees_t rfl rfl rfl rfl hp1) (y_gtr rfl rfl) ?_
      refine ox_y (sees_t rfl rfl rfl rfl hp1) (y_move_bool rfl) ?_
      refine ox_join 4 (fun tm0 => (upd (upd (upd tm0 2 (.bool false)) 6 (.bool (decide (((p0_l.length : Nat) : Int) ≤ 12)))) 14 (.bool ((decide (24 < ((p0_l.length : Nat) : Int))) && (decide (((p0_l.length : Nat) : Int) ≤ 40)))))) (fun tm0 => ?_) (fun key => ?_)
      · refine ox_y rfl (y_pick_fb (congrArg Value.bool hp1) rfl) ?_
        exact key _ _ (keep (keep rfl rfl) (congrArg Value.bool (or_f hp1)))
      · rcases bool_cases (decide (24 < ((p0_l.length : Nat) : Int))) with hp2 | hp2
        · refine ox_y (sees_t rfl rfl rfl rfl hp2) (y_move_slice rfl) ?_
          refine ox_y (sees_t rfl rfl rfl rfl hp2) (y_len (us := []) us_46 rfl) ?_
          refine ox_y (sees_t rfl rfl rfl rfl hp2) (y_leq rfl rfl) ?_
          refine ox_y (sees_t rfl rfl rfl rfl hp1) (y_pick_tb (congrArg Value.bool hp2) rfl) ?_
          exact key _ _ (keep (keep (keep rfl rfl) rfl) (congrArg Value.bool (and_t hp2)))
        · refine ox_skip (sees_f rfl rfl rfl rfl hp2) ?_
          refine ox_skip (sees_f rfl rfl rfl rfl hp2) ?_
          refine ox_skip (sees_f rfl rfl rfl rfl hp2) ?_
          refine ox_y (sees_t rfl rfl rfl rfl hp1) (y_pick_fb (congrArg Value.bool hp2) rfl) ?_
          exact key _ _ (keep (keep (keep rfl rfl) rfl) (congrArg Value.bool (and_f hp2)))

/-! calx/fire.all -/
set_option maxRecDepth 100000 in
theorem fire_all_ok (p0_f : TFire) (p1_l : (List TSpot)) (p2_end : TSpan → Option Int) (res : ((List Int) × Int)) (h : fire_all p0_f p1_l p2_end = some res) (W : World) (A0_4 : Option Addr) (n0_4 c0_4 : Nat) (hn0_4 : n0_4 = p0_f.fLooks.length) (hr0_4 : Rd W A0_4 n0_4 c0_4 (encL TLook_cells p0_f.fLooks)) (A1_0 : Option Addr) (n1_0 c1_0 : Nat) (hn1_0 : n1_0 = p1_l.length) (hr1_0 : Rd W A1_0 n1_0 c1_0 (encL TSpot_cells p1_l)) (fid2 : Nat) (caps2 : List Value) (hgo2 : goes Try.prog fid2 = true) (hof2 : ∀ W2, Below W.heap.size W W2 → ∀ x y, p2_end x = some y → Calls Try.prog fid2 (([.agg #[.int .i64 x.fLo, .int .i64 x.fHi]] : List Value) ++ caps2).toArray W2 fun e W3 => e = .returned (.int .i64 y) ∧ Ext W2 W3 []) :
    Calls Try.prog 89 [.agg #[.int .i64 p0_f.fRise, .int .i64 p0_f.fFall, .int .i64 p0_f.fUp, .int .i64 p0_f.fDown, .slice A0_4 n0_4 c0_4], .slice A1_0 n1_0 c1_0, .func (.func fid2) #[] caps2.toArray].toArray W fun e W2 => ∃ x : Option Addr × Nat × Nat, x.2.1 = res.1.length ∧ e = .returned (.tuple #[.slice x.1 x.2.1 x.2.2, .int .i64 res.2]) ∧ Ext W W2 [rowR x.1 x.2.2 3 1 x.2.1 (encL cI res.1)] := by
  subst hn0_4
  subst hn1_0
  unfold fire_all at h
  refine calls_enter (m := 54) Try.func89 rfl rfl (Nat.le_of_ble_eq_true rfl) ?_
  refine cx_seq ?_
  refine cx_region ?_
  refine ox_box [.int .i64 p0_f.fRise, .int .i64 p0_f.fFall, .int .i64 p0_f.fUp, .int .i64 p0_f.fDown, .slice A0_4 p0_f.fLooks.length c0_4] rfl rfl rfl (fun b1 => ?_)
  refine ox_y rfl (y_assign_slice rfl) ?_
  refine ox_y rfl (y_assign_int rfl) ?_
  refine ox_nil ?_
  refine ex_then ?_
  refine cx_seq ?_
  refine cx_seq ?_
  refine cx_draws 6 mixed (by kernel_rfl) (by kernel_rfl) ?_
  refine qx_y rfl (y_loadN 0 [.int .i64 p0_f.fRise, .int .i64 p0_f.fFall, .int .i64 p0_f.fUp, .int .i64 p0_f.fDown, .slice A0_4 p0_f.fLooks.length c0_4] ag_24 rfl rfl rfl) ?_
  refine qx_y rfl (y_loadN 0 [.int .i64 p0_f.fRise, .int .i64 p0_f.fFall, .int .i64 p0_f.fUp, .int .i64 p0_f.fDown, .slice A0_4 p0_f.fLooks.length c0_4] ag_24 rfl rfl rfl) ?_
  refine qx_y rfl (y_move_slice rfl) ?_
  obtain ⟨y2, hy3, h⟩ := bind_some h
  refine qx_y rfl (y_call [.agg #[.int .i64 p0_f.fRise, .int .i64 p0_f.fFall, .int .i64 p0_f.fUp, .int .i64 p0_f.fDown, .slice A0_4 p0_f.fLooks.length c0_4], .slice A1_0 p1_l.length c1_0] go_84 rfl (fun W2 hW2 => fire_listed_ok p0_f p1_l y2 hy3 W2 A0_4 p0_f.fLooks.length c0_4 rfl ((RdL.arg hr0_4) W2 hW2) A1_0 p1_l.length c1_0 rfl ((RdL.arg hr1_0) W2 hW2)) rfl) ?_
  obtain ⟨y4, hy5, h⟩ := bind_some h
  refine qx_y rfl (y_call [.agg #[.int .i64 p0_f.fRise, .int .i64 p0_f.fFall, .int .i64 p0_f.fUp, .int .i64 p0_f.fDown, .slice A0_4 p0_f.fLooks.length c0_4], .int .i64 y2] go_55 rfl (fun W2 hW2 => fire_agreed_ok p0_f y2 y4 hy5 W2 A0_4 p0_f.fLooks.length c0_4 rfl ((RdL.arg hr0_4) W2 hW2)) rfl) ?_
  refine qx_y rfl (y_assign_int rfl) ?_
  refine qx_nil ?_
  refine ox_nil ?_
  refine ex_then ?_
  refine cx_seq ?_
  refine cx_region ?_
  refine ox_y rfl (y_move_int rfl) ?_
  refine ox_y rfl (y_neq rfl rfl) ?_
  refine ox_nil ?_
  refine ex_then ?_
  rcases ite_some h with ⟨hp6, h⟩ | ⟨hp6, h⟩
  · refine cx_true (congrArg Value.bool hp6) ?_
    refine cx_seq ?_
    refine cx_region ?_
    refine ox_y rfl (y_move_int rfl) ?_
    refine ox_y rfl (y_assign_slice rfl) ?_
    refine ox_y rfl (y_assign_int rfl) ?_
    refine ox_nil ?_
    refine ex_then ?_
    refine cx_ret ?_
    refine ex_then_ret ?_
    obtain rfl := Option.some.inj h
    exact ex_res2 (.inl rfl) rfl (resV_tmp (v := .slice none 0 0) rfl) (resV_tmp (v := .int .i64 y4) rfl) (fun W2 hW2 => ⟨(none, 0, 0), rfl, rfl, ((hW2.nilrow 3 1).pick 1 rfl)⟩)
  · refine cx_false (congrArg Value.bool hp6) ?_
    refine cx_skip ?_
    refine ex_then ?_
    refine cx_seq ?_
    refine cx_region ?_
    refine ox_makeMapV 26 TSpot_enc TSpot_okk kI 0 rfl (fun b7 => ?_)
    refine ox_y rfl (y_assign_map rfl) ?_
    refine ox_nil ?_
    refine ex_then ?_
    refine cx_seq ?_
    refine cx_region ?_
    refine ox_y rfl (y_assign_slice rfl) ?_
    refine ox_nil ?_
    refine ex_then ?_
    refine cx_seq ?_
    refine cx_seq ?_
    refine cx_region ?_
    refine ox_y rfl (y_move_slice rfl) ?_
    refine ox_y rfl (y_len (us := []) us_46 rfl) ?_
    refine ox_y rfl (y_move_int rfl) ?_
    refine ox_nil ?_
    refine ex_then ?_
    refine cx_block ?_
    obtain ⟨u11, hl32, h⟩ := bind_some h
    refine cx_nilrow 3 1 ?_
    refine cx_loop (fun (s : (Int × (List (TSpot × Int)) × (List Int))) L tm => ∃ (tm0 : Nat → Value) (A2_s : Option Addr) (c2_s : Nat) (n2_s : Nat), n2_s = s.2.2.length ∧ L = [cellsR b1 24 [.int .i64 p0_f.fRise, .int .i64 p0_f.fFall, .int .i64 p0_f.fUp, .int .i64 p0_f.fDown, .slice A0_4 p0_f.fLooks.length c0_4], mapV Try.prog 26 TSpot_enc TSpot_okk kI 0 b7 s.2.1, rowR A2_s c2_s 3 1 n2_s (encL cI s.2.2)] ∧ tm = (upd (upd (upd (upd (upd (upd (upd (upd (upd (upd (upd (upd (upd tm0 0 (.agg #[.int .i64 p0_f.fRise, .int .i64 p0_f.fFall, .int .i64 p0_f.fUp, .int .i64 p0_f.fDown, .slice A0_4 p0_f.fLooks.length c0_4])) 1 (.slice A1_0 p1_l.length c1_0)) 2 (.func (.func fid2) #[] caps2.toArray)) 3 (.pointer (some ⟨b1, 0, none⟩))) 6 (.slice none 0 0)) 7 (.int .i64 0)) 8 (.int .i64 y4)) 21 (.bool (y4 != 0))) 9 (.map (some b7))) 10 (.slice A2_s n2_s c2_s)) 24 (.slice A1_0 p1_l.length c1_0)) 25 (.int .i64 ((p1_l.length : Nat) : Int))) 26 (.int .i64 s.1))) (fun s e L tm => e = .exit 0 ∧ ∃ (tm0 : Nat → Value) (A2_s : Option Addr) (c2_s : Nat) (n2_s : Nat), n2_s = s.2.2.length ∧ L = [cellsR b1 24 [.int .i64 p0_f.fRise, .int .i64 p0_f.fFall, .int .i64 p0_f.fUp, .int .i64 p0_f.fDown, .slice A0_4 p0_f.fLooks.length c0_4], mapV Try.prog 26 TSpot_enc TSpot_okk kI 0 b7 s.2.1, rowR A2_s c2_s 3 1 n2_s (encL cI s.2.2)] ∧ tm = (upd (upd (upd (upd (upd (upd (upd (upd (upd (upd (upd (upd (upd tm0 0 (.agg #[.int .i64 p0_f.fRise, .int .i64 p0_f.fFall, .int .i64 p0_f.fUp, .int .i64 p0_f.fDown, .slice A0_4 p0_f.fLooks.length c0_4])) 1 (.slice A1_0 p1_l.length c1_0)) 2 (.func (.func fid2) #[] caps2.toArray)) 3 (.pointer (some ⟨b1, 0, none⟩))) 6 (.slice none 0 0)) 7 (.int .i64 0)) 8 (.int .i64 y4)) 21 (.bool (y4 != 0))) 9 (.map (some b7))) 10 (.slice A2_s n2_s c2_s)) 24 (.slice A1_0 p1_l.length c1_0)) 25 (.int .i64 ((p1_l.length : Nat) : Int))) 26 (.int .i64 s.1))) hl32 ⟨_, none, 0, 0, rfl, rfl, (keep (keep (keep (keep (keep (keep (keep (keep (keep (keep (keep (keep (keep rfl rfl) rfl) rfl) rfl) rfl) rfl) rfl) rfl) rfl) rfl) rfl) rfl) rfl)⟩ ?_ ?_
    · rintro s10 L tm st ⟨tm0_s10, A2_s10, c2_s10, n2_s10, rfl, rfl, rfl⟩ h
      unfold fire_all_l1 at h
      refine cx_seq ?_
      refine cx_region ?_
      refine ox_y rfl (y_lss rfl rfl) ?_
      refine ox_nil ?_
      refine ex_then ?_
      refine cx_seq ?_
      rcases ite_some h with ⟨hp12, h⟩ | ⟨hp12, h⟩
      · refine cx_true (congrArg Value.bool hp12) ?_
        refine cx_skip ?_
        refine ex_then ?_
        refine cx_seq ?_
        refine cx_block ?_
        refine cx_seq ?_
        refine cx_region ?_
        obtain ⟨hg13, h⟩ := guardO_some h
        refine ox_y rfl (y_indexR sl_46 (by decide) hg13.1 hg13.2 (RdL.arg hr1_0) (encL_len TSpot_cells_len rfl) rfl rfl) ?_
        refine ox_y rfl (y_loadRN (A := A1_0) (j := (Int.toNat s10.1 * 2)) [.int .i64 ((rdL p1_l s10.1).fFoot), .int .i64 ((rdL p1_l s10.1).fHour)] ag_26 (Nat.succ_pos _) (RdL.arg hr1_0) rfl (encL_gets TSpot_cells_len hg13.1 (lt_nat hg13.2 rfl))) ?_
        refine ox_alloc ze_26 rfl (fun b14 => ?_)
        refine ox_n rfl (y_storeN 3 [.int .i64 ((rdL p1_l s10.1).fFoot), .int .i64 ((rdL p1_l s10.1).fHour)] sz_26 rfl (Nat.le_of_ble_eq_true rfl) rfl rfl rfl) ?_
        refine ox_nil ?_
        refine ex_then ?_
        refine cx_seq ?_
        refine cx_seq ?_
        refine cx_region ?_
        refine ox_y rfl (y_move_map rfl) ?_
        refine ox_y rfl (y_loadN 3 [.int .i64 ((rdL p1_l s10.1).fFoot), .int .i64 ((rdL p1_l s10.1).fHour)] ag_26 rfl rfl rfl) ?_
        obtain ⟨hg15, h⟩ := guardO_some h
        refine ox_y rfl (y_lookupV2 (k := (TSpot.mk ((rdL p1_l s10.1).fFoot) ((rdL p1_l s10.1).fHour))) (MpL.own 1 rfl) ke_26 um_146 ze_3 rfl rfl hg15) ?_
        refine ox_y rfl (y_move_tuple rfl) ?_
        refine ox_y rfl (y_extract (vs := [.int .i64 (mgetV 0 s10.2.1 (TSpot.mk ((rdL p1_l s10.1).fFoot) ((rdL p1_l s10.1).fHour))), .bool (mhasV s10.2.1 (TSpot.mk ((rdL p1_l s10.1).fFoot) ((rdL p1_l s10.1).fHour)))]) (v := .int .i64 (mgetV 0 s10.2.1 (TSpot.mk ((rdL p1_l s10.1).fFoot) ((rdL p1_l s10.1).fHour)))) rfl rfl) ?_
        refine ox_y rfl (y_extract (vs := [.int .i64 (mgetV 0 s10.2.1 (TSpot.mk ((rdL p1_l s10.1).fFoot) ((rdL p1_l s10.1).fHour))), .bool (mhasV s10.2.1 (TSpot.mk ((rdL p1_l s10.1).fFoot) ((rdL p1_l s10.1).fHour)))]) (v := .bool (mhasV s10.2.1 (TSpot.mk ((rdL p1_l s10.1).fFoot) ((rdL p1_l s10.1).fHour)))) rfl rfl) ?_
        refine ox_y rfl (y_assign_int rfl) ?_
        refine ox_y rfl (y_assign_bool rfl) ?_
        refine ox_nil ?_
        refine ex_then ?_
        refine cx_seq ?_
        refine cx_region ?_
        refine ox_y rfl (y_move_bool rfl) ?_
        refine ox_y rfl (y_not rfl) ?_
        refine ox_nil ?_
        refine ex_then ?_
        rcases ite_some h with ⟨hp16, h⟩ | ⟨hp16, h⟩
        · refine cx_true (congrArg Value.bool hp16) ?_
          refine cx_draws 8 mixed (by kernel_rfl) (by kernel_rfl) ?_
          refine qx_y rfl (y_move_map rfl) ?_
          refine qx_y rfl (y_loadN 3 [.int .i64 ((rdL p1_l s10.1).fFoot), .int .i64 ((rdL p1_l s10.1).fHour)] ag_26 rfl rfl rfl) ?_
          refine qx_y rfl (y_move (v := .func (.func fid2) #[] caps2.toArray) rfl) ?_
          refine qx_y rfl (y_loadN 0 [.int .i64 p0_f.fRise, .int .i64 p0_f.fFall, .int .i64 p0_f.fUp, .int .i64 p0_f.fDown, .slice A0_4 p0_f.fLooks.length c0_4] ag_24 rfl rfl rfl) ?_
          refine qx_y rfl (y_loadN 3 [.int .i64 ((rdL p1_l s10.1).fFoot), .int .i64 ((rdL p1_l s10.1).fHour)] ag_26 rfl rfl rfl) ?_
          obtain ⟨y17, hy18, h⟩ := bind_some h
          refine qx_y rfl (y_call [.agg #[.int .i64 p0_f.fRise, .int .i64 p0_f.fFall, .int .i64 p0_f.fUp, .int .i64 p0_f.fDown, .slice A0_4 p0_f.fLooks.length c0_4], .agg #[.int .i64 ((rdL p1_l s10.1).fFoot), .int .i64 ((rdL p1_l s10.1).fHour)]] go_57 rfl (fun W2 hW2 => fire_ends_ok p0_f (TSpot.mk ((rdL p1_l s10.1).fFoot) ((rdL p1_l s10.1).fHour)) y17 hy18 W2 A0_4 p0_f.fLooks.length c0_4 rfl ((RdL.arg hr0_4) W2 hW2)) rfl) ?_
          refine qx_y rfl (y_fieldN [.int .i64 y17.fSpan.fLo, .int .i64 y17.fSpan.fHi, .int .i64 y17.fLow, .int .i64 y17.fHigh] [.int .i64 y17.fSpan.fLo, .int .i64 y17.fSpan.fHi] fd_36_0 ag_32 rfl rfl) ?_
          obtain ⟨y19, hy20, h⟩ := bind_some h
          refine qx_y rfl (y_callv [.agg #[.int .i64 y17.fSpan.fLo, .int .i64 y17.fSpan.fHi]] hgo2 rfl rfl (fun W2 hW2 => hof2 W2 hW2.below y17.fSpan y19 hy20)) ?_
          refine qx_nil ?_
          obtain ⟨hg21, h⟩ := guardO_some h
          refine ox_n rfl (y_updateV 1 (k := (TSpot.mk ((rdL p1_l s10.1).fFoot) ((rdL p1_l s10.1).fHour))) (v := y19) rfl ke_26 um_146 rfl rfl rfl hg21) ?_
          refine ox_nil ?_
          refine ex_then ?_
          refine cx_region ?_
          refine ox_y rfl (y_move_slice rfl) ?_
          refine ox_y rfl (y_move_map rfl) ?_
          refine ox_y rfl (y_loadN 3 [.int .i64 ((rdL p1_l s10.1).fFoot), .int .i64 ((rdL p1_l s10.1).fHour)] ag_26 rfl rfl rfl) ?_
          obtain ⟨hg22, h⟩ := guardO_some h
          refine ox_y rfl (y_lookupV (k := (TSpot.mk ((rdL p1_l s10.1).fFoot) ((rdL p1_l s10.1).fHour))) (MpL.own 1 rfl) ke_26 um_146 ze_3 rfl rfl hg22) ?_
          refine ox_buildSliceE 1 (encL cI [mgetV 0 (((TSpot.mk ((rdL p1_l s10.1).fFoot) ((rdL p1_l s10.1).fHour)), y19) :: s10.2.1) (TSpot.mk ((rdL p1_l s10.1).fFoot) ((rdL p1_l s10.1).fHour))]) _ mc_3_1 us_41 ze_3 by_3 (by decide) (by decide) (by kernel_rfl) (encL_len cI_len rfl) rfl (fun b23 => ?_)
          obtain ⟨hg26, h⟩ := guardO_some h
          refine ox_append0 2 us_41 ze_3 by_3 rfl rfl rfl (RdL.row 4 rfl) (encL_len cI_len rfl) (encL_one cI_one _) (app_room hg26 (by decide)) rfl (fun A24 c25 => ?_)
          refine ox_y rfl (y_assign_slice rfl) ?_
          refine ox_nil ?_
          refine ex_block ?_
          refine ex_then ?_
          refine cx_region ?_
          refine ox_y rfl (y_add rfl rfl) ?_
          refine ox_y rfl (y_move_int rfl) ?_
          refine ox_nil ?_
          refine ex_take 3 ?_
          obtain rfl := Option.some.inj h
          exact ex_next ⟨_, A24, c25, (s10.2.2.length + 1), (hn_app rfl rfl), rfl, (keep (keep (keep (keep (keep (keep (keep (keep (keep (keep (keep (keep (keep rfl rfl) rfl) rfl) rfl) rfl) rfl) rfl) rfl) rfl) rfl) rfl) rfl) rfl)⟩
        · refine cx_false (congrArg Value.bool hp16) ?_
          refine cx_skip ?_
          refine ex_then ?_
          refine cx_region ?_
          refine ox_y rfl (y_move_slice rfl) ?_
          refine ox_y rfl (y_move_map rfl) ?_
          refine ox_y rfl (y_loadN 3 [.int .i64 ((rdL p1_l s10.1).fFoot), .int .i64 ((rdL p1_l s10.1).fHour)] ag_26 rfl rfl rfl) ?_
          obtain ⟨hg27, h⟩ := guardO_some h
          refine ox_y rfl (y_lookupV (k := (TSpot.mk ((rdL p1_l s10.1).fFoot) ((rdL p1_l s10.1).fHour))) (MpL.own 1 rfl) ke_26 um_146 ze_3 rfl rfl hg27) ?_
          refine ox_buildSliceE 1 (encL cI [mgetV 0 s10.2.1 (TSpot.mk ((rdL p1_l s10.1).fFoot) ((rdL p1_l s10.1).fHour))]) _ mc_3_1 us_41 ze_3 by_3 (by decide) (by decide) (by kernel_rfl) (encL_len cI_len rfl) rfl (fun b28 => ?_)
          obtain ⟨hg31, h⟩ := guardO_some h
          refine ox_append0 2 us_41 ze_3 by_3 rfl rfl rfl (RdL.row 4 rfl) (encL_len cI_len rfl) (encL_one cI_one _) (app_room hg31 (by decide)) rfl (fun A29 c30 => ?_)
          refine ox_y rfl (y_assign_slice rfl) ?_
          refine ox_nil ?_
          refine ex_block ?_
          refine ex_then ?_
          refine cx_region ?_
          refine ox_y rfl (y_add rfl rfl) ?_
          refine ox_y rfl (y_move_int rfl) ?_
          refine ox_nil ?_
          refine ex_take 3 ?_
          obtain rfl := Option.some.inj h
          exact ex_next ⟨_, A29, c30, (s10.2.2.length + 1), (hn_app rfl rfl), rfl, (keep (keep (keep (keep (keep (keep (keep (keep (keep (keep (keep (keep (keep rfl rfl) rfl) rfl) rfl) rfl) rfl) rfl) rfl) rfl) rfl) rfl) rfl) rfl)⟩
      · refine cx_false (congrArg Value.bool hp12) ?_
        refine cx_exit ?_
        refine ex_then_exit ?_
        obtain rfl := Option.some.inj h
        exact ex_stop ⟨rfl, _, A2_s10, c2_s10, s10.2.2.length, rfl, rfl, (keep (keep (keep (keep (keep (keep (keep (keep (keep (keep (keep (keep (keep rfl rfl) rfl) rfl) rfl) rfl) rfl) rfl) rfl) rfl) rfl) rfl) rfl) rfl)⟩
    · intro e L tm hJ
      obtain ⟨rfl, tm0_u11, A2_u11, c2_u11, n2_u11, rfl, rfl, rfl⟩ := hJ
      refine ⟨(by intro hc; cases hc), ?_⟩
      refine ex_block_here ?_
      refine ex_then ?_
      refine cx_seq ?_
      refine cx_region ?_
      refine ox_y rfl (y_move_slice rfl) ?_
      refine ox_y rfl (y_assign_slice rfl) ?_
      refine ox_y rfl (y_assign_int rfl) ?_
      refine ox_nil ?_
      refine ex_then ?_
      refine cx_ret ?_
      obtain rfl := Option.some.inj h
      exact ex_res2 (.inl rfl) rfl (resV_tmp (v := .slice A2_u11 u11.2.2.length c2_u11) rfl) (resV_tmp (v := .int .i64 0) rfl) (fun W2 hW2 => ⟨(A2_u11, u11.2.2.length, c2_u11), rfl, rfl, (hW2.pick 2 rfl)⟩)

/-! calx/fire.Coolest$1 -/
set_option maxRecDepth 100000 in
theorem fire_Coolest_1_ok (p0_s : TSpan) (res : Int) (h : fire_Coolest_1 p0_s = some res) (W : World)  :
    Calls Try.prog 90 [.agg #[.int .i64 p0_s.fLo, .int .i64 p0_s.fHi]].toArray W fun e W2 => e = .returned (.int .i64 res) ∧ Ext W W2 [] := by
  unfold fire_Coolest_1 at h
  refine calls_enter (m := 5) Try.func90 rfl rfl (Nat.le_of_ble_eq_true rfl) ?_
  refine cx_seq ?_
  refine cx_region ?_
  refine ox_box [.int .i64 p0_s.fLo, .int .i64 p0_s.fHi] rfl rfl rfl (fun b1 => ?_)
  refine ox_y rfl (y_assign_int rfl) ?_
  refine ox_nil ?_
  refine ex_then ?_
  refine cx_seq ?_
  refine cx_region ?_
  refine ox_y rfl (y_fieldAddr fo_32_0 rfl) ?_
  refine ox_y rfl (y_load1 0 (v := .int .i64 p0_s.fLo) sc_3 rfl rfl rfl) ?_
  refine ox_y rfl (y_assign_int rfl) ?_
  refine ox_nil ?_
  refine ex_then ?_
  refine cx_ret ?_
  obtain rfl := Option.some.inj h
  exact ex_res1 (.inl rfl) rfl (resV_tmp (v := .int .i64 p0_s.fLo) rfl) (fun W2 hW2 => ⟨rfl, hW2.none⟩)

/-! calx/fire.Coolest -/
set_option maxRecDepth 100000 in
theorem fire_Coolest_ok (p0_f : TFire) (p1_l : (List TSpot)) (res : ((List Int) × Int)) (h : fire_Coolest p0_f p1_l = some res) (W : World) (A0_4 : Option Addr) (n0_4 c0_4 : Nat) (hn0_4 : n0_4 = p0_f.fLooks.length) (hr0_4 : Rd W A0_4 n0_4 c0_4 (encL TLook_cells p0_f.fLooks)) (A1_0 : Option Addr) (n1_0 c1_0 : Nat) (hn1_0 : n1_0 = p1_l.length) (hr1_0 : Rd W A1_0 n1_0 c1_0 (encL TSpot_cells p1_l)) :
    Calls Try.prog 47 [.agg #[.int .i64 p0_f.fRise, .int .i64 p0_f.fFall, .int .i64 p0_f.fUp, .int .i64 p0_f.fDown, .slice A0_4 n0_4 c0_4], .slice A1_0 n1_0 c1_0].toArray W fun e W2 => ∃ x : Option Addr × Nat × Nat, x.2.1 = res.1.length ∧ e = .returned (.tuple #[.slice x.1 x.2.1 x.2.2, .int .i64 res.2]) ∧ Ext W W2 [rowR x.1 x.2.2 3 1 x.2.1 (encL cI res.1)] := by
  subst hn0_4
  subst hn1_0
  unfold fire_Coolest at h
  refine calls_enter (m := 11) Try.func47 rfl rfl (Nat.le_of_ble_eq_true rfl) ?_
  refine cx_seq ?_
  refine cx_region ?_
  refine ox_box [.int .i64 p0_f.fRise, .int .i64 p0_f.fFall, .int .i64 p0_f.fUp, .int .i64 p0_f.fDown, .slice A0_4 p0_f.fLooks.length c0_4] rfl rfl rfl (fun b1 => ?_)
  refine ox_y rfl (y_assign_slice rfl) ?_
  refine ox_y rfl (y_assign_int rfl) ?_
  refine ox_nil ?_
  refine ex_then ?_
  refine cx_seq ?_
  refine cx_region ?_
  refine ox_y rfl (y_loadN 0 [.int .i64 p0_f.fRise, .int .i64 p0_f.fFall, .int .i64 p0_f.fUp, .int .i64 p0_f.fDown, .slice A0_4 p0_f.fLooks.length c0_4] ag_24 rfl rfl rfl) ?_
  refine ox_y rfl (y_move_slice rfl) ?_
  obtain ⟨y3, hy4, h⟩ := bind_some h
  refine ox_call [.agg #[.int .i64 p0_f.fRise, .int .i64 p0_f.fFall, .int .i64 p0_f.fUp, .int .i64 p0_f.fDown, .slice A0_4 p0_f.fLooks.length c0_4], .slice A1_0 p1_l.length c1_0, .func (.func 90) #[] #[]] _ _ _ rfl go_89 rfl (fun W2 hW2 => fire_all_ok p0_f p1_l (fun x2 => fire_Coolest_1 x2) y3 hy4 W2 A0_4 p0_f.fLooks.length c0_4 rfl ((RdL.arg hr0_4) W2 hW2) A1_0 p1_l.length c1_0 rfl ((RdL.arg hr1_0) W2 hW2) 90 [] go_90 (fun W3 hb x y hxy => fire_Coolest_1_ok x  y hxy W3 )) ?_
  rintro ⟨A5, n7, c6⟩ hn8
  replace hn8 : n7 = y3.1.length := hn8; subst hn8
  refine ox_y rfl (y_extract (vs := [.slice A5 y3.1.length c6, .int .i64 y3.2]) (v := .slice A5 y3.1.length c6) rfl rfl) ?_
  refine ox_y rfl (y_extract (vs := [.slice A5 y3.1.length c6, .int .i64 y3.2]) (v := .int .i64 y3.2) rfl rfl) ?_
  refine ox_y rfl (y_assign_slice rfl) ?_
  refine ox_y rfl (y_assign_int rfl) ?_
  refine ox_nil ?_
  refine ex_then ?_
  refine cx_ret ?_
  obtain rfl := Option.some.inj h
  exact ex_res2 (.inl rfl) rfl (resV_tmp (v := .slice A5 y3.1.length c6) rfl) (resV_tmp (v := .int .i64 y3.2) rfl) (fun W2 hW2 => ⟨(A5, y3.1.length, c6), rfl, rfl, (hW2.pick 1 rfl)⟩)

/-! calx/fire.Hottest$1 -/
set_option maxRecDepth 100000 in
theorem fire_Hottest_1_ok (p0_s : TSpan) (res : Int) (h : fire_Hottest_1 p0_s = some res) (W : World)  :
    Calls Try.prog 91 [.agg #[.int .i64 p0_s.fLo, .int .i64 p0_s.fHi]].toArray W fun e W2 => e = .returned (.int .i64 res) ∧ Ext W W2 [] := by
  unfold fire_Hottest_1 at h
  refine calls_enter (m := 5) Try.func91 rfl rfl (Nat.le_of_ble_eq_true rfl) ?_
  refine cx_seq ?_
  refine cx_region ?_
  refine ox_box [.int .i64 p0_s.fLo, .int .i64 p0_s.fHi] rfl rfl rfl (fun b1 => ?_)
  refine ox_y rfl (y_assign_int rfl) ?_
  refine ox_nil ?_
  refine ex_then ?_
  refine cx_seq ?_
  refine cx_region ?_
  refine ox_y rfl (y_fieldAddr fo_32_1 rfl) ?_
  refine ox_y rfl (y_load1 0 (v := .int .i64 p0_s.fHi) sc_3 rfl rfl rfl) ?_
  refine ox_y rfl (y_assign_int rfl) ?_
  refine ox_nil ?_
  refine ex_then ?_
  refine cx_ret ?_
  obtain rfl := Option.some.inj h
  exact ex_res1 (.inl rfl) rfl (resV_tmp (v := .int .i64 p0_s.fHi) rfl) (fun W2 hW2 => ⟨rfl, hW2.none⟩)

/-! calx/fire.Hottest -/
set_option maxRecDepth 100000 in
theorem fire_Hottest_ok (p0_f : TFire) (p1_l : (List TSpot)) (res : ((List Int) × Int)) (h : fire_Hottest p0_f p1_l = some res) (W : World) (A0_4 : Option Addr) (n0_4 c0_4 : Nat) (hn0_4 : n0_4 = p0_f.fLooks.length) (hr0_4 : Rd W A0_4 n0_4 c0_4 (encL TLook_cells p0_f.fLooks)) (A1_0 : Option Addr) (n1_0 c1_0 : Nat) (hn1_0 : n1_0 = p1_l.length) (hr1_0 : Rd W A1_0 n1_0 c1_0 (encL TSpot_cells p1_l)) :
    Calls Try.prog 48 [.agg #[.int .i64 p0_f.fRise, .int .i64 p0_f.fFall, .int .i64 p0_f.fUp, .int .i64 p0_f.fDown, .slice A0_4 n0_4 c0_4], .slice A1_0 n1_0 c1_0].toArray W fun e W2 => ∃ x : Option Addr × Nat × Nat, x.2.1 = res.1.length ∧ e = .returned (.tuple #[.slice x.1 x.2.1 x.2.2, .int .i64 res.2]) ∧ Ext W W2 [rowR x.1 x.2.2 3 1 x.2.1 (encL cI res.1)] := by
  subst hn0_4
  subst hn1_0
  unfold fire_Hottest at h
  refine calls_enter (m := 11) Try.func48 rfl rfl (Nat.le_of_ble_eq_true rfl) ?_
  refine cx_seq ?_
  refine cx_region ?_
  refine ox_box [.int .i64 p0_f.fRise, .int .i64 p0_f.fFall, .int .i64 p0_f.fUp, .int .i64 p0_f.fDown, .slice A0_4 p0_f.fLooks.length c0_4] rfl rfl rfl (fun b1 => ?_)
  refine ox_y rfl (y_assign_slice rfl) ?_
  refine ox_y rfl (y_assign_int rfl) ?_
  refine ox_nil ?_
  refine ex_then ?_
  refine cx_seq ?_
  refine cx_region ?_
  refine ox_y rfl (y_loadN 0 [.int .i64 p0_f.fRise, .int .i64 p0_f.fFall, .int .i64 p0_f.fUp, .int .i64 p0_f.fDown, .slice A0_4 p0_f.fLooks.length c0_4] ag_24 rfl rfl rfl) ?_
  refine ox_y rfl (y_move_slice rfl) ?_
  obtain ⟨y3, hy4, h⟩ := bind_some h
  refine ox_call [.agg #[.int .i64 p0_f.fRise, .int .i64 p0_f.fFall, .int .i64 p0_f.fUp, .int .i64 p0_f.fDown, .slice A0_4 p0_f.fLooks.length c0_4], .slice A1_0 p1_l.length c1_0, .func (.func 91) #[] #[]] _ _ _ rfl go_89 rfl (fun W2 hW2 => fire_all_ok p0_f p1_l (fun x2 => fire_Hottest_1 x2) y3 hy4 W2 A0_4 p0_f.fLooks.length c0_4 rfl ((RdL.arg hr0_4) W2 hW2) A1_0 p1_l.length c1_0 rfl ((RdL.arg hr1_0) W2 hW2) 91 [] go_91 (fun W3 hb x y hxy => fire_Hottest_1_ok x  y hxy W3 )) ?_
  rintro ⟨A5, n7, c6⟩ hn8
  replace hn8 : n7 = y3.1.length := hn8; subst hn8
  refine ox_y rfl (y_extract (vs := [.slice A5 y3.1.length c6, .int .i64 y3.2]) (v := .slice A5 y3.1.length c6) rfl rfl) ?_
  refine ox_y rfl (y_extract (vs := [.slice A5 y3.1.length c6, .int .i64 y3.2]) (v := .int .i64 y3.2) rfl rfl) ?_
  refine ox_y rfl (y_assign_slice rfl) ?_
  refine ox_y rfl (y_assign_int rfl) ?_
  refine ox_nil ?_
  refine ex_then ?_
  refine cx_ret ?_
  obtain rfl := Option.some.inj h
  exact ex_res2 (.inl rfl) rfl (resV_tmp (v := .slice A5 y3.1.length c6) rfl) (resV_tmp (v := .int .i64 y3.2) rfl) (fun W2 hW2 => ⟨(A5, y3.1.length, c6), rfl, rfl, (hW2.pick 1 rfl)⟩)

/-! calx/fire.CheckEnds$1 -/
set_option maxRecDepth 100000 in
theorem fire_CheckEnds_1_ok (p0_id : Int) (p1_end : Int) (p2_none : Int) (p3_tell : TLook → Option Int) (cap0 : TFire) (res : Bool) (h : fire_CheckEnds_1 p0_id p1_end p2_none p3_tell cap0 = some res) (W : World) (fid3 : Nat) (caps3 : List Value) (hgo3 : goes Try.prog fid3 = true) (hof3 : ∀ W2, Below W.heap.size W W2 → ∀ x y, p3_tell x = some y → Calls Try.prog fid3 (([.agg #[.int .i64 x.fID, .int .i64 x.fAt.fFoot, .int .i64 x.fAt.fHour, .int .i64 x.fHeat.fLo, .int .i64 x.fHeat.fHi]] : List Value) ++ caps3).toArray W2 fun e W3 => e = .returned (.int .i64 y) ∧ Ext W2 W3 []) (bc0 : Nat) (A100_4 : Option Addr) (n100_4 c100_4 : Nat) (hn100_4 : n100_4 = cap0.fLooks.length) (hr100_4 : Rd W A100_4 n100_4 c100_4 (encL TLook_cells cap0.fLooks)) (hcap0 : Rd W (some ⟨bc0, 0, none⟩) 1 1 [.int .i64 cap0.fRise, .int .i64 cap0.fFall, .int .i64 cap0.fUp, .int .i64 cap0.fDown, .slice A100_4 n100_4 c100_4]) :
    Calls Try.prog 92 [.int .i64 p0_id, .int .i64 p1_end, .int .i64 p2_none, .func (.func fid3) #[] caps3.toArray, .pointer (some ⟨bc0, 0, none⟩)].toArray W fun e W2 => e = .returned (.bool res) ∧ Ext W W2 [] := by
  subst hn100_4
  unfold fire_CheckEnds_1 at h
  refine calls_enter (m := 37) Try.func92 rfl rfl (Nat.le_of_ble_eq_true rfl) ?_
  refine cx_seq ?_
  refine cx_region ?_
  refine ox_y rfl (y_assign_bool rfl) ?_
  refine ox_nil ?_
  refine ex_then ?_
  refine cx_seq ?_
  refine cx_region ?_
  refine ox_y rfl (y_fieldAddrR (A := (some ⟨bc0, 0, none⟩)) (j := 0) fo_24_4 rfl) ?_
  refine ox_y rfl (y_loadR1 (A := (some ⟨bc0, 0, none⟩)) (j := (0 + 4)) (v := .slice A100_4 cap0.fLooks.length c100_4) sc_22 (RdL.arg hcap0) rfl rfl) ?_
  refine ox_y rfl (y_move_int rfl) ?_
  obtain ⟨y1, hy2, h⟩ := bind_some h
  refine ox_y rfl (y_call [.slice A100_4 cap0.fLooks.length c100_4, .int .i64 p0_id] go_52 rfl (fun W2 hW2 => fire_find_ok cap0.fLooks p0_id y1 hy2 W2 A100_4 cap0.fLooks.length c100_4 rfl ((RdL.arg hr100_4) W2 hW2)) rfl) ?_
  refine ox_y rfl (y_assign_int rfl) ?_
  refine ox_nil ?_
  refine ex_then ?_
  refine cx_seq ?_
  refine cx_region ?_
  refine ox_y rfl (y_move_int rfl) ?_
  refine ox_y rfl (y_eql rfl rfl) ?_
  refine ox_y rfl (y_move_bool rfl) ?_
  refine ox_join 4 (fun tm0 => (upd (upd (upd (upd (upd (upd tm0 1 (.int .i64 p1_end)) 3 (.func (.func fid3) #[] caps3.toArray)) 4 (slA (some ⟨bc0, 0, none⟩) 0)) 9 (.bool false)) 10 (.int .i64 y1)) 21 (.bool ((p0_id == 0) && (p1_end == p2_none))))) (fun tm0 => ?_) (fun key => ?_)
  · refine ox_y rfl (y_move_bool rfl) ?_
    obtain ⟨b5, hb6, h⟩ := bind_some h
    refine ox_join 14 (fun tm0 => (upd (upd tm0 9 (.bool false)) 36 (.bool b5))) (fun tm0 => ?_) (fun key => ?_)
    · refine ox_y rfl (y_assign_bool rfl) ?_
      refine ox_nil ?_
      refine ex_then ?_
      refine cx_ret ?_
      obtain rfl := Option.some.inj h
      exact ex_res1 (.inl rfl) rfl (resV_tmp (v := .bool b5) rfl) (fun W2 hW2 => ⟨rfl, hW2.none⟩)
    · clear h; rcases ite_some hb6 with ⟨hp4, h⟩ | ⟨hp4, h⟩
      · refine ox_skip (sees_f rfl rfl rfl rfl hp4) ?_
        refine ox_skip (sees_f rfl rfl rfl rfl hp4) ?_
        refine ox_skip (sees_f rfl rfl rfl rfl hp4) ?_
        refine ox_skip rfl ?_
        refine ox_skip rfl ?_
        refine ox_skip rfl ?_
        refine ox_skip rfl ?_
        refine ox_skip rfl ?_
        refine ox_skip rfl ?_
        refine ox_skip rfl ?_
        refine ox_skip rfl ?_
        refine ox_skip rfl ?_
        refine ox_skip (sees_f rfl rfl rfl rfl hp4) ?_
        refine ox_y rfl (y_pick_tb (congrArg Value.bool hp4) rfl) ?_
        obtain rfl := Option.some.inj h
        exact key _ _ (keep (keep rfl rfl) rfl)
      · refine ox_y (sees_t rfl rfl rfl rfl hp4) (y_move_int rfl) ?_
        refine ox_y (sees_t rfl rfl rfl rfl hp4) (y_geq rfl rfl) ?_
        refine ox_y (sees_t rfl rfl rfl rfl hp4) (y_move_bool rfl) ?_
        obtain ⟨b8, hb9, h⟩ := bind_some h
        refine ox_join 10 (fun tm0 => (upd (upd (upd tm0 9 (.bool false)) 22 (.bool ((p0_id == 0) && (p1_end == p2_none)))) 35 (.bool b8))) (fun tm0 => ?_) (fun key => ?_)
        · refine ox_y rfl (y_pick_fb (congrArg Value.bool hp4) rfl) ?_
          obtain rfl := Option.some.inj h
          exact key _ _ (keep (keep rfl rfl) rfl)
        · clear h; rcases ite_some hb9 with ⟨hp7, h⟩ | ⟨hp7, h⟩
          · refine ox_y (sees_t rfl rfl rfl rfl hp7) (y_move (v := .func (.func fid3) #[] caps3.toArray) rfl) ?_
            refine ox_y (sees_t rfl rfl rfl rfl hp7) (y_fieldAddrR (A := (some ⟨bc0, 0, none⟩)) (j := 0) fo_24_4 rfl) ?_
            refine ox_y (sees_t rfl rfl rfl rfl hp7) (y_loadR1 (A := (some ⟨bc0, 0, none⟩)) (j := (0 + 4)) (v := .slice A100_4 cap0.fLooks.length c100_4) sc_22 (RdL.arg hcap0) rfl rfl) ?_
            refine ox_y (sees_t rfl rfl rfl rfl hp7) (y_move_int rfl) ?_
            obtain ⟨hg10, h⟩ := guardO_some h
            refine ox_y (sees_t rfl rfl rfl rfl hp7) (y_indexR sl_22 (by decide) hg10.1 hg10.2 (RdL.arg hr100_4) (encL_len TLook_cells_len rfl) rfl rfl) ?_
            refine ox_y (sees_t rfl rfl rfl rfl hp7) (y_loadRN (A := A100_4) (j := (Int.toNat y1 * 5)) [.int .i64 ((rdL cap0.fLooks y1).fID), .int .i64 ((rdL cap0.fLooks y1).fAt.fFoot), .int .i64 ((rdL cap0.fLooks y1).fAt.fHour), .int .i64 ((rdL cap0.fLooks y1).fHeat.fLo), .int .i64 ((rdL cap0.fLooks y1).fHeat.fHi)] ag_34 (Nat.succ_pos _) (RdL.arg hr100_4) rfl (encL_gets TLook_cells_len hg10.1 (lt_nat hg10.2 rfl))) ?_
            obtain ⟨y11, hy12, h⟩ := bind_some h
            refine ox_y (sees_t rfl rfl rfl rfl hp7) (y_callv [.agg #[.int .i64 ((rdL cap0.fLooks y1).fID), .int .i64 ((rdL cap0.fLooks y1).fAt.fFoot), .int .i64 ((rdL cap0.fLooks y1).fAt.fHour), .int .i64 ((rdL cap0.fLooks y1).fHeat.fLo), .int .i64 ((rdL cap0.fLooks y1).fHeat.fHi)]] hgo3 rfl rfl (fun W2 hW2 => hof3 W2 hW2.below (TLook.mk ((rdL cap0.fLooks y1).fID) (TSpot.mk ((rdL cap0.fLooks y1).fAt.fFoot) ((rdL cap0.fLooks y1).fAt.fHour)) (TSpan.mk ((rdL cap0.fLooks y1).fHeat.fLo) ((rdL cap0.fLooks y1).fHeat.fHi))) y11 hy12)) ?_
            refine ox_y (sees_t rfl rfl rfl rfl hp7) (y_move_int rfl) ?_
            refine ox_y (sees_t rfl rfl rfl rfl hp7) (y_eql rfl rfl) ?_
            refine ox_y (sees_t rfl rfl rfl rfl hp4) (y_pick_tb (congrArg Value.bool hp7) rfl) ?_
            obtain rfl := Option.some.inj h
            exact key _ _ (keep (keep (keep rfl rfl) rfl) rfl)
          · refine ox_skip (sees_f rfl rfl rfl rfl hp7) ?_
            refine ox_skip (sees_f rfl rfl rfl rfl hp7) ?_
            refine ox_skip (sees_f rfl rfl rfl rfl hp7) ?_
            refine ox_skip (sees_f rfl rfl rfl rfl hp7) ?_
            refine ox_skip (sees_f rfl rfl rfl rfl hp7) ?_
            refine ox_skip (sees_f rfl rfl rfl rfl hp7) ?_
            refine ox_skip (sees_f rfl rfl rfl rfl hp7) ?_
            refine ox_skip (sees_f rfl rfl rfl rfl hp7) ?_
            refine ox_skip (sees_f rfl rfl rfl rfl hp7) ?_
            refine ox_y (sees_t rfl rfl rfl rfl hp4) (y_pick_fb (congrArg Value.bool hp7) rfl) ?_
            obtain rfl := Option.some.inj h
            exact key _ _ (keep (keep (keep rfl rfl) rfl) rfl)
  · rcases bool_cases (p0_id == 0) with hp3 | hp3
    · refine ox_y (sees_t rfl rfl rfl rfl hp3) (y_move_int rfl) ?_
      refine ox_y (sees_t rfl rfl rfl rfl hp3) (y_move_int rfl) ?_
      refine ox_y (sees_t rfl rfl rfl rfl hp3) (y_eql rfl rfl) ?_
      refine ox_y rfl (y_pick_tb (congrArg Value.bool hp3) rfl) ?_
      exact key _ _ (keep (keep (keep (keep (keep (keep rfl rfl) rfl) rfl) rfl) rfl) (congrArg Value.bool (and_t hp3)))
    · refine ox_skip (sees_f rfl rfl rfl rfl hp3) ?_
      refine ox_skip (sees_f rfl rfl rfl rfl hp3) ?_
      refine ox_skip (sees_f rfl rfl rfl rfl hp3) ?_
      refine ox_y rfl (y_pick_fb (congrArg Value.bool hp3) rfl) ?_
      exact key _ _ (keep (keep (keep (keep (keep (keep rfl rfl) rfl) rfl) rfl) rfl) (congrArg Value.bool (and_f hp3)))

/-! calx/fire.CheckEnds -/
set_option maxRecDepth 100000 in
theorem fire_CheckEnds_ok (p0_f : TFire) (p1_at : TSpot) (p2_b : TBounds) (res : Int) (h : fire_CheckEnds p0_f p1_at p2_b = some res) (W : World) (A0_4 : Option Addr) (n0_4 c0_4 : Nat) (hn0_4 : n0_4 = p0_f.fLooks.length) (hr0_4 : Rd W A0_4 n0_4 c0_4 (encL TLook_cells p0_f.fLooks)) :
    Calls Try.prog 49 [.agg #[.int .i64 p0_f.fRise, .int .i64 p0_f.fFall, .int .i64 p0_f.fUp, .int .i64 p0_f.fDown, .slice A0_4 n0_4 c0_4], .agg #[.int .i64 p1_at.fFoot, .int .i64 p1_at.fHour], .agg #[.int .i64 p2_b.fSpan.fLo, .int .i64 p2_b.fSpan.fHi, .int .i64 p2_b.fLow, .int .i64 p2_b.fHigh]].toArray W fun e W2 => e = .returned (.int .i64 res) ∧ Ext W W2 [] := by
  subst hn0_4
  unfold fire_CheckEnds at h
  refine calls_enter (m := 52) Try.func49 rfl rfl (Nat.le_of_ble_eq_true rfl) ?_
  refine cx_seq ?_
  refine cx_region ?_
  refine ox_box [.int .i64 p0_f.fRise, .int .i64 p0_f.fFall, .int .i64 p0_f.fUp, .int .i64 p0_f.fDown, .slice A0_4 p0_f.fLooks.length c0_4] rfl rfl rfl (fun b1 => ?_)
  refine ox_box [.int .i64 p1_at.fFoot, .int .i64 p1_at.fHour] rfl rfl rfl (fun b2 => ?_)
  refine ox_box [.int .i64 p2_b.fSpan.fLo, .int .i64 p2_b.fSpan.fHi, .int .i64 p2_b.fLow, .int .i64 p2_b.fHigh] rfl rfl rfl (fun b3 => ?_)
  refine ox_y rfl (y_assign_int rfl) ?_
  refine ox_nil ?_
  refine ex_then ?_
  refine cx_seq ?_
  refine cx_seq ?_
  obtain ⟨y6, hy7, h⟩ := bind_some h
  obtain ⟨y8, hy9, h⟩ := bind_some h
  refine cx_drawsG [[], [], [], [2], [1, 2, 3], [0, 1, 2, 3, 4], [0, 1, 2, 3, 4, 5]] [(none, 0, [true, true, true]), (none, 0, [true, true, true]), (none, 0, [true, true, true]), (none, 1, [true, true, true]), (none, 0, [true, true, true, true]), (none, 0, [true, true, true, true]), (none, 0, [true, true, true, true])] [⟨fun _ => .agg #[.int .i64 p0_f.fRise, .int .i64 p0_f.fFall, .int .i64 p0_f.fUp, .int .i64 p0_f.fDown, .slice A0_4 p0_f.fLooks.length c0_4], fun _ => noR, fun _ => []⟩, ⟨fun _ => .agg #[.int .i64 p0_f.fRise, .int .i64 p0_f.fFall, .int .i64 p0_f.fUp, .int .i64 p0_f.fDown, .slice A0_4 p0_f.fLooks.length c0_4], fun _ => noR, fun _ => []⟩, ⟨fun _ => .agg #[.int .i64 p1_at.fFoot, .int .i64 p1_at.fHour], fun _ => noR, fun _ => []⟩, ⟨fun ξ4 => .slice (some ⟨(ξ4 3 0).2.1, 0, none⟩) 1 1, fun _ => noR, fun ξ4 => [rowR (some ⟨(ξ4 3 0).2.1, 0, none⟩) 1 26 2 1 (encL TSpot_cells [p1_at])]⟩, ⟨fun _ => .int .i64 y6, fun _ => noR, fun _ => []⟩, ⟨fun _ => .int .i64 y8, fun _ => noR, fun _ => []⟩, ⟨fun _ => .int .i64 y8, fun _ => noR, fun _ => []⟩] 3 mixed (by kernel_rfl) (by kernel_rfl) ⟨⟨fun ξ4 ξ4' h => ⟨rfl, rfl, rfl⟩, fun _ => rfl⟩, ⟨fun ξ4 ξ4' h => ⟨rfl, rfl, rfl⟩, fun _ => rfl⟩, ⟨fun ξ4 ξ4' h => ⟨rfl, rfl, rfl⟩, fun _ => rfl⟩, ⟨fun ξ4 ξ4' h => ⟨by simp only [h 3 (.inl rfl)], rfl, by simp only [h 3 (.inl rfl)]⟩, fun _ => rfl⟩, ⟨fun ξ4 ξ4' h => ⟨rfl, rfl, rfl⟩, fun _ => rfl⟩, ⟨fun ξ4 ξ4' h => ⟨rfl, rfl, rfl⟩, fun _ => rfl⟩, ⟨fun ξ4 ξ4' h => ⟨rfl, rfl, rfl⟩, fun _ => rfl⟩, trivial⟩ rfl (fun ξ4 => ?_)
  refine gx_o rfl (fun L2 => ?_) ?_
  · dsimp only [maskL, List.cons_append, List.nil_append]
    refine ox_y rfl (y_loadN 0 [.int .i64 p0_f.fRise, .int .i64 p0_f.fFall, .int .i64 p0_f.fUp, .int .i64 p0_f.fDown, .slice A0_4 p0_f.fLooks.length c0_4] ag_24 rfl rfl rfl) ?_
    refine ox_nil ?_
    exact ex_capG (fun _ => (none, 0, 0)) rfl (List.append_nil _)
  dsimp only [aftL, List.set_cons_zero, List.set_cons_succ, List.nil_append, List.cons_append, List.append_nil]
  refine gx_o rfl (fun L2 => ?_) ?_
  · dsimp only [maskL, List.cons_append, List.nil_append]
    refine ox_y rfl (y_loadN 0 [.int .i64 p0_f.fRise, .int .i64 p0_f.fFall, .int .i64 p0_f.fUp, .int .i64 p0_f.fDown, .slice A0_4 p0_f.fLooks.length c0_4] ag_24 rfl rfl rfl) ?_
    refine ox_nil ?_
    exact ex_capG (fun _ => (none, 0, 0)) rfl (List.append_nil _)
  dsimp only [aftL, List.set_cons_zero, List.set_cons_succ, List.nil_append, List.cons_append, List.append_nil]
  refine gx_o rfl (fun L2 => ?_) ?_
  · dsimp only [maskL, List.cons_append, List.nil_append]
    refine ox_y rfl (y_loadN 1 [.int .i64 p1_at.fFoot, .int .i64 p1_at.fHour] ag_26 rfl rfl rfl) ?_
    refine ox_nil ?_
    exact ex_capG (fun _ => (none, 0, 0)) rfl (List.append_nil _)
  dsimp only [aftL, List.set_cons_zero, List.set_cons_succ, List.nil_append, List.cons_append, List.append_nil]
  refine gx_o rfl (fun L2 => ?_) ?_
  · dsimp only [maskL, List.cons_append, List.nil_append]
    refine ox_buildSliceE 1 (encL TSpot_cells [p1_at]) _ mc_26_1 us_46 ze_26 by_26 (by decide) (by decide) (by kernel_rfl) (encL_len TSpot_cells_len rfl) rfl (fun b5 => ?_)
    refine ox_nil ?_
    exact ex_capG (fun _ => (none, b5, 0)) rfl rfl
  dsimp only [aftL, List.set_cons_zero, List.set_cons_succ, List.nil_append, List.cons_append, List.append_nil]
  refine gx_o rfl (fun L2 => ?_) ?_
  · dsimp only [maskL, List.cons_append, List.nil_append]
    refine ox_y rfl (y_call [.agg #[.int .i64 p0_f.fRise, .int .i64 p0_f.fFall, .int .i64 p0_f.fUp, .int .i64 p0_f.fDown, .slice A0_4 p0_f.fLooks.length c0_4], .slice (some ⟨(ξ4 3 0).2.1, 0, none⟩) 1 1] go_56 rfl (fun W2 hW2 => fire_spots_ok p0_f [p1_at] y6 hy7 W2 A0_4 p0_f.fLooks.length c0_4 rfl ((RdL.arg hr0_4) W2 hW2) (some ⟨(ξ4 3 0).2.1, 0, none⟩) 1 1 rfl ((RdL.row 3 rfl) W2 hW2)) rfl) ?_
    refine ox_nil ?_
    exact ex_capG (fun _ => (none, 0, 0)) rfl (List.append_nil _)
  dsimp only [aftL, List.set_cons_zero, List.set_cons_succ, List.nil_append, List.cons_append, List.append_nil]
  refine gx_o rfl (fun L2 => ?_) ?_
  · dsimp only [maskL, List.cons_append, List.nil_append]
    refine ox_y rfl (y_call [.agg #[.int .i64 p0_f.fRise, .int .i64 p0_f.fFall, .int .i64 p0_f.fUp, .int .i64 p0_f.fDown, .slice A0_4 p0_f.fLooks.length c0_4], .int .i64 y6] go_55 rfl (fun W2 hW2 => fire_agreed_ok p0_f y6 y8 hy9 W2 A0_4 p0_f.fLooks.length c0_4 rfl ((RdL.arg hr0_4) W2 hW2)) rfl) ?_
    refine ox_nil ?_
    exact ex_capG (fun _ => (none, 0, 0)) rfl (List.append_nil _)
  dsimp only [aftL, List.set_cons_zero, List.set_cons_succ, List.nil_append, List.cons_append, List.append_nil]
  refine gx_o rfl (fun L2 => ?_) ?_
  · dsimp only [maskL, List.cons_append, List.nil_append]
    refine ox_y rfl (y_assign_int rfl) ?_
    refine ox_nil ?_
    exact ex_capG (fun _ => (none, 0, 0)) rfl (List.append_nil _)
  dsimp only [aftL, List.set_cons_zero, List.set_cons_succ, List.nil_append, List.cons_append, List.append_nil]
  refine gx_nil ?_
  refine ex_then ?_
  refine cx_seq ?_
  refine cx_region ?_
  refine ox_y rfl (y_move_int rfl) ?_
  refine ox_y rfl (y_neq rfl rfl) ?_
  refine ox_nil ?_
  refine ex_then ?_
  rcases ite_some h with ⟨hp10, h⟩ | ⟨hp10, h⟩
  · refine cx_true (congrArg Value.bool hp10) ?_
    refine cx_seq ?_
    refine cx_region ?_
    refine ox_y rfl (y_move_int rfl) ?_
    refine ox_y rfl (y_assign_int rfl) ?_
    refine ox_nil ?_
    refine ex_then ?_
    refine cx_ret ?_
    refine ex_then_ret ?_
    obtain rfl := Option.some.inj h
    exact ex_res1 (.inl rfl) rfl (resV_tmp (v := .int .i64 y8) rfl) (fun W2 hW2 => ⟨rfl, hW2.none⟩)
  · refine cx_false (congrArg Value.bool hp10) ?_
    refine cx_skip ?_
    refine ex_then ?_
    refine cx_seq ?_
    refine cx_region ?_
    refine ox_y rfl (y_makeFunc [.pointer (some ⟨b1, 0, none⟩)] rfl rfl) ?_
    refine ox_y rfl (y_assign_func rfl) ?_
    refine ox_nil ?_
    refine ex_then ?_
    refine cx_seq ?_
    refine cx_seq ?_
    obtain ⟨y12, hy13, h⟩ := bind_some h
    rcases ite_some h with ⟨hq10_8, h⟩ | ⟨hq10_8, h⟩
    · refine cx_drawsG [[], [], [0, 1], [0, 1, 2], [], [4], [0, 1, 2, 3, 4, 5], [0, 1, 2, 3, 4, 5, 6], [0, 1, 2, 3, 4, 5, 6, 7], [0, 1, 2, 3, 4, 5, 6, 7], [0, 1, 2, 3, 4, 5, 6, 7, 9], [0, 1, 2, 3, 4, 5, 6, 7], [0, 1, 2, 3, 4, 5, 6, 7, 11], [0, 1, 2, 3, 4, 5, 6, 7, 11, 12], [0, 1, 2, 3, 4, 5, 6, 7], [0, 1, 2, 3, 4, 5, 6, 7], [0, 1, 2, 3, 4, 5, 6, 7, 14, 15], [0, 1, 2, 3, 4, 5, 6, 7, 8, 9, 10, 11, 12, 13, 14, 15, 16], [0, 1, 2, 3, 4, 5, 6, 7, 8, 9, 10, 11, 12, 13, 14, 15, 16, 17], [0, 1, 2, 3, 4, 5, 6, 7, 8, 9, 10, 11, 12, 13, 14, 15, 16, 17, 18], [0, 1, 2, 3, 4, 5, 6, 7, 8, 9, 10, 11, 12, 13, 14, 15, 16, 17, 18, 19], [0, 1, 2, 3, 4, 5, 6, 7, 8, 9, 10, 11, 12, 13, 14, 15, 16, 17, 18, 19, 20], [0, 1, 2, 3, 4, 5, 6, 7, 8, 9, 10, 11, 12, 13, 14, 15, 16, 17, 18, 19, 20], [0, 1, 2, 3, 4, 5, 6, 7, 8, 9, 10, 11, 12, 13, 14, 15, 16, 17, 18, 19, 20, 22], [0, 1, 2, 3, 4, 5, 6, 7, 8, 9, 10, 11, 12, 13, 14, 15, 16, 17, 18, 19, 20], [0, 1, 2, 3, 4, 5, 6, 7, 8, 9, 10, 11, 12, 13, 14, 15, 16, 17, 18, 19, 20, 24], [0, 1, 2, 3, 4, 5, 6, 7, 8, 9, 10, 11, 12, 13, 14, 15, 16, 17, 18, 19, 20, 24, 25], [0, 1, 2, 3, 4, 5, 6, 7, 8, 9, 10, 11, 12, 13, 14, 15, 16, 17, 18, 19, 20], [0, 1, 2, 3, 4, 5, 6, 7, 8, 9, 10, 11, 12, 13, 14, 15, 16, 17, 18, 19, 20], [0, 1, 2, 3, 4, 5, 6, 7, 8, 9, 10, 11, 12, 13, 14, 15, 16, 17, 18, 19, 20, 27, 28], [0, 1, 2, 3, 4, 5, 6, 7, 8, 9, 10, 11, 12, 13, 14, 15, 16, 17, 18, 19, 20, 21, 22, 23, 24, 25, 26, 27, 28, 29], [0, 1, 2, 3, 4, 5, 6, 7, 8, 9, 10, 11, 12, 13, 14, 15, 16, 17, 18, 19, 20, 21, 22, 23, 24, 25, 26, 27, 28, 29, 30], [0, 1, 2, 3, 4, 5, 6, 7, 8, 9, 10, 11, 12, 13, 14, 15, 16, 17, 18, 19, 20, 21, 22, 23, 24, 25, 26, 27, 28, 29, 30, 31]] [(none, 0, [true, true, true, true]), (none, 0, [true, true, true, true]), (none, 0, [true, true, true, true]), (none, 0, [true, true, true, true]), (none, 0, [true, true, true, true]), (none, 0, [true, true, true, true]), (none, 0, [true, true, true, true]), (none, 0, [true, true, true, true]), (none, 0, [true, true, true, true]), (none, 0, [true, true, true, true]), (none, 0, [true, true, true, true]), (none, 0, [true, true, true, true]), (none, 0, [true, true, true, true]), (none, 0, [true, true, true, true]), (none, 0, [true, true, true, true]), (none, 0, [true, true, true, true]), (none, 0, [true, true, true, true]), (none, 0, [true, true, true, true]), (none, 0, [true, true, true, true]), (none, 0, [true, true, true, true]), (none, 0, [true, true, true, true]), (none, 0, [true, true, true, true]), (none, 0, [true, true, true, true]), (none, 0, [true, true, true, true]), (none, 0, [true, true, true, true]), (none, 0, [true, true, true, true]), (none, 0, [true, true, true, true]), (none, 0, [true, true, true, true]), (none, 0, [true, true, true, true]), (none, 0, [true, true, true, true]), (none, 0, [true, true, true, true]), (none, 0, [true, true, true, true]), (none, 0, [true, true, true, true])] [⟨fun _ => .agg #[.int .i64 p0_f.fRise, .int .i64 p0_f.fFall, .int .i64 p0_f.fUp, .int .i64 p0_f.fDown, .slice A0_4 p0_f.fLooks.length c0_4], fun _ => noR, fun _ => []⟩, ⟨fun _ => .agg #[.int .i64 p1_at.fFoot, .int .i64 p1_at.fHour], fun _ => noR, fun _ => []⟩, ⟨fun _ => .agg #[.int .i64 y12.fSpan.fLo, .int .i64 y12.fSpan.fHi, .int .i64 y12.fLow, .int .i64 y12.fHigh], fun _ => noR, fun _ => []⟩, ⟨fun _ => .agg #[.int .i64 y12.fSpan.fLo, .int .i64 y12.fSpan.fHi], fun _ => noR, fun _ => []⟩, ⟨fun _ => .pointer (some ⟨b3, 0 + 0, none⟩), fun _ => noR, fun _ => []⟩, ⟨fun _ => .agg #[.int .i64 p2_b.fSpan.fLo, .int .i64 p2_b.fSpan.fHi], fun _ => noR, fun _ => []⟩, ⟨fun _ => .bool (!((y12.fSpan.fLo == p2_b.fSpan.fLo) && (y12.fSpan.fHi == p2_b.fSpan.fHi))), fun _ => noR, fun _ => []⟩, ⟨fun _ => .bool (!((y12.fSpan.fLo == p2_b.fSpan.fLo) && (y12.fSpan.fHi == p2_b.fSpan.fHi))), fun _ => noR, fun _ => []⟩, ⟨fun _ => undef, fun _ => noR, fun _ => []⟩, ⟨fun _ => undef, fun _ => noR, fun _ => []⟩, ⟨fun _ => undef, fun _ => noR, fun _ => []⟩, ⟨fun _ => undef, fun _ => noR, fun _ => []⟩, ⟨fun _ => undef, fun _ => noR, fun _ => []⟩, ⟨fun _ => undef, fun _ => noR, fun _ => []⟩, ⟨fun _ => undef, fun _ => noR, fun _ => []⟩, ⟨fun _ => undef, fun _ => noR, fun _ => []⟩, ⟨fun _ => undef, fun _ => noR, fun _ => []⟩, ⟨fun _ => undef, fun _ => noR, fun _ => []⟩, ⟨fun _ => undef, fun _ => noR, fun _ => []⟩, ⟨fun _ => .bool true, fun _ => noR, fun _ => []⟩, ⟨fun _ => .bool true, fun _ => noR, fun _ => []⟩, ⟨fun _ => undef, fun _ => noR, fun _ => []⟩, ⟨fun _ => undef, fun _ => noR, fun _ => []⟩, ⟨fun _ => undef, fun _ => noR, fun _ => []⟩, ⟨fun _ => undef, fun _ => noR, fun _ => []⟩, ⟨fun _ => undef, fun _ => noR, fun _ => []⟩, ⟨fun _ => undef, fun _ => noR, fun _ => []⟩, ⟨fun _ => undef, fun _ => noR, fun _ => []⟩, ⟨fun _ => undef, fun _ => noR, fun _ => []⟩, ⟨fun _ => undef, fun _ => noR, fun _ => []⟩, ⟨fun _ => undef, fun _ => noR, fun _ => []⟩, ⟨fun _ => undef, fun _ => noR, fun _ => []⟩, ⟨fun _ => .bool true, fun _ => noR, fun _ => []⟩] 4 mixed (by kernel_rfl) (by kernel_rfl) ⟨⟨fun ξ11 ξ11' h => ⟨rfl, rfl, rfl⟩, fun _ => rfl⟩, ⟨fun ξ11 ξ11' h => ⟨rfl, rfl, rfl⟩, fun _ => rfl⟩, ⟨fun ξ11 ξ11' h => ⟨rfl, rfl, rfl⟩, fun _ => rfl⟩, ⟨fun ξ11 ξ11' h => ⟨rfl, rfl, rfl⟩, fun _ => rfl⟩, ⟨fun ξ11 ξ11' h => ⟨rfl, rfl, rfl⟩, fun _ => rfl⟩, ⟨fun ξ11 ξ11' h => ⟨rfl, rfl, rfl⟩, fun _ => rfl⟩, ⟨fun ξ11 ξ11' h => ⟨rfl, rfl, rfl⟩, fun _ => rfl⟩, ⟨fun ξ11 ξ11' h => ⟨rfl, rfl, rfl⟩, fun _ => rfl⟩, ⟨fun ξ11 ξ11' h => ⟨rfl, rfl, rfl⟩, fun _ => rfl⟩, ⟨fun ξ11 ξ11' h => ⟨rfl, rfl, rfl⟩, fun _ => rfl⟩, ⟨fun ξ11 ξ11' h => ⟨rfl, rfl, rfl⟩, fun _ => rfl⟩, ⟨fun ξ11 ξ11' h => ⟨rfl, rfl, rfl⟩, fun _ => rfl⟩, ⟨fun ξ11 ξ11' h => ⟨rfl, rfl, rfl⟩, fun _ => rfl⟩, ⟨fun ξ11 ξ11' h => ⟨rfl, rfl, rfl⟩, fun _ => rfl⟩, ⟨fun ξ11 ξ11' h => ⟨rfl, rfl, rfl⟩, fun _ => rfl⟩, ⟨fun ξ11 ξ11' h => ⟨rfl, rfl, rfl⟩, fun _ => rfl⟩, ⟨fun ξ11 ξ11' h => ⟨rfl, rfl, rfl⟩, fun _ => rfl⟩, ⟨fun ξ11 ξ11' h => ⟨rfl, rfl, rfl⟩, fun _ => rfl⟩, ⟨fun ξ11 ξ11' h => ⟨rfl, rfl, rfl⟩, fun _ => rfl⟩, ⟨fun ξ11 ξ11' h => ⟨rfl, rfl, rfl⟩, fun _ => rfl⟩, ⟨fun ξ11 ξ11' h => ⟨rfl, rfl, rfl⟩, fun _ => rfl⟩, ⟨fun ξ11 ξ11' h => ⟨rfl, rfl, rfl⟩, fun _ => rfl⟩, ⟨fun ξ11 ξ11' h => ⟨rfl, rfl, rfl⟩, fun _ => rfl⟩, ⟨fun ξ11 ξ11' h => ⟨rfl, rfl, rfl⟩, fun _ => rfl⟩, ⟨fun ξ11 ξ11' h => ⟨rfl, rfl, rfl⟩, fun _ => rfl⟩, ⟨fun ξ11 ξ11' h => ⟨rfl, rfl, rfl⟩, fun _ => rfl⟩, ⟨fun ξ11 ξ11' h => ⟨rfl, rfl, rfl⟩, fun _ => rfl⟩, ⟨fun ξ11 ξ11' h => ⟨rfl, rfl, rfl⟩, fun _ => rfl⟩, ⟨fun ξ11 ξ11' h => ⟨rfl, rfl, rfl⟩, fun _ => rfl⟩, ⟨fun ξ11 ξ11' h => ⟨rfl, rfl, rfl⟩, fun _ => rfl⟩, ⟨fun ξ11 ξ11' h => ⟨rfl, rfl, rfl⟩, fun _ => rfl⟩, ⟨fun ξ11 ξ11' h => ⟨rfl, rfl, rfl⟩, fun _ => rfl⟩, ⟨fun ξ11 ξ11' h => ⟨rfl, rfl, rfl⟩, fun _ => rfl⟩, trivial⟩ rfl (fun ξ11 => ?_)
      refine gx_o rfl (fun L2 => ?_) ?_
      · dsimp only [maskL, List.cons_append, List.nil_append]
        refine ox_y rfl (y_loadN 0 [.int .i64 p0_f.fRise, .int .i64 p0_f.fFall, .int .i64 p0_f.fUp, .int .i64 p0_f.fDown, .slice A0_4 p0_f.fLooks.length c0_4] ag_24 rfl rfl rfl) ?_
        refine ox_nil ?_
        exact ex_capG (fun _ => (none, 0, 0)) rfl (List.append_nil _)
      dsimp only [aftL, List.set_cons_zero, List.set_cons_succ, List.nil_append, List.cons_append, List.append_nil]
      refine gx_o rfl (fun L2 => ?_) ?_
      · dsimp only [maskL, List.cons_append, List.nil_append]
        refine ox_y rfl (y_loadN 1 [.int .i64 p1_at.fFoot, .int .i64 p1_at.fHour] ag_26 rfl rfl rfl) ?_
        refine ox_nil ?_
        exact ex_capG (fun _ => (none, 0, 0)) rfl (List.append_nil _)
      dsimp only [aftL, List.set_cons_zero, List.set_cons_succ, List.nil_append, List.cons_append, List.append_nil]
      refine gx_o rfl (fun L2 => ?_) ?_
      · dsimp only [maskL, List.cons_append, List.nil_append]
        refine ox_y rfl (y_call [.agg #[.int .i64 p0_f.fRise, .int .i64 p0_f.fFall, .int .i64 p0_f.fUp, .int .i64 p0_f.fDown, .slice A0_4 p0_f.fLooks.length c0_4], .agg #[.int .i64 p1_at.fFoot, .int .i64 p1_at.fHour]] go_57 rfl (fun W2 hW2 => fire_ends_ok p0_f p1_at y12 hy13 W2 A0_4 p0_f.fLooks.length c0_4 rfl ((RdL.arg hr0_4) W2 hW2)) rfl) ?_
        refine ox_nil ?_
        exact ex_capG (fun _ => (none, 0, 0)) rfl (List.append_nil _)
      dsimp only [aftL, List.set_cons_zero, List.set_cons_succ, List.nil_append, List.cons_append, List.append_nil]
      refine gx_o rfl (fun L2 => ?_) ?_
      · dsimp only [maskL, List.cons_append, List.nil_append]
        refine ox_y rfl (y_fieldN [.int .i64 y12.fSpan.fLo, .int .i64 y12.fSpan.fHi, .int .i64 y12.fLow, .int .i64 y12.fHigh] [.int .i64 y12.fSpan.fLo, .int .i64 y12.fSpan.fHi] fd_36_0 ag_32 rfl rfl) ?_
        refine ox_nil ?_
        exact ex_capG (fun _ => (none, 0, 0)) rfl (List.append_nil _)
      dsimp only [aftL, List.set_cons_zero, List.set_cons_succ, List.nil_append, List.cons_append, List.append_nil]
      refine gx_o rfl (fun L2 => ?_) ?_
      · dsimp only [maskL, List.cons_append, List.nil_append]
        refine ox_y rfl (y_fieldAddr fo_36_0 rfl) ?_
        refine ox_nil ?_
        exact ex_capG (fun _ => (none, 0, 0)) rfl (List.append_nil _)
      dsimp only [aftL, List.set_cons_zero, List.set_cons_succ, List.nil_append, List.cons_append, List.append_nil]
      refine gx_o rfl (fun L2 => ?_) ?_
      · dsimp only [maskL, List.cons_append, List.nil_append]
        refine ox_y rfl (y_loadN 2 [.int .i64 p2_b.fSpan.fLo, .int .i64 p2_b.fSpan.fHi] ag_32 rfl rfl rfl) ?_
        refine ox_nil ?_
        exact ex_capG (fun _ => (none, 0, 0)) rfl (List.append_nil _)
      dsimp only [aftL, List.set_cons_zero, List.set_cons_succ, List.nil_append, List.cons_append, List.append_nil]
      refine gx_o rfl (fun L2 => ?_) ?_
      · dsimp only [maskL, List.cons_append, List.nil_append]
        refine ox_y rfl (y_neqa (b := ((y12.fSpan.fLo == p2_b.fSpan.fLo) && (y12.fSpan.fHi == p2_b.fSpan.fHi))) eg_32 rfl rfl (fun _ => (eqS2 fl_32 (part1 sc_3 rfl) (part1 sc_3 rfl) (part1 sc_3 rfl) (part1 sc_3 rfl) (run_equalIn_int _ _ _ _ _ _ _ ui_3) (run_equalIn_int _ _ _ _ _ _ _ ui_3)))) ?_
        refine ox_nil ?_
        exact ex_capG (fun _ => (none, 0, 0)) rfl (List.append_nil _)
      dsimp only [aftL, List.set_cons_zero, List.set_cons_succ, List.nil_append, List.cons_append, List.append_nil]
      refine gx_o rfl (fun L2 => ?_) ?_
      · dsimp only [maskL, List.cons_append, List.nil_append]
        refine ox_y rfl (y_move_bool rfl) ?_
        refine ox_nil ?_
        exact ex_capG (fun _ => (none, 0, 0)) rfl (List.append_nil _)
      dsimp only [aftL, List.set_cons_zero, List.set_cons_succ, List.nil_append, List.cons_append, List.append_nil]
      refine gx_skip (sees_f rfl rfl rfl rfl hq10_8) ?_
      dsimp only [aftL, List.set_cons_zero, List.set_cons_succ, List.nil_append, List.cons_append, List.append_nil]
      refine gx_skip (sees_f rfl rfl rfl rfl hq10_8) ?_
      dsimp only [aftL, List.set_cons_zero, List.set_cons_succ, List.nil_append, List.cons_append, List.append_nil]
      refine gx_skip (sees_f rfl rfl rfl rfl hq10_8) ?_
      dsimp only [aftL, List.set_cons_zero, List.set_cons_succ, List.nil_append, List.cons_append, List.append_nil]
      refine gx_skip (sees_f rfl rfl rfl rfl hq10_8) ?_
      dsimp only [aftL, List.set_cons_zero, List.set_cons_succ, List.nil_append, List.cons_append, List.append_nil]
      refine gx_skip (sees_f rfl rfl rfl rfl hq10_8) ?_
      dsimp only [aftL, List.set_cons_zero, List.set_cons_succ, List.nil_append, List.cons_append, List.append_nil]
      refine gx_skip (sees_f rfl rfl rfl rfl hq10_8) ?_
      dsimp only [aftL, List.set_cons_zero, List.set_cons_succ, List.nil_append, List.cons_append, List.append_nil]
      refine gx_skip (sees_f rfl rfl rfl rfl hq10_8) ?_
      dsimp only [aftL, List.set_cons_zero, List.set_cons_succ, List.nil_append, List.cons_append, List.append_nil]
      refine gx_skip (sees_f rfl rfl rfl rfl hq10_8) ?_
      dsimp only [aftL, List.set_cons_zero, List.set_cons_succ, List.nil_append, List.cons_append, List.append_nil]
      refine gx_skip (sees_f rfl rfl rfl rfl hq10_8) ?_
      dsimp only [aftL, List.set_cons_zero, List.set_cons_succ, List.nil_append, List.cons_append, List.append_nil]
      refine gx_skip (sees_f rfl rfl rfl rfl hq10_8) ?_
      dsimp only [aftL, List.set_cons_zero, List.set_cons_succ, List.nil_append, List.cons_append, List.append_nil]
      refine gx_skip (sees_f rfl rfl rfl rfl hq10_8) ?_
      dsimp only [aftL, List.set_cons_zero, List.set_cons_succ, List.nil_append, List.cons_append, List.append_nil]
      refine gx_o rfl (fun L2 => ?_) ?_
      · dsimp only [maskL, List.cons_append, List.nil_append]
        refine ox_y rfl (y_pick_tb (congrArg Value.bool hq10_8) rfl) ?_
        refine ox_nil ?_
        exact ex_capG (fun _ => (none, 0, 0)) rfl (List.append_nil _)
      dsimp only [aftL, List.set_cons_zero, List.set_cons_succ, List.nil_append, List.cons_append, List.append_nil]
      refine gx_o rfl (fun L2 => ?_) ?_
      · dsimp only [maskL, List.cons_append, List.nil_append]
        refine ox_y rfl (y_move_bool rfl) ?_
        refine ox_nil ?_
        exact ex_capG (fun _ => (none, 0, 0)) rfl (List.append_nil _)
      dsimp only [aftL, List.set_cons_zero, List.set_cons_succ, List.nil_append, List.cons_append, List.append_nil]
      refine gx_skip rfl ?_
      dsimp only [aftL, List.set_cons_zero, List.set_cons_succ, List.nil_append, List.cons_append, List.append_nil]
      refine gx_skip rfl ?_
      dsimp only [aftL, List.set_cons_zero, List.set_cons_succ, List.nil_append, List.cons_append, List.append_nil]
      refine gx_skip rfl ?_
      dsimp only [aftL, List.set_cons_zero, List.set_cons_succ, List.nil_append, List.cons_append, List.append_nil]
      refine gx_skip rfl ?_
      dsimp only [aftL, List.set_cons_zero, List.set_cons_succ, List.nil_append, List.cons_append, List.append_nil]
      refine gx_skip rfl ?_
      dsimp only [aftL, List.set_cons_zero, List.set_cons_succ, List.nil_append, List.cons_append, List.append_nil]
      refine gx_skip rfl ?_
      dsimp only [aftL, List.set_cons_zero, List.set_cons_succ, List.nil_append, List.cons_append, List.append_nil]
      refine gx_skip rfl ?_
      dsimp only [aftL, List.set_cons_zero, List.set_cons_succ, List.nil_append, List.cons_append, List.append_nil]
      refine gx_skip rfl ?_
      dsimp only [aftL, List.set_cons_zero, List.set_cons_succ, List.nil_append, List.cons_append, List.append_nil]
      refine gx_skip rfl ?_
      dsimp only [aftL, List.set_cons_zero, List.set_cons_succ, List.nil_append, List.cons_append, List.append_nil]
      refine gx_skip rfl ?_
      dsimp only [aftL, List.set_cons_zero, List.set_cons_succ, List.nil_append, List.cons_append, List.append_nil]
      refine gx_skip rfl ?_
      dsimp only [aftL, List.set_cons_zero, List.set_cons_succ, List.nil_append, List.cons_append, List.append_nil]
      refine gx_o rfl (fun L2 => ?_) ?_
      · dsimp only [maskL, List.cons_append, List.nil_append]
        refine ox_y rfl (y_pick_tb rfl rfl) ?_
        refine ox_nil ?_
        exact ex_capG (fun _ => (none, 0, 0)) rfl (List.append_nil _)
      dsimp only [aftL, List.set_cons_zero, List.set_cons_succ, List.nil_append, List.cons_append, List.append_nil]
      refine gx_nil ?_
      refine ex_then ?_
      refine cx_true rfl ?_
      refine cx_seq ?_
      refine cx_region ?_
      refine ox_y rfl (y_assign_int rfl) ?_
      refine ox_nil ?_
      refine ex_then ?_
      refine cx_ret ?_
      refine ex_then_ret ?_
      obtain rfl := Option.some.inj h
      exact ex_res1 (.inl rfl) rfl (resV_tmp (v := .int .i64 8) rfl) (fun W2 hW2 => ⟨rfl, hW2.none⟩)
    · obtain ⟨y14, hy15, h⟩ := bind_some h
      obtain ⟨y19, hy20, h⟩ := bind_some h
      rcases ite_some h with ⟨hq10_21, h⟩ | ⟨hq10_21, h⟩
      · refine cx_drawsG [[], [], [0, 1], [0, 1, 2], [], [4], [0, 1, 2, 3, 4, 5], [0, 1, 2, 3, 4, 5, 6], [0, 1, 2, 3, 4, 5, 6, 7], [0, 1, 2, 3, 4, 5, 6, 7], [0, 1, 2, 3, 4, 5, 6, 7, 9], [0, 1, 2, 3, 4, 5, 6, 7], [0, 1, 2, 3, 4, 5, 6, 7, 11], [0, 1, 2, 3, 4, 5, 6, 7, 11, 12], [0, 1, 2, 3, 4, 5, 6, 7], [0, 1, 2, 3, 4, 5, 6, 7], [0, 1, 2, 3, 4, 5, 6, 7, 14, 15], [0, 1, 2, 3, 4, 5, 6, 7, 8, 9, 10, 11, 12, 13, 14, 15, 16], [0, 1, 2, 3, 4, 5, 6, 7, 8, 9, 10, 11, 12, 13, 14, 15, 16, 17], [0, 1, 2, 3, 4, 5, 6, 7, 8, 9, 10, 11, 12, 13, 14, 15, 16, 17, 18], [0, 1, 2, 3, 4, 5, 6, 7, 8, 9, 10, 11, 12, 13, 14, 15, 16, 17, 18, 19], [0, 1, 2, 3, 4, 5, 6, 7, 8, 9, 10, 11, 12, 13, 14, 15, 16, 17, 18, 19, 20], [0, 1, 2, 3, 4, 5, 6, 7, 8, 9, 10, 11, 12, 13, 14, 15, 16, 17, 18, 19, 20], [0, 1, 2, 3, 4, 5, 6, 7, 8, 9, 10, 11, 12, 13, 14, 15, 16, 17, 18, 19, 20, 22], [0, 1, 2, 3, 4, 5, 6, 7, 8, 9, 10, 11, 12, 13, 14, 15, 16, 17, 18, 19, 20], [0, 1, 2, 3, 4, 5, 6, 7, 8, 9, 10, 11, 12, 13, 14, 15, 16, 17, 18, 19, 20, 24], [0, 1, 2, 3, 4, 5, 6, 7, 8, 9, 10, 11, 12, 13, 14, 15, 16, 17, 18, 19, 20, 24, 25], [0, 1, 2, 3, 4, 5, 6, 7, 8, 9, 10, 11, 12, 13, 14, 15, 16, 17, 18, 19, 20], [0, 1, 2, 3, 4, 5, 6, 7, 8, 9, 10, 11, 12, 13, 14, 15, 16, 17, 18, 19, 20], [0, 1, 2, 3, 4, 5, 6, 7, 8, 9, 10, 11, 12, 13, 14, 15, 16, 17, 18, 19, 20, 27, 28], [0, 1, 2, 3, 4, 5, 6, 7, 8, 9, 10, 11, 12, 13, 14, 15, 16, 17, 18, 19, 20, 21, 22, 23, 24, 25, 26, 27, 28, 29], [0, 1, 2, 3, 4, 5, 6, 7, 8, 9, 10, 11, 12, 13, 14, 15, 16, 17, 18, 19, 20, 21, 22, 23, 24, 25, 26, 27, 28, 29, 30], [0, 1, 2, 3, 4, 5, 6, 7, 8, 9, 10, 11, 12, 13, 14, 15, 16, 17, 18, 19, 20, 21, 22, 23, 24, 25, 26, 27, 28, 29, 30, 31]] [(none, 0, [true, true, true, true]), (none, 0, [true, true, true, true]), (none, 0, [true, true, true, true]), (none, 0, [true, true, true, true]), (none, 0, [true, true, true, true]), (none, 0, [true, true, true, true]), (none, 0, [true, true, true, true]), (none, 0, [true, true, true, true]), (none, 0, [true, true, true, true]), (none, 0, [true, true, true, true]), (none, 0, [true, true, true, true]), (none, 0, [true, true, true, true]), (none, 0, [true, true, true, true]), (none, 0, [true, true, true, true]), (none, 0, [true, true, true, true]), (none, 0, [true, true, true, true]), (none, 2, [true, true, true, true]), (none, 0, [true, true, true, true, true, true]), (none, 0, [true, true, true, true, true, true]), (none, 0, [true, true, true, true, true, true]), (none, 0, [true, true, true, true, true, true]), (none, 0, [true, true, true, true, true, true]), (none, 0, [true, true, true, true, true, true]), (none, 0, [true, true, true, true, true, true]), (none, 0, [true, true, true, true, true, true]), (none, 0, [true, true, true, true, true, true]), (none, 0, [true, true, true, true, true, true]), (none, 0, [true, true, true, true, true, true]), (none, 0, [true, true, true, true, true, true]), (none, 0, [true, true, true, true, true, true]), (none, 0, [true, true, true, true, true, true]), (none, 0, [true, true, true, true, true, true]), (none, 0, [true, true, true, true, true, true])] [⟨fun _ => .agg #[.int .i64 p0_f.fRise, .int .i64 p0_f.fFall, .int .i64 p0_f.fUp, .int .i64 p0_f.fDown, .slice A0_4 p0_f.fLooks.length c0_4], fun _ => noR, fun _ => []⟩, ⟨fun _ => .agg #[.int .i64 p1_at.fFoot, .int .i64 p1_at.fHour], fun _ => noR, fun _ => []⟩, ⟨fun _ => .agg #[.int .i64 y12.fSpan.fLo, .int .i64 y12.fSpan.fHi, .int .i64 y12.fLow, .int .i64 y12.fHigh], fun _ => noR, fun _ => []⟩, ⟨fun _ => .agg #[.int .i64 y12.fSpan.fLo, .int .i64 y12.fSpan.fHi], fun _ => noR, fun _ => []⟩, ⟨fun _ => .pointer (some ⟨b3, 0 + 0, none⟩), fun _ => noR, fun _ => []⟩, ⟨fun _ => .agg #[.int .i64 p2_b.fSpan.fLo, .int .i64 p2_b.fSpan.fHi], fun _ => noR, fun _ => []⟩, ⟨fun _ => .bool (!((y12.fSpan.fLo == p2_b.fSpan.fLo) && (y12.fSpan.fHi == p2_b.fSpan.fHi))), fun _ => noR, fun _ => []⟩, ⟨fun _ => .bool (!((y12.fSpan.fLo == p2_b.fSpan.fLo) && (y12.fSpan.fHi == p2_b.fSpan.fHi))), fun _ => noR, fun _ => []⟩, ⟨fun _ => .func (.func 92) #[] #[.pointer (some ⟨b1, 0, none⟩)], fun _ => noR, fun _ => []⟩, ⟨fun _ => .pointer (some ⟨b3, 0 + 2, none⟩), fun _ => noR, fun _ => []⟩, ⟨fun _ => .int .i64 p2_b.fLow, fun _ => noR, fun _ => []⟩, ⟨fun _ => .pointer (some ⟨b3, 0 + 0, none⟩), fun _ => noR, fun _ => []⟩, ⟨fun _ => .pointer (some ⟨b3, 0 + 0 + 0, none⟩), fun _ => noR, fun _ => []⟩, ⟨fun _ => .int .i64 p2_b.fSpan.fLo, fun _ => noR, fun _ => []⟩, ⟨fun _ => .agg #[.int .i64 p0_f.fRise, .int .i64 p0_f.fFall, .int .i64 p0_f.fUp, .int .i64 p0_f.fDown, .slice A0_4 p0_f.fLooks.length c0_4], fun _ => noR, fun _ => []⟩, ⟨fun _ => .agg #[.int .i64 p1_at.fFoot, .int .i64 p1_at.fHour], fun _ => noR, fun _ => []⟩, ⟨fun ξ11 => .func (.func 110) #[] #[.pointer (some ⟨(ξ11 16 0).2.1, 0, none⟩), .pointer (some ⟨(ξ11 16 1).2.1, 0, none⟩)], fun _ => noR, fun ξ11 => [cellsR (ξ11 16 0).2.1 24 [.int .i64 p0_f.fRise, .int .i64 p0_f.fFall, .int .i64 p0_f.fUp, .int .i64 p0_f.fDown, .slice A0_4 p0_f.fLooks.length c0_4], cellsR (ξ11 16 1).2.1 26 [.int .i64 p1_at.fFoot, .int .i64 p1_at.fHour]]⟩, ⟨fun _ => .bool y19, fun _ => noR, fun _ => []⟩, ⟨fun _ => .bool (!y19), fun _ => noR, fun _ => []⟩, ⟨fun _ => .bool (!y19), fun _ => noR, fun _ => []⟩, ⟨fun _ => .bool (!y19), fun _ => noR, fun _ => []⟩, ⟨fun _ => undef, fun _ => noR, fun _ => []⟩, ⟨fun _ => undef, fun _ => noR, fun _ => []⟩, ⟨fun _ => undef, fun _ => noR, fun _ => []⟩, ⟨fun _ => undef, fun _ => noR, fun _ => []⟩, ⟨fun _ => undef, fun _ => noR, fun _ => []⟩, ⟨fun _ => undef, fun _ => noR, fun _ => []⟩, ⟨fun _ => undef, fun _ => noR, fun _ => []⟩, ⟨fun _ => undef, fun _ => noR, fun _ => []⟩, ⟨fun _ => undef, fun _ => noR, fun _ => []⟩, ⟨fun _ => undef, fun _ => noR, fun _ => []⟩, ⟨fun _ => undef, fun _ => noR, fun _ => []⟩, ⟨fun _ => .bool true, fun _ => noR, fun _ => []⟩] 4 mixed (by kernel_rfl) (by kernel_rfl) ⟨⟨fun ξ11 ξ11' h => ⟨rfl, rfl, rfl⟩, fun _ => rfl⟩, ⟨fun ξ11 ξ11' h => ⟨rfl, rfl, rfl⟩, fun _ => rfl⟩, ⟨fun ξ11 ξ11' h => ⟨rfl, rfl, rfl⟩, fun _ => rfl⟩, ⟨fun ξ11 ξ11' h => ⟨rfl, rfl, rfl⟩, fun _ => rfl⟩, ⟨fun ξ11 ξ11' h => ⟨rfl, rfl, rfl⟩, fun _ => rfl⟩, ⟨fun ξ11 ξ11' h => ⟨rfl, rfl, rfl⟩, fun _ => rfl⟩, ⟨fun ξ11 ξ11' h => ⟨rfl, rfl, rfl⟩, fun _ => rfl⟩, ⟨fun ξ11 ξ11' h => ⟨rfl, rfl, rfl⟩, fun _ => rfl⟩, ⟨fun ξ11 ξ11' h => ⟨rfl, rfl, rfl⟩, fun _ => rfl⟩, ⟨fun ξ11 ξ11' h => ⟨rfl, rfl, rfl⟩, fun _ => rfl⟩, ⟨fun ξ11 ξ11' h => ⟨rfl, rfl, rfl⟩, fun _ => rfl⟩, ⟨fun ξ11 ξ11' h => ⟨rfl, rfl, rfl⟩, fun _ => rfl⟩, ⟨fun ξ11 ξ11' h => ⟨rfl, rfl, rfl⟩, fun _ => rfl⟩, ⟨fun ξ11 ξ11' h => ⟨rfl, rfl, rfl⟩, fun _ => rfl⟩, ⟨fun ξ11 ξ11' h => ⟨rfl, rfl, rfl⟩, fun _ => rfl⟩, ⟨fun ξ11 ξ11' h => ⟨rfl, rfl, rfl⟩, fun _ => rfl⟩, ⟨fun ξ11 ξ11' h => ⟨by simp only [h 16 (.inl rfl)], rfl, by simp only [h 16 (.inl rfl)]⟩, fun _ => rfl⟩, ⟨fun ξ11 ξ11' h => ⟨rfl, rfl, rfl⟩, fun _ => rfl⟩, ⟨fun ξ11 ξ11' h => ⟨rfl, rfl, rfl⟩, fun _ => rfl⟩, ⟨fun ξ11 ξ11' h => ⟨rfl, rfl, rfl⟩, fun _ => rfl⟩, ⟨fun ξ11 ξ11' h => ⟨rfl, rfl, rfl⟩, fun _ => rfl⟩, ⟨fun ξ11 ξ11' h => ⟨rfl, rfl, rfl⟩, fun _ => rfl⟩, ⟨fun ξ11 ξ11' h => ⟨rfl, rfl, rfl⟩, fun _ => rfl⟩, ⟨fun ξ11 ξ11' h => ⟨rfl, rfl, rfl⟩, fun _ => rfl⟩, ⟨fun ξ11 ξ11' h => ⟨rfl, rfl, rfl⟩, fun _ => rfl⟩, ⟨fun ξ11 ξ11' h => ⟨rfl, rfl, rfl⟩, fun _ => rfl⟩, ⟨fun ξ11 ξ11' h => ⟨rfl, rfl, rfl⟩, fun _ => rfl⟩, ⟨fun ξ11 ξ11' h => ⟨rfl, rfl, rfl⟩, fun _ => rfl⟩, ⟨fun ξ11 ξ11' h => ⟨rfl, rfl, rfl⟩, fun _ => rfl⟩, ⟨fun ξ11 ξ11' h => ⟨rfl, rfl, rfl⟩, fun _ => rfl⟩, ⟨fun ξ11 ξ11' h => ⟨rfl, rfl, rfl⟩, fun _ => rfl⟩, ⟨fun ξ11 ξ11' h => ⟨rfl, rfl, rfl⟩, fun _ => rfl⟩, ⟨fun ξ11 ξ11' h => ⟨rfl, rfl, rfl⟩, fun _ => rfl⟩, trivial⟩ rfl (fun ξ11 => ?_)
        refine gx_o rfl (fun L2 => ?_) ?_
        · dsimp only [maskL, List.cons_append, List.nil_append]
          refine ox_y rfl (y_loadN 0 [.int .i64 p0_f.fRise, .int .i64 p0_f.fFall, .int .i64 p0_f.fUp, .int .i64 p0_f.fDown, .slice A0_4 p0_f.fLooks.length c0_4] ag_24 rfl rfl rfl) ?_
          refine ox_nil ?_
          exact ex_capG (fun _ => (none, 0, 0)) rfl (List.append_nil _)
        dsimp only [aftL, List.set_cons_zero, List.set_cons_succ, List.nil_append, List.cons_append, List.append_nil]
        refine gx_o rfl (fun L2 => ?_) ?_
        · dsimp only [maskL, List.cons_append, List.nil_append]
          refine ox_y rfl (y_loadN 1 [.int .i64 p1_at.fFoot, .int .i64 p1_at.fHour] ag_26 rfl rfl rfl) ?_
          refine ox_nil ?_
          exact ex_capG (fun _ => (none, 0, 0)) rfl (List.append_nil _)
        dsimp only [aftL, List.set_cons_zero, List.set_cons_succ, List.nil_append, List.cons_append, List.append_nil]
        refine gx_o rfl (fun L2 => ?_) ?_
        · dsimp only [maskL, List.cons_append, List.nil_append]
          refine ox_y rfl (y_call [.agg #[.int .i64 p0_f.fRise, .int .i64 p0_f.fFall, .int .i64 p0_f.fUp, .int .i64 p0_f.fDown, .slice A0_4 p0_f.fLooks.length c0_4], .agg #[.int .i64 p1_at.fFoot, .int .i64 p1_at.fHour]] go_57 rfl (fun W2 hW2 => fire_ends_ok p0_f p1_at y12 hy13 W2 A0_4 p0_f.fLooks.length c0_4 rfl ((RdL.arg hr0_4) W2 hW2)) rfl) ?_
          refine ox_nil ?_
          exact ex_capG (fun _ => (none, 0, 0)) rfl (List.append_nil _)
        dsimp only [aftL, List.set_cons_zero, List.set_cons_succ, List.nil_append, List.cons_append, List.append_nil]
        refine gx_o rfl (fun L2 => ?_) ?_
        · dsimp only [maskL, List.cons_append, List.nil_append]
          refine ox_y rfl (y_fieldN [.int .i64 y12.fSpan.fLo, .int .i64 y12.fSpan.fHi, .int .i64 y12.fLow, .int .i64 y12.fHigh] [.int .i64 y12.fSpan.fLo, .int .i64 y12.fSpan.fHi] fd_36_0 ag_32 rfl rfl) ?_
          refine ox_nil ?_
          exact ex_capG (fun _ => (none, 0, 0)) rfl (List.append_nil _)
        dsimp only [aftL, List.set_cons_zero, List.set_cons_succ, List.nil_append, List.cons_append, List.append_nil]
        refine gx_o rfl (fun L2 => ?_) ?_
        · dsimp only [maskL, List.cons_append, List.nil_append]
          refine ox_y rfl (y_fieldAddr fo_36_0 rfl) ?_
          refine ox_nil ?_
          exact ex_capG (fun _ => (none, 0, 0)) rfl (List.append_nil _)
        dsimp only [aftL, List.set_cons_zero, List.set_cons_succ, List.nil_append, List.cons_append, List.append_nil]
        refine gx_o rfl (fun L2 => ?_) ?_
        · dsimp only [maskL, List.cons_append, List.nil_append]
          refine ox_y rfl (y_loadN 2 [.int .i64 p2_b.fSpan.fLo, .int .i64 p2_b.fSpan.fHi] ag_32 rfl rfl rfl) ?_
          refine ox_nil ?_
          exact ex_capG (fun _ => (none, 0, 0)) rfl (List.append_nil _)
        dsimp only [aftL, List.set_cons_zero, List.set_cons_succ, List.nil_append, List.cons_append, List.append_nil]
        refine gx_o rfl (fun L2 => ?_) ?_
        · dsimp only [maskL, List.cons_append, List.nil_append]
          refine ox_y rfl (y_neqa (b := ((y12.fSpan.fLo == p2_b.fSpan.fLo) && (y12.fSpan.fHi == p2_b.fSpan.fHi))) eg_32 rfl rfl (fun _ => (eqS2 fl_32 (part1 sc_3 rfl) (part1 sc_3 rfl) (part1 sc_3 rfl) (part1 sc_3 rfl) (run_equalIn_int _ _ _ _ _ _ _ ui_3) (run_equalIn_int _ _ _ _ _ _ _ ui_3)))) ?_
          refine ox_nil ?_
          exact ex_capG (fun _ => (none, 0, 0)) rfl (List.append_nil _)
        dsimp only [aftL, List.set_cons_zero, List.set_cons_succ, List.nil_append, List.cons_append, List.append_nil]
        refine gx_o rfl (fun L2 => ?_) ?_
        · dsimp only [maskL, List.cons_append, List.nil_append]
          refine ox_y rfl (y_move_bool rfl) ?_
          refine ox_nil ?_
          exact ex_capG (fun _ => (none, 0, 0)) rfl (List.append_nil _)
        dsimp only [aftL, List.set_cons_zero, List.set_cons_succ, List.nil_append, List.cons_append, List.append_nil]
        refine gx_o (sees_t rfl rfl rfl rfl hq10_8) (fun L2 => ?_) ?_
        · dsimp only [maskL, List.cons_append, List.nil_append]
          refine ox_y (sees_t rfl rfl rfl rfl hq10_8) (y_move_func rfl) ?_
          refine ox_nil ?_
          exact ex_capG (fun _ => (none, 0, 0)) rfl (List.append_nil _)
        dsimp only [aftL, List.set_cons_zero, List.set_cons_succ, List.nil_append, List.cons_append, List.append_nil]
        refine gx_o (sees_t rfl rfl rfl rfl hq10_8) (fun L2 => ?_) ?_
        · dsimp only [maskL, List.cons_append, List.nil_append]
          refine ox_y (sees_t rfl rfl rfl rfl hq10_8) (y_fieldAddr fo_36_1 rfl) ?_
          refine ox_nil ?_
          exact ex_capG (fun _ => (none, 0, 0)) rfl (List.append_nil _)
        dsimp only [aftL, List.set_cons_zero, List.set_cons_succ, List.nil_append, List.cons_append, List.append_nil]
        refine gx_o (sees_t rfl rfl rfl rfl hq10_8) (fun L2 => ?_) ?_
        · dsimp only [maskL, List.cons_append, List.nil_append]
          refine ox_y (sees_t rfl rfl rfl rfl hq10_8) (y_load1 2 (v := .int .i64 p2_b.fLow) sc_3 rfl rfl rfl) ?_
          refine ox_nil ?_
          exact ex_capG (fun _ => (none, 0, 0)) rfl (List.append_nil _)
        dsimp only [aftL, List.set_cons_zero, List.set_cons_succ, List.nil_append, List.cons_append, List.append_nil]
        refine gx_o (sees_t rfl rfl rfl rfl hq10_8) (fun L2 => ?_) ?_
        · dsimp only [maskL, List.cons_append, List.nil_append]
          refine ox_y (sees_t rfl rfl rfl rfl hq10_8) (y_fieldAddr fo_36_0 rfl) ?_
          refine ox_nil ?_
          exact ex_capG (fun _ => (none, 0, 0)) rfl (List.append_nil _)
        dsimp only [aftL, List.set_cons_zero, List.set_cons_succ, List.nil_append, List.cons_append, List.append_nil]
        refine gx_o (sees_t rfl rfl rfl rfl hq10_8) (fun L2 => ?_) ?_
        · dsimp only [maskL, List.cons_append, List.nil_append]
          refine ox_y (sees_t rfl rfl rfl rfl hq10_8) (y_fieldAddr fo_32_0 rfl) ?_
          refine ox_nil ?_
          exact ex_capG (fun _ => (none, 0, 0)) rfl (List.append_nil _)
        dsimp only [aftL, List.set_cons_zero, List.set_cons_succ, List.nil_append, List.cons_append, List.append_nil]
        refine gx_o (sees_t rfl rfl rfl rfl hq10_8) (fun L2 => ?_) ?_
        · dsimp only [maskL, List.cons_append, List.nil_append]
          refine ox_y (sees_t rfl rfl rfl rfl hq10_8) (y_load1 2 (v := .int .i64 p2_b.fSpan.fLo) sc_3 rfl rfl rfl) ?_
          refine ox_nil ?_
          exact ex_capG (fun _ => (none, 0, 0)) rfl (List.append_nil _)
        dsimp only [aftL, List.set_cons_zero, List.set_cons_succ, List.nil_append, List.cons_append, List.append_nil]
        refine gx_o (sees_t rfl rfl rfl rfl hq10_8) (fun L2 => ?_) ?_
        · dsimp only [maskL, List.cons_append, List.nil_append]
          refine ox_y (sees_t rfl rfl rfl rfl hq10_8) (y_loadN 0 [.int .i64 p0_f.fRise, .int .i64 p0_f.fFall, .int .i64 p0_f.fUp, .int .i64 p0_f.fDown, .slice A0_4 p0_f.fLooks.length c0_4] ag_24 rfl rfl rfl) ?_
          refine ox_nil ?_
          exact ex_capG (fun _ => (none, 0, 0)) rfl (List.append_nil _)
        dsimp only [aftL, List.set_cons_zero, List.set_cons_succ, List.nil_append, List.cons_append, List.append_nil]
        refine gx_o (sees_t rfl rfl rfl rfl hq10_8) (fun L2 => ?_) ?_
        · dsimp only [maskL, List.cons_append, List.nil_append]
          refine ox_y (sees_t rfl rfl rfl rfl hq10_8) (y_loadN 1 [.int .i64 p1_at.fFoot, .int .i64 p1_at.fHour] ag_26 rfl rfl rfl) ?_
          refine ox_nil ?_
          exact ex_capG (fun _ => (none, 0, 0)) rfl (List.append_nil _)
        dsimp only [aftL, List.set_cons_zero, List.set_cons_succ, List.nil_append, List.cons_append, List.append_nil]
        refine gx_o (sees_t rfl rfl rfl rfl hq10_8) (fun L2 => ?_) ?_
        · dsimp only [maskL, List.cons_append, List.nil_append]
          refine ox_call1 [.agg #[.int .i64 p0_f.fRise, .int .i64 p0_f.fFall, .int .i64 p0_f.fUp, .int .i64 p0_f.fDown, .slice A0_4 p0_f.fLooks.length c0_4], .agg #[.int .i64 p1_at.fFoot, .int .i64 p1_at.fHour]] _ _ (sees_t rfl rfl rfl rfl hq10_8) go_93 rfl (fun W2 hW2 => fire_low_ok p0_f p1_at y14 hy15 W2 A0_4 p0_f.fLooks.length c0_4 rfl ((RdL.arg hr0_4) W2 hW2)) ?_
          rintro ⟨b16, b17⟩
          refine ox_nil ?_
          exact ex_capG (fun q => if q = 0 then (none, b16, 0) else (none, b17, 0)) rfl rfl
        dsimp only [aftL, List.set_cons_zero, List.set_cons_succ, List.nil_append, List.cons_append, List.append_nil]
        refine gx_o (sees_t rfl rfl rfl rfl hq10_8) (fun L2 => ?_) ?_
        · dsimp only [maskL, List.cons_append, List.nil_append]
          refine ox_y (sees_t rfl rfl rfl rfl hq10_8) (y_callv (caps := [.pointer (some ⟨b1, 0, none⟩)]) [.int .i64 p2_b.fLow, .int .i64 p2_b.fSpan.fLo, .int .i64 0, .func (.func 110) #[] #[.pointer (some ⟨(ξ11 16 0).2.1, 0, none⟩), .pointer (some ⟨(ξ11 16 1).2.1, 0, none⟩)]] go_92 rfl rfl (fun W2 hW2 => fire_CheckEnds_1_ok p2_b.fLow p2_b.fSpan.fLo 0 (fun x18 => fire_low_1 x18 p0_f p1_at) p0_f y19 hy20 W2 110 [.pointer (some ⟨(ξ11 16 0).2.1, 0, none⟩), .pointer (some ⟨(ξ11 16 1).2.1, 0, none⟩)] go_110 (fun W3 hb x y hxy => fire_low_1_ok x p0_f p1_at y hxy W3 (ξ11 16 0).2.1 A0_4 p0_f.fLooks.length c0_4 rfl (((RdL.arg hr0_4) W2 hW2).later hb) (((RdL.cells 4 rfl) W2 hW2).later hb) (ξ11 16 1).2.1 (((RdL.cells 5 rfl) W2 hW2).later hb)) b1 A0_4 p0_f.fLooks.length c0_4 rfl ((RdL.arg hr0_4) W2 hW2) ((RdL.cells 0 rfl) W2 hW2))) ?_
          refine ox_nil ?_
          exact ex_capG (fun _ => (none, 0, 0)) rfl (List.append_nil _)
        dsimp only [aftL, List.set_cons_zero, List.set_cons_succ, List.nil_append, List.cons_append, List.append_nil]
        refine gx_o (sees_t rfl rfl rfl rfl hq10_8) (fun L2 => ?_) ?_
        · dsimp only [maskL, List.cons_append, List.nil_append]
          refine ox_y (sees_t rfl rfl rfl rfl hq10_8) (y_not rfl) ?_
          refine ox_nil ?_
          exact ex_capG (fun _ => (none, 0, 0)) rfl (List.append_nil _)
        dsimp only [aftL, List.set_cons_zero, List.set_cons_succ, List.nil_append, List.cons_append, List.append_nil]
        refine gx_o rfl (fun L2 => ?_) ?_
        · dsimp only [maskL, List.cons_append, List.nil_append]
          refine ox_y rfl (y_pick_fb (congrArg Value.bool hq10_8) rfl) ?_
          refine ox_nil ?_
          exact ex_capG (fun _ => (none, 0, 0)) rfl (List.append_nil _)
        dsimp only [aftL, List.set_cons_zero, List.set_cons_succ, List.nil_append, List.cons_append, List.append_nil]
        refine gx_o rfl (fun L2 => ?_) ?_
        · dsimp only [maskL, List.cons_append, List.nil_append]
          refine ox_y rfl (y_move_bool rfl) ?_
          refine ox_nil ?_
          exact ex_capG (fun _ => (none, 0, 0)) rfl (List.append_nil _)
        dsimp only [aftL, List.set_cons_zero, List.set_cons_succ, List.nil_append, List.cons_append, List.append_nil]
        refine gx_skip (sees_f rfl rfl rfl rfl hq10_21) ?_
        dsimp only [aftL, List.set_cons_zero, List.set_cons_succ, List.nil_append, List.cons_append, List.append_nil]
        refine gx_skip (sees_f rfl rfl rfl rfl hq10_21) ?_
        dsimp only [aftL, List.set_cons_zero, List.set_cons_succ, List.nil_append, List.cons_append, List.append_nil]
        refine gx_skip (sees_f rfl rfl rfl rfl hq10_21) ?_
        dsimp only [aftL, List.set_cons_zero, List.set_cons_succ, List.nil_append, List.cons_append, List.append_nil]
        refine gx_skip (sees_f rfl rfl rfl rfl hq10_21) ?_
        dsimp only [aftL, List.set_cons_zero, List.set_cons_succ, List.nil_append, List.cons_append, List.append_nil]
        refine gx_skip (sees_f rfl rfl rfl rfl hq10_21) ?_
        dsimp only [aftL, List.set_cons_zero, List.set_cons_succ, List.nil_append, List.cons_append, List.append_nil]
        refine gx_skip (sees_f rfl rfl rfl rfl hq10_21) ?_
        dsimp only [aftL, List.set_cons_zero, List.set_cons_succ, List.nil_append, List.cons_append, List.append_nil]
        refine gx_skip (sees_f rfl rfl rfl rfl hq10_21) ?_
        dsimp only [aftL, List.set_cons_zero, List.set_cons_succ, List.nil_append, List.cons_append, List.append_nil]
        refine gx_skip (sees_f rfl rfl rfl rfl hq10_21) ?_
        dsimp only [aftL, List.set_cons_zero, List.set_cons_succ, List.nil_append, List.cons_append, List.append_nil]
        refine gx_skip (sees_f rfl rfl rfl rfl hq10_21) ?_
        dsimp only [aftL, List.set_cons_zero, List.set_cons_succ, List.nil_append, List.cons_append, List.append_nil]
        refine gx_skip (sees_f rfl rfl rfl rfl hq10_21) ?_
        dsimp only [aftL, List.set_cons_zero, List.set_cons_succ, List.nil_append, List.cons_append, List.append_nil]
        refine gx_skip (sees_f rfl rfl rfl rfl hq10_21) ?_
        dsimp only [aftL, List.set_cons_zero, List.set_cons_succ, List.nil_append, List.cons_append, List.append_nil]
        refine gx_o rfl (fun L2 => ?_) ?_
        · dsimp only [maskL, List.cons_append, List.nil_append]
          refine ox_y rfl (y_pick_tb (congrArg Value.bool hq10_21) rfl) ?_
          refine ox_nil ?_
          exact ex_capG (fun _ => (none, 0, 0)) rfl (List.append_nil _)
        dsimp only [aftL, List.set_cons_zero, List.set_cons_succ, List.nil_append, List.cons_append, List.append_nil]
        refine gx_nil ?_
        refine ex_then ?_
        refine cx_true rfl ?_
        refine cx_seq ?_
        refine cx_region ?_
        try dsimp only [List.nil_append, List.cons_append, List.set_cons_zero, List.set_cons_succ]
        refine ox_y rfl (y_assign_int rfl) ?_
        refine ox_nil ?_
        refine ex_then ?_
        refine cx_ret ?_
        refine ex_then_ret ?_
        obtain rfl := Option.some.inj h
        exact ex_res1 (.inl rfl) rfl (resV_tmp (v := .int .i64 8) rfl) (fun W2 hW2 => ⟨rfl, hW2.none⟩)
      · obtain ⟨y21, hy22, h⟩ := bind_some h
        obtain ⟨y26, hy27, h⟩ := bind_some h
        refine cx_drawsG [[], [], [0, 1], [0, 1, 2], [], [4], [0, 1, 2, 3, 4, 5], [0, 1, 2, 3, 4, 5, 6], [0, 1, 2, 3, 4, 5, 6, 7], [0, 1, 2, 3, 4, 5, 6, 7], [0, 1, 2, 3, 4, 5, 6, 7, 9], [0, 1, 2, 3, 4, 5, 6, 7], [0, 1, 2, 3, 4, 5, 6, 7, 11], [0, 1, 2, 3, 4, 5, 6, 7, 11, 12], [0, 1, 2, 3, 4, 5, 6, 7], [0, 1, 2, 3, 4, 5, 6, 7], [0, 1, 2, 3, 4, 5, 6, 7, 14, 15], [0, 1, 2, 3, 4, 5, 6, 7, 8, 9, 10, 11, 12, 13, 14, 15, 16], [0, 1, 2, 3, 4, 5, 6, 7, 8, 9, 10, 11, 12, 13, 14, 15, 16, 17], [0, 1, 2, 3, 4, 5, 6, 7, 8, 9, 10, 11, 12, 13, 14, 15, 16, 17, 18], [0, 1, 2, 3, 4, 5, 6, 7, 8, 9, 10, 11, 12, 13, 14, 15, 16, 17, 18, 19], [0, 1, 2, 3, 4, 5, 6, 7, 8, 9, 10, 11, 12, 13, 14, 15, 16, 17, 18, 19, 20], [0, 1, 2, 3, 4, 5, 6, 7, 8, 9, 10, 11, 12, 13, 14, 15, 16, 17, 18, 19, 20], [0, 1, 2, 3, 4, 5, 6, 7, 8, 9, 10, 11, 12, 13, 14, 15, 16, 17, 18, 19, 20, 22], [0, 1, 2, 3, 4, 5, 6, 7, 8, 9, 10, 11, 12, 13, 14, 15, 16, 17, 18, 19, 20], [0, 1, 2, 3, 4, 5, 6, 7, 8, 9, 10, 11, 12, 13, 14, 15, 16, 17, 18, 19, 20, 24], [0, 1, 2, 3, 4, 5, 6, 7, 8, 9, 10, 11, 12, 13, 14, 15, 16, 17, 18, 19, 20, 24, 25], [0, 1, 2, 3, 4, 5, 6, 7, 8, 9, 10, 11, 12, 13, 14, 15, 16, 17, 18, 19, 20], [0, 1, 2, 3, 4, 5, 6, 7, 8, 9, 10, 11, 12, 13, 14, 15, 16, 17, 18, 19, 20], [0, 1, 2, 3, 4, 5, 6, 7, 8, 9, 10, 11, 12, 13, 14, 15, 16, 17, 18, 19, 20, 27, 28], [0, 1, 2, 3, 4, 5, 6, 7, 8, 9, 10, 11, 12, 13, 14, 15, 16, 17, 18, 19, 20, 21, 22, 23, 24, 25, 26, 27, 28, 29], [0, 1, 2, 3, 4, 5, 6, 7, 8, 9, 10, 11, 12, 13, 14, 15, 16, 17, 18, 19, 20, 21, 22, 23, 24, 25, 26, 27, 28, 29, 30], [0, 1, 2, 3, 4, 5, 6, 7, 8, 9, 10, 11, 12, 13, 14, 15, 16, 17, 18, 19, 20, 21, 22, 23, 24, 25, 26, 27, 28, 29, 30, 31]] [(none, 0, [true, true, true, true]), (none, 0, [true, true, true, true]), (none, 0, [true, true, true, true]), (none, 0, [true, true, true, true]), (none, 0, [true, true, true, true]), (none, 0, [true, true, true, true]), (none, 0, [true, true, true, true]), (none, 0, [true, true, true, true]), (none, 0, [true, true, true, true]), (none, 0, [true, true, true, true]), (none, 0, [true, true, true, true]), (none, 0, [true, true, true, true]), (none, 0, [true, true, true, true]), (none, 0, [true, true, true, true]), (none, 0, [true, true, true, true]), (none, 0, [true, true, true, true]), (none, 2, [true, true, true, true]), (none, 0, [true, true, true, true, true, true]), (none, 0, [true, true, true, true, true, true]), (none, 0, [true, true, true, true, true, true]), (none, 0, [true, true, true, true, true, true]), (none, 0, [true, true, true, true, true, true]), (none, 0, [true, true, true, true, true, true]), (none, 0, [true, true, true, true, true, true]), (none, 0, [true, true, true, true, true, true]), (none, 0, [true, true, true, true, true, true]), (none, 0, [true, true, true, true, true, true]), (none, 0, [true, true, true, true, true, true]), (none, 0, [true, true, true, true, true, true]), (none, 2, [true, true, true, true, true, true]), (none, 0, [true, true, true, true, true, true, true, true]), (none, 0, [true, true, true, true, true, true, true, true]), (none, 0, [true, true, true, true, true, true, true, true])] [⟨fun _ => .agg #[.int .i64 p0_f.fRise, .int .i64 p0_f.fFall, .int .i64 p0_f.fUp, .int .i64 p0_f.fDown, .slice A0_4 p0_f.fLooks.length c0_4], fun _ => noR, fun _ => []⟩, ⟨fun _ => .agg #[.int .i64 p1_at.fFoot, .int .i64 p1_at.fHour], fun _ => noR, fun _ => []⟩, ⟨fun _ => .agg #[.int .i64 y12.fSpan.fLo, .int .i64 y12.fSpan.fHi, .int .i64 y12.fLow, .int .i64 y12.fHigh], fun _ => noR, fun _ => []⟩, ⟨fun _ => .agg #[.int .i64 y12.fSpan.fLo, .int .i64 y12.fSpan.fHi], fun _ => noR, fun _ => []⟩, ⟨fun _ => .pointer (some ⟨b3, 0 + 0, none⟩), fun _ => noR, fun _ => []⟩, ⟨fun _ => .agg #[.int .i64 p2_b.fSpan.fLo, .int .i64 p2_b.fSpan.fHi], fun _ => noR, fun _ => []⟩, ⟨fun _ => .bool (!((y12.fSpan.fLo == p2_b.fSpan.fLo) && (y12.fSpan.fHi == p2_b.fSpan.fHi))), fun _ => noR, fun _ => []⟩, ⟨fun _ => .bool (!((y12.fSpan.fLo == p2_b.fSpan.fLo) && (y12.fSpan.fHi == p2_b.fSpan.fHi))), fun _ => noR, fun _ => []⟩, ⟨fun _ => .func (.func 92) #[] #[.pointer (some ⟨b1, 0, none⟩)], fun _ => noR, fun _ => []⟩, ⟨fun _ => .pointer (some ⟨b3, 0 + 2, none⟩), fun _ => noR, fun _ => []⟩, ⟨fun _ => .int .i64 p2_b.fLow, fun _ => noR, fun _ => []⟩, ⟨fun _ => .pointer (some ⟨b3, 0 + 0, none⟩), fun _ => noR, fun _ => []⟩, ⟨fun _ => .pointer (some ⟨b3, 0 + 0 + 0, none⟩), fun _ => noR, fun _ => []⟩, ⟨fun _ => .int .i64 p2_b.fSpan.fLo, fun _ => noR, fun _ => []⟩, ⟨fun _ => .agg #[.int .i64 p0_f.fRise, .int .i64 p0_f.fFall, .int .i64 p0_f.fUp, .int .i64 p0_f.fDown, .slice A0_4 p0_f.fLooks.length c0_4], fun _ => noR, fun _ => []⟩, ⟨fun _ => .agg #[.int .i64 p1_at.fFoot, .int .i64 p1_at.fHour], fun _ => noR, fun _ => []⟩, ⟨fun ξ11 => .func (.func 110) #[] #[.pointer (some ⟨(ξ11 16 0).2.1, 0, none⟩), .pointer (some ⟨(ξ11 16 1).2.1, 0, none⟩)], fun _ => noR, fun ξ11 => [cellsR (ξ11 16 0).2.1 24 [.int .i64 p0_f.fRise, .int .i64 p0_f.fFall, .int .i64 p0_f.fUp, .int .i64 p0_f.fDown, .slice A0_4 p0_f.fLooks.length c0_4], cellsR (ξ11 16 1).2.1 26 [.int .i64 p1_at.fFoot, .int .i64 p1_at.fHour]]⟩, ⟨fun _ => .bool y19, fun _ => noR, fun _ => []⟩, ⟨fun _ => .bool (!y19), fun _ => noR, fun _ => []⟩, ⟨fun _ => .bool (!y19), fun _ => noR, fun _ => []⟩, ⟨fun _ => .bool (!y19), fun _ => noR, fun _ => []⟩, ⟨fun _ => .func (.func 92) #[] #[.pointer (some ⟨b1, 0, none⟩)], fun _ => noR, fun _ => []⟩, ⟨fun _ => .pointer (some ⟨b3, 0 + 3, none⟩), fun _ => noR, fun _ => []⟩, ⟨fun _ => .int .i64 p2_b.fHigh, fun _ => noR, fun _ => []⟩, ⟨fun _ => .pointer (some ⟨b3, 0 + 0, none⟩), fun _ => noR, fun _ => []⟩, ⟨fun _ => .pointer (some ⟨b3, 0 + 0 + 1, none⟩), fun _ => noR, fun _ => []⟩, ⟨fun _ => .int .i64 p2_b.fSpan.fHi, fun _ => noR, fun _ => []⟩, ⟨fun _ => .agg #[.int .i64 p0_f.fRise, .int .i64 p0_f.fFall, .int .i64 p0_f.fUp, .int .i64 p0_f.fDown, .slice A0_4 p0_f.fLooks.length c0_4], fun _ => noR, fun _ => []⟩, ⟨fun _ => .agg #[.int .i64 p1_at.fFoot, .int .i64 p1_at.fHour], fun _ => noR, fun _ => []⟩, ⟨fun ξ11 => .func (.func 111) #[] #[.pointer (some ⟨(ξ11 29 0).2.1, 0, none⟩), .pointer (some ⟨(ξ11 29 1).2.1, 0, none⟩)], fun _ => noR, fun ξ11 => [cellsR (ξ11 29 0).2.1 24 [.int .i64 p0_f.fRise, .int .i64 p0_f.fFall, .int .i64 p0_f.fUp, .int .i64 p0_f.fDown, .slice A0_4 p0_f.fLooks.length c0_4], cellsR (ξ11 29 1).2.1 26 [.int .i64 p1_at.fFoot, .int .i64 p1_at.fHour]]⟩, ⟨fun _ => .bool y26, fun _ => noR, fun _ => []⟩, ⟨fun _ => .bool (!y26), fun _ => noR, fun _ => []⟩, ⟨fun _ => .bool (!y26), fun _ => noR, fun _ => []⟩] 4 mixed (by kernel_rfl) (by kernel_rfl) ⟨⟨fun ξ11 ξ11' h => ⟨rfl, rfl, rfl⟩, fun _ => rfl⟩, ⟨fun ξ11 ξ11' h => ⟨rfl, rfl, rfl⟩, fun _ => rfl⟩, ⟨fun ξ11 ξ11' h => ⟨rfl, rfl, rfl⟩, fun _ => rfl⟩, ⟨fun ξ11 ξ11' h => ⟨rfl, rfl, rfl⟩, fun _ => rfl⟩, ⟨fun ξ11 ξ11' h => ⟨rfl, rfl, rfl⟩, fun _ => rfl⟩, ⟨fun ξ11 ξ11' h => ⟨rfl, rfl, rfl⟩, fun _ => rfl⟩, ⟨fun ξ11 ξ11' h => ⟨rfl, rfl, rfl⟩, fun _ => rfl⟩, ⟨fun ξ11 ξ11' h => ⟨rfl, rfl, rfl⟩, fun _ => rfl⟩, ⟨fun ξ11 ξ11' h => ⟨rfl, rfl, rfl⟩, fun _ => rfl⟩, ⟨fun ξ11 ξ11' h => ⟨rfl, rfl, rfl⟩, fun _ => rfl⟩, ⟨fun ξ11 ξ11' h => ⟨rfl, rfl, rfl⟩, fun _ => rfl⟩, ⟨fun ξ11 ξ11' h => ⟨rfl, rfl, rfl⟩, fun _ => rfl⟩, ⟨fun ξ11 ξ11' h => ⟨rfl, rfl, rfl⟩, fun _ => rfl⟩, ⟨fun ξ11 ξ11' h => ⟨rfl, rfl, rfl⟩, fun _ => rfl⟩, ⟨fun ξ11 ξ11' h => ⟨rfl, rfl, rfl⟩, fun _ => rfl⟩, ⟨fun ξ11 ξ11' h => ⟨rfl, rfl, rfl⟩, fun _ => rfl⟩, ⟨fun ξ11 ξ11' h => ⟨by simp only [h 16 (.inl rfl)], rfl, by simp only [h 16 (.inl rfl)]⟩, fun _ => rfl⟩, ⟨fun ξ11 ξ11' h => ⟨rfl, rfl, rfl⟩, fun _ => rfl⟩, ⟨fun ξ11 ξ11' h => ⟨rfl, rfl, rfl⟩, fun _ => rfl⟩, ⟨fun ξ11 ξ11' h => ⟨rfl, rfl, rfl⟩, fun _ => rfl⟩, ⟨fun ξ11 ξ11' h => ⟨rfl, rfl, rfl⟩, fun _ => rfl⟩, ⟨fun ξ11 ξ11' h => ⟨rfl, rfl, rfl⟩, fun _ => rfl⟩, ⟨fun ξ11 ξ11' h => ⟨rfl, rfl, rfl⟩, fun _ => rfl⟩, ⟨fun ξ11 ξ11' h => ⟨rfl, rfl, rfl⟩, fun _ => rfl⟩, ⟨fun ξ11 ξ11' h => ⟨rfl, rfl, rfl⟩, fun _ => rfl⟩, ⟨fun ξ11 ξ11' h => ⟨rfl, rfl, rfl⟩, fun _ => rfl⟩, ⟨fun ξ11 ξ11' h => ⟨rfl, rfl, rfl⟩, fun _ => rfl⟩, ⟨fun ξ11 ξ11' h => ⟨rfl, rfl, rfl⟩, fun _ => rfl⟩, ⟨fun ξ11 ξ11' h => ⟨rfl, rfl, rfl⟩, fun _ => rfl⟩, ⟨fun ξ11 ξ11' h => ⟨by simp only [h 29 (.inl rfl)], rfl, by simp only [h 29 (.inl rfl)]⟩, fun _ => rfl⟩, ⟨fun ξ11 ξ11' h => ⟨rfl, rfl, rfl⟩, fun _ => rfl⟩, ⟨fun ξ11 ξ11' h => ⟨rfl, rfl, rfl⟩, fun _ => rfl⟩, ⟨fun ξ11 ξ11' h => ⟨rfl, rfl, rfl⟩, fun _ => rfl⟩, trivial⟩ rfl (fun ξ11 => ?_)
        refine gx_o rfl (fun L2 => ?_) ?_
        · dsimp only [maskL, List.cons_append, List.nil_append]
          refine ox_y rfl (y_loadN 0 [.int .i64 p0_f.fRise, .int .i64 p0_f.fFall, .int .i64 p0_f.fUp, .int .i64 p0_f.fDown, .slice A0_4 p0_f.fLooks.length c0_4] ag_24 rfl rfl rfl) ?_
          refine ox_nil ?_
          exact ex_capG (fun _ => (none, 0, 0)) rfl (List.append_nil _)
        dsimp only [aftL, List.set_cons_zero, List.set_cons_succ, List.nil_append, List.cons_append, List.append_nil]
        refine gx_o rfl (fun L2 => ?_) ?_
        · dsimp only [maskL, List.cons_append, List.nil_append]
          refine ox_y rfl (y_loadN 1 [.int .i64 p1_at.fFoot, .int .i64 p1_at.fHour] ag_26 rfl rfl rfl) ?_
          refine ox_nil ?_
          exact ex_capG (fun _ => (none, 0, 0)) rfl (List.append_nil _)
        dsimp only [aftL, List.set_cons_zero, List.set_cons_succ, List.nil_append, List.cons_append, List.append_nil]
        refine gx_o rfl (fun L2 => ?_) ?_
        · dsimp only [maskL, List.cons_append, List.nil_append]
          refine ox_y rfl (y_call [.agg #[.int .i64 p0_f.fRise, .int .i64 p0_f.fFall, .int .i64 p0_f.fUp, .int .i64 p0_f.fDown, .slice A0_4 p0_f.fLooks.length c0_4], .agg #[.int .i64 p1_at.fFoot, .int .i64 p1_at.fHour]] go_57 rfl (fun W2 hW2 => fire_ends_ok p0_f p1_at y12 hy13 W2 A0_4 p0_f.fLooks.length c0_4 rfl ((RdL.arg hr0_4) W2 hW2)) rfl) ?_
          refine ox_nil ?_
          exact ex_capG (fun _ => (none, 0, 0)) rfl (List.append_nil _)
        dsimp only [aftL, List.set_cons_zero, List.set_cons_succ, List.nil_append, List.cons_append, List.append_nil]
        refine gx_o rfl (fun L2 => ?_) ?_
        · dsimp only [maskL, List.cons_append, List.nil_append]
          refine ox_y rfl (y_fieldN [.int .i64 y12.fSpan.fLo, .int .i64 y12.fSpan.fHi, .int .i64 y12.fLow, .int .i64 y12.fHigh] [.int .i64 y12.fSpan.fLo, .int .i64 y12.fSpan.fHi] fd_36_0 ag_32 rfl rfl) ?_
          refine ox_nil ?_
          exact ex_capG (fun _ => (none, 0, 0)) rfl (List.append_nil _)
        dsimp only [aftL, List.set_cons_zero, List.set_cons_succ, List.nil_append, List.cons_append, List.append_nil]
        refine gx_o rfl (fun L2 => ?_) ?_
        · dsimp only [maskL, List.cons_append, List.nil_append]
          refine ox_y rfl (y_fieldAddr fo_36_0 rfl) ?_
          refine ox_nil ?_
          exact ex_capG (fun _ => (none, 0, 0)) rfl (List.append_nil _)
        dsimp only [aftL, List.set_cons_zero, List.set_cons_succ, List.nil_append, List.cons_append, List.append_nil]
        refine gx_o rfl (fun L2 => ?_) ?_
        · dsimp only [maskL, List.cons_append, List.nil_append]
          refine ox_y rfl (y_loadN 2 [.int .i64 p2_b.fSpan.fLo, .int .i64 p2_b.fSpan.fHi] ag_32 rfl rfl rfl) ?_
          refine ox_nil ?_
          exact ex_capG (fun _ => (none, 0, 0)) rfl (List.append_nil _)
        dsimp only [aftL, List.set_cons_zero, List.set_cons_succ, List.nil_append, List.cons_append, List.append_nil]
        refine gx_o rfl (fun L2 => ?_) ?_
        · dsimp only [maskL, List.cons_append, List.nil_append]
          refine ox_y rfl (y_neqa (b := ((y12.fSpan.fLo == p2_b.fSpan.fLo) && (y12.fSpan.fHi == p2_b.fSpan.fHi))) eg_32 rfl rfl (fun _ => (eqS2 fl_32 (part1 sc_3 rfl) (part1 sc_3 rfl) (part1 sc_3 rfl) (part1 sc_3 rfl) (run_equalIn_int _ _ _ _ _ _ _ ui_3) (run_equalIn_int _ _ _ _ _ _ _ ui_3)))) ?_
          refine ox_nil ?_
          exact ex_capG (fun _ => (none, 0, 0)) rfl (List.append_nil _)
        dsimp only [aftL, List.set_cons_zero, List.set_cons_succ, List.nil_append, List.cons_append, List.append_nil]
        refine gx_o rfl (fun L2 => ?_) ?_
        · dsimp only [maskL, List.cons_append, List.nil_append]
          refine ox_y rfl (y_move_bool rfl) ?_
          refine ox_nil ?_
          exact ex_capG (fun _ => (none, 0, 0)) rfl (List.append_nil _)
        dsimp only [aftL, List.set_cons_zero, List.set_cons_succ, List.nil_append, List.cons_append, List.append_nil]
        refine gx_o (sees_t rfl rfl rfl rfl hq10_8) (fun L2 => ?_) ?_
        · dsimp only [maskL, List.cons_append, List.nil_append]
          refine ox_y (sees_t rfl rfl rfl rfl hq10_8) (y_move_func rfl) ?_
          refine ox_nil ?_
          exact ex_capG (fun _ => (none, 0, 0)) rfl (List.append_nil _)
        dsimp only [aftL, List.set_cons_zero, List.set_cons_succ, List.nil_append, List.cons_append, List.append_nil]
        refine gx_o (sees_t rfl rfl rfl rfl hq10_8) (fun L2 => ?_) ?_
        · dsimp only [maskL, List.cons_append, List.nil_append]
          refine ox_y (sees_t rfl rfl rfl rfl hq10_8) (y_fieldAddr fo_36_1 rfl) ?_
          refine ox_nil ?_
          exact ex_capG (fun _ => (none, 0, 0)) rfl (List.append_nil _)
        dsimp only [aftL, List.set_cons_zero, List.set_cons_succ, List.nil_append, List.cons_append, List.append_nil]
        refine gx_o (sees_t rfl rfl rfl rfl hq10_8) (fun L2 => ?_) ?_
        · dsimp only [maskL, List.cons_append, List.nil_append]
          refine ox_y (sees_t rfl rfl rfl rfl hq10_8) (y_load1 2 (v := .int .i64 p2_b.fLow) sc_3 rfl rfl rfl) ?_
          refine ox_nil ?_
          exact ex_capG (fun _ => (none, 0, 0)) rfl (List.append_nil _)
        dsimp only [aftL, List.set_cons_zero, List.set_cons_succ, List.nil_append, List.cons_append, List.append_nil]
        refine gx_o (sees_t rfl rfl rfl rfl hq10_8) (fun L2 => ?_) ?_
        · dsimp only [maskL, List.cons_append, List.nil_append]
          refine ox_y (sees_t rfl rfl rfl rfl hq10_8) (y_fieldAddr fo_36_0 rfl) ?_
          refine ox_nil ?_
          exact ex_capG (fun _ => (none, 0, 0)) rfl (List.append_nil _)
        dsimp only [aftL, List.set_cons_zero, List.set_cons_succ, List.nil_append, List.cons_append, List.append_nil]
        refine gx_o (sees_t rfl rfl rfl rfl hq10_8) (fun L2 => ?_) ?_
        · dsimp only [maskL, List.cons_append, List.nil_append]
          refine ox_y (sees_t rfl rfl rfl rfl hq10_8) (y_fieldAddr fo_32_0 rfl) ?_
          refine ox_nil ?_
          exact ex_capG (fun _ => (none, 0, 0)) rfl (List.append_nil _)
        dsimp only [aftL, List.set_cons_zero, List.set_cons_succ, List.nil_append, List.cons_append, List.append_nil]
        refine gx_o (sees_t rfl rfl rfl rfl hq10_8) (fun L2 => ?_) ?_
        · dsimp only [maskL, List.cons_append, List.nil_append]
          refine ox_y (sees_t rfl rfl rfl rfl hq10_8) (y_load1 2 (v := .int .i64 p2_b.fSpan.fLo) sc_3 rfl rfl rfl) ?_
          refine ox_nil ?_
          exact ex_capG (fun _ => (none, 0, 0)) rfl (List.append_nil _)
        dsimp only [aftL, List.set_cons_zero, List.set_cons_succ, List.nil_append, List.cons_append, List.append_nil]
        refine gx_o (sees_t rfl rfl rfl rfl hq10_8) (fun L2 => ?_) ?_
        · dsimp only [maskL, List.cons_append, List.nil_append]
          refine ox_y (sees_t rfl rfl rfl rfl hq10_8) (y_loadN 0 [.int .i64 p0_f.fRise, .int .i64 p0_f.fFall, .int .i64 p0_f.fUp, .int .i64 p0_f.fDown, .slice A0_4 p0_f.fLooks.length c0_4] ag_24 rfl rfl rfl) ?_
          refine ox_nil ?_
          exact ex_capG (fun _ => (none, 0, 0)) rfl (List.append_nil _)
        dsimp only [aftL, List.set_cons_zero, List.set_cons_succ, List.nil_append, List.cons_append, List.append_nil]
        refine gx_o (sees_t rfl rfl rfl rfl hq10_8) (fun L2 => ?_) ?_
        · dsimp only [maskL, List.cons_append, List.nil_append]
          refine ox_y (sees_t rfl rfl rfl rfl hq10_8) (y_loadN 1 [.int .i64 p1_at.fFoot, .int .i64 p1_at.fHour] ag_26 rfl rfl rfl) ?_
          refine ox_nil ?_
          exact ex_capG (fun _ => (none, 0, 0)) rfl (List.append_nil _)
        dsimp only [aftL, List.set_cons_zero, List.set_cons_succ, List.nil_append, List.cons_append, List.append_nil]
        refine gx_o (sees_t rfl rfl rfl rfl hq10_8) (fun L2 => ?_) ?_
        · dsimp only [maskL, List.cons_append, List.nil_append]
          refine ox_call1 [.agg #[.int .i64 p0_f.fRise, .int .i64 p0_f.fFall, .int .i64 p0_f.fUp, .int .i64 p0_f.fDown, .slice A0_4 p0_f.fLooks.length c0_4], .agg #[.int .i64 p1_at.fFoot, .int .i64 p1_at.fHour]] _ _ (sees_t rfl rfl rfl rfl hq10_8) go_93 rfl (fun W2 hW2 => fire_low_ok p0_f p1_at y14 hy15 W2 A0_4 p0_f.fLooks.length c0_4 rfl ((RdL.arg hr0_4) W2 hW2)) ?_
          rintro ⟨b16, b17⟩
          refine ox_nil ?_
          exact ex_capG (fun q => if q = 0 then (none, b16, 0) else (none, b17, 0)) rfl rfl
        dsimp only [aftL, List.set_cons_zero, List.set_cons_succ, List.nil_append, List.cons_append, List.append_nil]
        refine gx_o (sees_t rfl rfl rfl rfl hq10_8) (fun L2 => ?_) ?_
        · dsimp only [maskL, List.cons_append, List.nil_append]
          refine ox_y (sees_t rfl rfl rfl rfl hq10_8) (y_callv (caps := [.pointer (some ⟨b1, 0, none⟩)]) [.int .i64 p2_b.fLow, .int .i64 p2_b.fSpan.fLo, .int .i64 0, .func (.func 110) #[] #[.pointer (some ⟨(ξ11 16 0).2.1, 0, none⟩), .pointer (some ⟨(ξ11 16 1).2.1, 0, none⟩)]] go_92 rfl rfl (fun W2 hW2 => fire_CheckEnds_1_ok p2_b.fLow p2_b.fSpan.fLo 0 (fun x18 => fire_low_1 x18 p0_f p1_at) p0_f y19 hy20 W2 110 [.pointer (some ⟨(ξ11 16 0).2.1, 0, none⟩), .pointer (some ⟨(ξ11 16 1).2.1, 0, none⟩)] go_110 (fun W3 hb x y hxy => fire_low_1_ok x p0_f p1_at y hxy W3 (ξ11 16 0).2.1 A0_4 p0_f.fLooks.length c0_4 rfl (((RdL.arg hr0_4) W2 hW2).later hb) (((RdL.cells 4 rfl) W2 hW2).later hb) (ξ11 16 1).2.1 (((RdL.cells 5 rfl) W2 hW2).later hb)) b1 A0_4 p0_f.fLooks.length c0_4 rfl ((RdL.arg hr0_4) W2 hW2) ((RdL.cells 0 rfl) W2 hW2))) ?_
          refine ox_nil ?_
          exact ex_capG (fun _ => (none, 0, 0)) rfl (List.append_nil _)
        dsimp only [aftL, List.set_cons_zero, List.set_cons_succ, List.nil_append, List.cons_append, List.append_nil]
        refine gx_o (sees_t rfl rfl rfl rfl hq10_8) (fun L2 => ?_) ?_
        · dsimp only [maskL, List.cons_append, List.nil_append]
          refine ox_y (sees_t rfl rfl rfl rfl hq10_8) (y_not rfl) ?_
          refine ox_nil ?_
          exact ex_capG (fun _ => (none, 0, 0)) rfl (List.append_nil _)
        dsimp only [aftL, List.set_cons_zero, List.set_cons_succ, List.nil_append, List.cons_append, List.append_nil]
        refine gx_o rfl (fun L2 => ?_) ?_
        · dsimp only [maskL, List.cons_append, List.nil_append]
          refine ox_y rfl (y_pick_fb (congrArg Value.bool hq10_8) rfl) ?_
          refine ox_nil ?_
          exact ex_capG (fun _ => (none, 0, 0)) rfl (List.append_nil _)
        dsimp only [aftL, List.set_cons_zero, List.set_cons_succ, List.nil_append, List.cons_append, List.append_nil]
        refine gx_o rfl (fun L2 => ?_) ?_
        · dsimp only [maskL, List.cons_append, List.nil_append]
          refine ox_y rfl (y_move_bool rfl) ?_
          refine ox_nil ?_
          exact ex_capG (fun _ => (none, 0, 0)) rfl (List.append_nil _)
        dsimp only [aftL, List.set_cons_zero, List.set_cons_succ, List.nil_append, List.cons_append, List.append_nil]
        refine gx_o (sees_t rfl rfl rfl rfl hq10_21) (fun L2 => ?_) ?_
        · dsimp only [maskL, List.cons_append, List.nil_append]
          refine ox_y (sees_t rfl rfl rfl rfl hq10_21) (y_move_func rfl) ?_
          refine ox_nil ?_
          exact ex_capG (fun _ => (none, 0, 0)) rfl (List.append_nil _)
        dsimp only [aftL, List.set_cons_zero, List.set_cons_succ, List.nil_append, List.cons_append, List.append_nil]
        refine gx_o (sees_t rfl rfl rfl rfl hq10_21) (fun L2 => ?_) ?_
        · dsimp only [maskL, List.cons_append, List.nil_append]
          refine ox_y (sees_t rfl rfl rfl rfl hq10_21) (y_fieldAddr fo_36_2 rfl) ?_
          refine ox_nil ?_
          exact ex_capG (fun _ => (none, 0, 0)) rfl (List.append_nil _)
        dsimp only [aftL, List.set_cons_zero, List.set_cons_succ, List.nil_append, List.cons_append, List.append_nil]
        refine gx_o (sees_t rfl rfl rfl rfl hq10_21) (fun L2 => ?_) ?_
        · dsimp only [maskL, List.cons_append, List.nil_append]
          refine ox_y (sees_t rfl rfl rfl rfl hq10_21) (y_load1 2 (v := .int .i64 p2_b.fHigh) sc_3 rfl rfl rfl) ?_
          refine ox_nil ?_
          exact ex_capG (fun _ => (none, 0, 0)) rfl (List.append_nil _)
        dsimp only [aftL, List.set_cons_zero, List.set_cons_succ, List.nil_append, List.cons_append, List.append_nil]
        refine gx_o (sees_t rfl rfl rfl rfl hq10_21) (fun L2 => ?_) ?_
        · dsimp only [maskL, List.cons_append, List.nil_append]
          refine ox_y (sees_t rfl rfl rfl rfl hq10_21) (y_fieldAddr fo_36_0 rfl) ?_
          refine ox_nil ?_
          exact ex_capG (fun _ => (none, 0, 0)) rfl (List.append_nil _)
        dsimp only [aftL, List.set_cons_zero, List.set_cons_succ, List.nil_append, List.cons_append, List.append_nil]
        refine gx_o (sees_t rfl rfl rfl rfl hq10_21) (fun L2 => ?_) ?_
        · dsimp only [maskL, List.cons_append, List.nil_append]
          refine ox_y (sees_t rfl rfl rfl rfl hq10_21) (y_fieldAddr fo_32_1 rfl) ?_
          refine ox_nil ?_
          exact ex_capG (fun _ => (none, 0, 0)) rfl (List.append_nil _)
        dsimp only [aftL, List.set_cons_zero, List.set_cons_succ, List.nil_append, List.cons_append, List.append_nil]
        refine gx_o (sees_t rfl rfl rfl rfl hq10_21) (fun L2 => ?_) ?_
        · dsimp only [maskL, List.cons_append, List.nil_append]
          refine ox_y (sees_t rfl rfl rfl rfl hq10_21) (y_load1 2 (v := .int .i64 p2_b.fSpan.fHi) sc_3 rfl rfl rfl) ?_
          refine ox_nil ?_
          exact ex_capG (fun _ => (none, 0, 0)) rfl (List.append_nil _)
        dsimp only [aftL, List.set_cons_zero, List.set_cons_succ, List.nil_append, List.cons_append, List.append_nil]
        refine gx_o (sees_t rfl rfl rfl rfl hq10_21) (fun L2 => ?_) ?_
        · dsimp only [maskL, List.cons_append, List.nil_append]
          refine ox_y (sees_t rfl rfl rfl rfl hq10_21) (y_loadN 0 [.int .i64 p0_f.fRise, .int .i64 p0_f.fFall, .int .i64 p0_f.fUp, .int .i64 p0_f.fDown, .slice A0_4 p0_f.fLooks.length c0_4] ag_24 rfl rfl rfl) ?_
          refine ox_nil ?_
          exact ex_capG (fun _ => (none, 0, 0)) rfl (List.append_nil _)
        dsimp only [aftL, List.set_cons_zero, List.set_cons_succ, List.nil_append, List.cons_append, List.append_nil]
        refine gx_o (sees_t rfl rfl rfl rfl hq10_21) (fun L2 => ?_) ?_
        · dsimp only [maskL, List.cons_append, List.nil_append]
          refine ox_y (sees_t rfl rfl rfl rfl hq10_21) (y_loadN 1 [.int .i64 p1_at.fFoot, .int .i64 p1_at.fHour] ag_26 rfl rfl rfl) ?_
          refine ox_nil ?_
          exact ex_capG (fun _ => (none, 0, 0)) rfl (List.append_nil _)
        dsimp only [aftL, List.set_cons_zero, List.set_cons_succ, List.nil_append, List.cons_append, List.append_nil]
        refine gx_o (sees_t rfl rfl rfl rfl hq10_21) (fun L2 => ?_) ?_
        · dsimp only [maskL, List.cons_append, List.nil_append]
          refine ox_call1 [.agg #[.int .i64 p0_f.fRise, .int .i64 p0_f.fFall, .int .i64 p0_f.fUp, .int .i64 p0_f.fDown, .slice A0_4 p0_f.fLooks.length c0_4], .agg #[.int .i64 p1_at.fFoot, .int .i64 p1_at.fHour]] _ _ (sees_t rfl rfl rfl rfl hq10_21) go_94 rfl (fun W2 hW2 => fire_high_ok p0_f p1_at y21 hy22 W2 A0_4 p0_f.fLooks.length c0_4 rfl ((RdL.arg hr0_4) W2 hW2)) ?_
          rintro ⟨b23, b24⟩
          refine ox_nil ?_
          exact ex_capG (fun q => if q = 0 then (none, b23, 0) else (none, b24, 0)) rfl rfl
        dsimp only [aftL, List.set_cons_zero, List.set_cons_succ, List.nil_append, List.cons_append, List.append_nil]
        refine gx_o (sees_t rfl rfl rfl rfl hq10_21) (fun L2 => ?_) ?_
        · dsimp only [maskL, List.cons_append, List.nil_append]
          refine ox_y (sees_t rfl rfl rfl rfl hq10_21) (y_callv (caps := [.pointer (some ⟨b1, 0, none⟩)]) [.int .i64 p2_b.fHigh, .int .i64 p2_b.fSpan.fHi, .int .i64 1500, .func (.func 111) #[] #[.pointer (some ⟨(ξ11 29 0).2.1, 0, none⟩), .pointer (some ⟨(ξ11 29 1).2.1, 0, none⟩)]] go_92 rfl rfl (fun W2 hW2 => fire_CheckEnds_1_ok p2_b.fHigh p2_b.fSpan.fHi 1500 (fun x25 => fire_high_1 x25 p0_f p1_at) p0_f y26 hy27 W2 111 [.pointer (some ⟨(ξ11 29 0).2.1, 0, none⟩), .pointer (some ⟨(ξ11 29 1).2.1, 0, none⟩)] go_111 (fun W3 hb x y hxy => fire_high_1_ok x p0_f p1_at y hxy W3 (ξ11 29 0).2.1 A0_4 p0_f.fLooks.length c0_4 rfl (((RdL.arg hr0_4) W2 hW2).later hb) (((RdL.cells 6 rfl) W2 hW2).later hb) (ξ11 29 1).2.1 (((RdL.cells 7 rfl) W2 hW2).later hb)) b1 A0_4 p0_f.fLooks.length c0_4 rfl ((RdL.arg hr0_4) W2 hW2) ((RdL.cells 0 rfl) W2 hW2))) ?_
          refine ox_nil ?_
          exact ex_capG (fun _ => (none, 0, 0)) rfl (List.append_nil _)
        dsimp only [aftL, List.set_cons_zero, List.set_cons_succ, List.nil_append, List.cons_append, List.append_nil]
        refine gx_o (sees_t rfl rfl rfl rfl hq10_21) (fun L2 => ?_) ?_
        · dsimp only [maskL, List.cons_append, List.nil_append]
          refine ox_y (sees_t rfl rfl rfl rfl hq10_21) (y_not rfl) ?_
          refine ox_nil ?_
          exact ex_capG (fun _ => (none, 0, 0)) rfl (List.append_nil _)
        dsimp only [aftL, List.set_cons_zero, List.set_cons_succ, List.nil_append, List.cons_append, List.append_nil]
        refine gx_o rfl (fun L2 => ?_) ?_
        · dsimp only [maskL, List.cons_append, List.nil_append]
          refine ox_y rfl (y_pick_fb (congrArg Value.bool hq10_21) rfl) ?_
          refine ox_nil ?_
          exact ex_capG (fun _ => (none, 0, 0)) rfl (List.append_nil _)
        dsimp only [aftL, List.set_cons_zero, List.set_cons_succ, List.nil_append, List.cons_append, List.append_nil]
        refine gx_nil ?_
        refine ex_then ?_
        rcases ite_some h with ⟨hp28, h⟩ | ⟨hp28, h⟩
        · refine cx_true (congrArg Value.bool hp28) ?_
          refine cx_seq ?_
          refine cx_region ?_
          try dsimp only [List.nil_append, List.cons_append, List.set_cons_zero, List.set_cons_succ]
          refine ox_y rfl (y_assign_int rfl) ?_
          refine ox_nil ?_
          refine ex_then ?_
          refine cx_ret ?_
          refine ex_then_ret ?_
          obtain rfl := Option.some.inj h
          exact ex_res1 (.inl rfl) rfl (resV_tmp (v := .int .i64 8) rfl) (fun W2 hW2 => ⟨rfl, hW2.none⟩)
        · refine cx_false (congrArg Value.bool hp28) ?_
          refine cx_skip ?_
          refine ex_then ?_
          refine cx_seq ?_
          refine cx_region ?_
          try dsimp only [List.nil_append, List.cons_append, List.set_cons_zero, List.set_cons_succ]
          refine ox_y rfl (y_assign_int rfl) ?_
          refine ox_nil ?_
          refine ex_then ?_
          refine cx_ret ?_
          obtain rfl := Option.some.inj h
          exact ex_res1 (.inl rfl) rfl (resV_tmp (v := .int .i64 0) rfl) (fun W2 hW2 => ⟨rfl, hW2.none⟩)

end Go.Proofs.Ytndajeiecdmhnaa
