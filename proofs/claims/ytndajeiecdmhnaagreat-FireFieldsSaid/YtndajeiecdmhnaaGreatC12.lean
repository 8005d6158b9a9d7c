/- The calls hand back what the plain functions say. -/
import Derived.Test.YtndajeiecdmhnaaGreatF
import Derived.Test.YtndajeiecdmhnaaGreatGj
import Derived.Test.YtndajeiecdmhnaaGreatGk
import Derived.Test.YtndajeiecdmhnaaGreatC0
import Derived.Test.YtndajeiecdmhnaaGreatC1
import Derived.Test.YtndajeiecdmhnaaGreatC4
import Derived.Test.YtndajeiecdmhnaaGreatC5
import Derived.Test.YtndajeiecdmhnaaGreatC7
set_option linter.unusedVariables false
set_option maxHeartbeats 4000000
namespace Go.Proofs.YtndajeiecdmhnaaGreat
open Go.RowKit (Below)
attribute [local irreducible] OX QX CX EX OpY Calls CallsIn

/-! calx/fire.all -/
set_option maxRecDepth 100000 in
theorem fire_all_ok (p0_f : TFire) (p1_l : (List TSpot)) (p2_end : TSpan → Option Int) (res : ((List Int) × Int)) (h : fire_all p0_f p1_l p2_end = some res) (W : World) (A0_4 : Option Addr) (n0_4 c0_4 : Nat) (hn0_4 : n0_4 = p0_f.fLooks.length) (hr0_4 : Rd W A0_4 n0_4 c0_4 (encL TLook_cells p0_f.fLooks)) (A1_0 : Option Addr) (n1_0 c1_0 : Nat) (hn1_0 : n1_0 = p1_l.length) (hr1_0 : Rd W A1_0 n1_0 c1_0 (encL TSpot_cells p1_l)) (fid2 : Nat) (caps2 : List Value) (hgo2 : goes Tryz.prog fid2 = true) (hof2 : ∀ W2, Below W.heap.size W W2 → ∀ x y, p2_end x = some y → Calls Tryz.prog fid2 (([.agg #[.int .i64 x.fLo, .int .i64 x.fHi]] : List Value) ++ caps2).toArray W2 fun e W3 => e = .returned (.int .i64 y) ∧ Ext W2 W3 []) :
    Calls Tryz.prog 65 [.agg #[.int .i64 p0_f.fRise, .int .i64 p0_f.fFall, .int .i64 p0_f.fUp, .int .i64 p0_f.fDown, .slice A0_4 n0_4 c0_4], .slice A1_0 n1_0 c1_0, .func (.func fid2) #[] caps2.toArray].toArray W fun e W2 => ∃ x : Option Addr × Nat × Nat, x.2.1 = res.1.length ∧ e = .returned (.tuple #[.slice x.1 x.2.1 x.2.2, .int .i64 res.2]) ∧ Ext W W2 [rowR x.1 x.2.2 3 1 x.2.1 (encL cI res.1)] := by
  subst hn0_4
  subst hn1_0
  unfold fire_all at h
  refine calls_enter (m := 54) Tryz.func65 rfl rfl (Nat.le_of_ble_eq_true rfl) ?_
  refine cx_seq ?_
  refine cx_region ?_
  refine ox_box [.int .i64 p0_f.fRise, .int .i64 p0_f.fFall, .int .i64 p0_f.fUp, .int .i64 p0_f.fDown, .slice A0_4 p0_f.fLooks.length c0_4] rfl rfl rfl (fun b1 => ?_)
  refine ox_y rfl (y_assign_slice rfl) ?_
  refine ox_y rfl (y_assign_int rfl) ?_
  refine ox_nil ?_
  refine ex_then ?_
  refine cx_seq ?_
  refine cx_seq ?_
  refine cx_draws 6 mixed (by kernel_rfl) (by kernel_rfl) ?_
  refine qx_y rfl (y_loadN 0 [.int .i64 p0_f.fRise, .int .i64 p0_f.fFall, .int .i64 p0_f.fUp, .int .i64 p0_f.fDown, .slice A0_4 p0_f.fLooks.length c0_4] ag_24 rfl rfl rfl) ?_
  refine qx_y rfl (y_loadN 0 [.int .i64 p0_f.fRise, .int .i64 p0_f.fFall, .int .i64 p0_f.fUp, .int .i64 p0_f.fDown, .slice A0_4 p0_f.fLooks.length c0_4] ag_24 rfl rfl rfl) ?_
  refine qx_y rfl (y_move_slice rfl) ?_
  obtain ⟨y2, hy3, h⟩ := bind_some h
  refine qx_y rfl (y_call [.agg #[.int .i64 p0_f.fRise, .int .i64 p0_f.fFall, .int .i64 p0_f.fUp, .int .i64 p0_f.fDown, .slice A0_4 p0_f.fLooks.length c0_4], .slice A1_0 p1_l.length c1_0] go_61 rfl (fun W2 hW2 => fire_listed_ok p0_f p1_l y2 hy3 W2 A0_4 p0_f.fLooks.length c0_4 rfl ((RdL.arg hr0_4) W2 hW2) A1_0 p1_l.length c1_0 rfl ((RdL.arg hr1_0) W2 hW2)) rfl) ?_
  obtain ⟨y4, hy5, h⟩ := bind_some h
  refine qx_y rfl (y_call [.agg #[.int .i64 p0_f.fRise, .int .i64 p0_f.fFall, .int .i64 p0_f.fUp, .int .i64 p0_f.fDown, .slice A0_4 p0_f.fLooks.length c0_4], .int .i64 y2] go_37 rfl (fun W2 hW2 => fire_agreed_ok p0_f y2 y4 hy5 W2 A0_4 p0_f.fLooks.length c0_4 rfl ((RdL.arg hr0_4) W2 hW2)) rfl) ?_
  refine qx_y rfl (y_assign_int rfl) ?_
  refine qx_nil ?_
  refine ox_nil ?_
  refine ex_then ?_
  refine cx_seq ?_
  refine cx_region ?_
  refine ox_y rfl (y_move_int rfl) ?_
  refine ox_y rfl (y_neq rfl rfl) ?_
  refine ox_nil ?_
  refine ex_then ?_
  rcases ite_some h with ⟨hp6, h⟩ | ⟨hp6, h⟩
  · refine cx_true (congrArg Value.bool hp6) ?_
    refine cx_seq ?_
    refine cx_region ?_
    refine ox_y rfl (y_move_int rfl) ?_
    refine ox_y rfl (y_assign_slice rfl) ?_
    refine ox_y rfl (y_assign_int rfl) ?_
    refine ox_nil ?_
    refine ex_then ?_
    refine cx_ret ?_
    refine ex_then_ret ?_
    obtain rfl := Option.some.inj h
    exact ex_res2 (.inl rfl) rfl (resV_tmp (v := .slice none 0 0) rfl) (resV_tmp (v := .int .i64 y4) rfl) (fun W2 hW2 => ⟨(none, 0, 0), rfl, rfl, ((hW2.nilrow 3 1).pick 1 rfl)⟩)
  · refine cx_false (congrArg Value.bool hp6) ?_
    refine cx_skip ?_
    refine ex_then ?_
    refine cx_seq ?_
    refine cx_region ?_
    refine ox_makeMapV 26 TSpot_enc TSpot_okk kI 0 rfl (fun b7 => ?_)
    refine ox_y rfl (y_assign_map rfl) ?_
    refine ox_nil ?_
    refine ex_then ?_
    refine cx_seq ?_
    refine cx_region ?_
    refine ox_y rfl (y_assign_slice rfl) ?_
    refine ox_nil ?_
    refine ex_then ?_
    refine cx_seq ?_
    refine cx_seq ?_
    refine cx_region ?_
    refine ox_y rfl (y_move_slice rfl) ?_
    refine ox_y rfl (y_len (us := []) us_50 rfl) ?_
    refine ox_y rfl (y_move_int rfl) ?_
    refine ox_nil ?_
    refine ex_then ?_
    refine cx_block ?_
    obtain ⟨u11, hl32, h⟩ := bind_some h
    refine cx_nilrow 3 1 ?_
    refine cx_loop (fun (s : (Int × (List (TSpot × Int)) × (List Int))) L tm => ∃ (tm0 : Nat → Value) (A2_s : Option Addr) (c2_s : Nat) (n2_s : Nat), n2_s = s.2.2.length ∧ L = [cellsR b1 24 [.int .i64 p0_f.fRise, .int .i64 p0_f.fFall, .int .i64 p0_f.fUp, .int .i64 p0_f.fDown, .slice A0_4 p0_f.fLooks.length c0_4], mapV Tryz.prog 26 TSpot_enc TSpot_okk kI 0 b7 s.2.1, rowR A2_s c2_s 3 1 n2_s (encL cI s.2.2)] ∧ tm = (upd (upd (upd (upd (upd (upd (upd (upd (upd (upd (upd (upd (upd tm0 0 (.agg #[.int .i64 p0_f.fRise, .int .i64 p0_f.fFall, .int .i64 p0_f.fUp, .int .i64 p0_f.fDown, .slice A0_4 p0_f.fLooks.length c0_4])) 1 (.slice A1_0 p1_l.length c1_0)) 2 (.func (.func fid2) #[] caps2.toArray)) 3 (.pointer (some ⟨b1, 0, none⟩))) 6 (.slice none 0 0)) 7 (.int .i64 0)) 8 (.int .i64 y4)) 21 (.bool (y4 != 0))) 9 (.map (some b7))) 10 (.slice A2_s n2_s c2_s)) 24 (.slice A1_0 p1_l.length c1_0)) 25 (.int .i64 ((p1_l.length : Nat) : Int))) 26 (.int .i64 s.1))) (fun s e L tm => e = .exit 0 ∧ ∃ (tm0 : Nat → Value) (A2_s : Option Addr) (c2_s : Nat) (n2_s : Nat), n2_s = s.2.2.length ∧ L = [cellsR b1 24 [.int .i64 p0_f.fRise, .int .i64 p0_f.fFall, .int .i64 p0_f.fUp, .int .i64 p0_f.fDown, .slice A0_4 p0_f.fLooks.length c0_4], mapV Tryz.prog 26 TSpot_enc TSpot_okk kI 0 b7 s.2.1, rowR A2_s c2_s 3 1 n2_s (encL cI s.2.2)] ∧ tm = (upd (upd (upd (upd (upd (upd (upd (upd (upd (upd (upd (upd (upd tm0 0 (.agg #[.int .i64 p0_f.fRise, .int .i64 p0_f.fFall, .int .i64 p0_f.fUp, .int .i64 p0_f.fDown, .slice A0_4 p0_f.fLooks.length c0_4])) 1 (.slice A1_0 p1_l.length c1_0)) 2 (.func (.func fid2) #[] caps2.toArray)) 3 (.pointer (some ⟨b1, 0, none⟩))) 6 (.slice none 0 0)) 7 (.int .i64 0)) 8 (.int .i64 y4)) 21 (.bool (y4 != 0))) 9 (.map (some b7))) 10 (.slice A2_s n2_s c2_s)) 24 (.slice A1_0 p1_l.length c1_0)) 25 (.int .i64 ((p1_l.length : Nat) : Int))) 26 (.int .i64 s.1))) hl32 ⟨_, none, 0, 0, rfl, rfl, (keep (keep (keep (keep (keep (keep (keep (keep (keep (keep (keep (keep (keep rfl rfl) rfl) rfl) rfl) rfl) rfl) rfl) rfl) rfl) rfl) rfl) rfl) rfl)⟩ ?_ ?_
    · rintro s10 L tm st ⟨tm0_s10, A2_s10, c2_s10, n2_s10, rfl, rfl, rfl⟩ h
      unfold fire_all_l1 at h
      refine cx_seq ?_
      refine cx_region ?_
      refine ox_y rfl (y_lss rfl rfl) ?_
      refine ox_nil ?_
      refine ex_then ?_
      refine cx_seq ?_
      rcases ite_some h with ⟨hp12, h⟩ | ⟨hp12, h⟩
      · refine cx_true (congrArg Value.bool hp12) ?_
        refine cx_skip ?_
        refine ex_then ?_
        refine cx_seq ?_
        refine cx_block ?_
        refine cx_seq ?_
        refine cx_region ?_
        obtain ⟨hg13, h⟩ := guardO_some h
        refine ox_y rfl (y_indexR sl_50 (by decide) hg13.1 hg13.2 (RdL.arg hr1_0) (encL_len TSpot_cells_len rfl) rfl rfl) ?_
        refine ox_y rfl (y_loadRN (A := A1_0) (j := (Int.toNat s10.1 * 2)) [.int .i64 ((rdL p1_l s10.1).fFoot), .int .i64 ((rdL p1_l s10.1).fHour)] ag_26 (Nat.succ_pos _) (RdL.arg hr1_0) rfl (encL_gets TSpot_cells_len hg13.1 (lt_nat hg13.2 rfl))) ?_
        refine ox_alloc ze_26 rfl (fun b14 => ?_)
        refine ox_n rfl (y_storeN 3 [.int .i64 ((rdL p1_l s10.1).fFoot), .int .i64 ((rdL p1_l s10.1).fHour)] sz_26 rfl (Nat.le_of_ble_eq_true rfl) rfl rfl rfl) ?_
        refine ox_nil ?_
        refine ex_then ?_
        refine cx_seq ?_
        refine cx_seq ?_
        refine cx_region ?_
        refine ox_y rfl (y_move_map rfl) ?_
        refine ox_y rfl (y_loadN 3 [.int .i64 ((rdL p1_l s10.1).fFoot), .int .i64 ((rdL p1_l s10.1).fHour)] ag_26 rfl rfl rfl) ?_
        obtain ⟨hg15, h⟩ := guardO_some h
        refine ox_y rfl (y_lookupV2 (k := (TSpot.mk ((rdL p1_l s10.1).fFoot) ((rdL p1_l s10.1).fHour))) (MpL.own 1 rfl) ke_26 um_132 ze_3 rfl rfl hg15) ?_
        refine ox_y rfl (y_move_tuple rfl) ?_
        refine ox_y rfl (y_extract (vs := [.int .i64 (mgetV 0 s10.2.1 (TSpot.mk ((rdL p1_l s10.1).fFoot) ((rdL p1_l s10.1).fHour))), .bool (mhasV s10.2.1 (TSpot.mk ((rdL p1_l s10.1).fFoot) ((rdL p1_l s10.1).fHour)))]) (v := .int .i64 (mgetV 0 s10.2.1 (TSpot.mk ((rdL p1_l s10.1).fFoot) ((rdL p1_l s10.1).fHour)))) rfl rfl) ?_
        refine ox_y rfl (y_extract (vs := [.int .i64 (mgetV 0 s10.2.1 (TSpot.mk ((rdL p1_l s10.1).fFoot) ((rdL p1_l s10.1).fHour))), .bool (mhasV s10.2.1 (TSpot.mk ((rdL p1_l s10.1).fFoot) ((rdL p1_l s10.1).fHour)))]) (v := .bool (mhasV s10.2.1 (TSpot.mk ((rdL p1_l s10.1).fFoot) ((rdL p1_l s10.1).fHour)))) rfl rfl) ?_
        refine ox_y rfl (y_assign_int rfl) ?_
        refine ox_y rfl (y_assign_bool rfl) ?_
        refine ox_nil ?_
        refine ex_then ?_
        refine cx_seq ?_
        refine cx_region ?_
        refine ox_y rfl (y_move_bool rfl) ?_
        refine ox_y rfl (y_not rfl) ?_
        refine ox_nil ?_
        refine ex_then ?_
        rcases ite_some h with ⟨hp16, h⟩ | ⟨hp16, h⟩
        · refine cx_true (congrArg Value.bool hp16) ?_
          refine cx_draws 8 mixed (by kernel_rfl) (by kernel_rfl) ?_
          refine qx_y rfl (y_move_map rfl) ?_
          refine qx_y rfl (y_loadN 3 [.int .i64 ((rdL p1_l s10.1).fFoot), .int .i64 ((rdL p1_l s10.1).fHour)] ag_26 rfl rfl rfl) ?_
          refine qx_y rfl (y_move (v := .func (.func fid2) #[] caps2.toArray) rfl) ?_
          refine qx_y rfl (y_loadN 0 [.int .i64 p0_f.fRise, .int .i64 p0_f.fFall, .int .i64 p0_f.fUp, .int .i64 p0_f.fDown, .slice A0_4 p0_f.fLooks.length c0_4] ag_24 rfl rfl rfl) ?_
          refine qx_y rfl (y_loadN 3 [.int .i64 ((rdL p1_l s10.1).fFoot), .int .i64 ((rdL p1_l s10.1).fHour)] ag_26 rfl rfl rfl) ?_
          obtain ⟨y17, hy18, h⟩ := bind_some h
          refine qx_y rfl (y_call [.agg #[.int .i64 p0_f.fRise, .int .i64 p0_f.fFall, .int .i64 p0_f.fUp, .int .i64 p0_f.fDown, .slice A0_4 p0_f.fLooks.length c0_4], .agg #[.int .i64 ((rdL p1_l s10.1).fFoot), .int .i64 ((rdL p1_l s10.1).fHour)]] go_39 rfl (fun W2 hW2 => fire_ends_ok p0_f (TSpot.mk ((rdL p1_l s10.1).fFoot) ((rdL p1_l s10.1).fHour)) y17 hy18 W2 A0_4 p0_f.fLooks.length c0_4 rfl ((RdL.arg hr0_4) W2 hW2)) rfl) ?_
          refine qx_y rfl (y_fieldN [.int .i64 y17.fSpan.fLo, .int .i64 y17.fSpan.fHi, .int .i64 y17.fLow, .int .i64 y17.fHigh] [.int .i64 y17.fSpan.fLo, .int .i64 y17.fSpan.fHi] fd_30_0 ag_28 rfl rfl) ?_
          obtain ⟨y19, hy20, h⟩ := bind_some h
          refine qx_y rfl (y_callv [.agg #[.int .i64 y17.fSpan.fLo, .int .i64 y17.fSpan.fHi]] hgo2 rfl rfl (fun W2 hW2 => hof2 W2 hW2.below y17.fSpan y19 hy20)) ?_
          refine qx_nil ?_
          obtain ⟨hg21, h⟩ := guardO_some h
          refine ox_n rfl (y_updateV 1 (k := (TSpot.mk ((rdL p1_l s10.1).fFoot) ((rdL p1_l s10.1).fHour))) (v := y19) rfl ke_26 um_132 rfl rfl rfl hg21) ?_
          refine ox_nil ?_
          refine ex_then ?_
          refine cx_region ?_
          refine ox_y rfl (y_move_slice rfl) ?_
          refine ox_y rfl (y_move_map rfl) ?_
          refine ox_y rfl (y_loadN 3 [.int .i64 ((rdL p1_l s10.1).fFoot), .int .i64 ((rdL p1_l s10.1).fHour)] ag_26 rfl rfl rfl) ?_
          obtain ⟨hg22, h⟩ := guardO_some h
          refine ox_y rfl (y_lookupV (k := (TSpot.mk ((rdL p1_l s10.1).fFoot) ((rdL p1_l s10.1).fHour))) (MpL.own 1 rfl) ke_26 um_132 ze_3 rfl rfl hg22) ?_
          refine ox_buildSliceE 1 (encL cI [mgetV 0 (((TSpot.mk ((rdL p1_l s10.1).fFoot) ((rdL p1_l s10.1).fHour)), y19) :: s10.2.1) (TSpot.mk ((rdL p1_l s10.1).fFoot) ((rdL p1_l s10.1).fHour))]) _ mc_3_1 us_39 ze_3 by_3 (by decide) (by decide) (by kernel_rfl) (encL_len cI_len rfl) rfl (fun b23 => ?_)
          obtain ⟨hg26, h⟩ := guardO_some h
          refine ox_append0 2 us_39 ze_3 by_3 rfl rfl rfl (RdL.row 4 rfl) (encL_len cI_len rfl) (encL_one cI_one _) (app_room hg26 (by decide)) rfl (fun A24 c25 => ?_)
          refine ox_y rfl (y_assign_slice rfl) ?_
          refine ox_nil ?_
          refine ex_block ?_
          refine ex_then ?_
          refine cx_region ?_
          refine ox_y rfl (y_add rfl rfl) ?_
          refine ox_y rfl (y_move_int rfl) ?_
          refine ox_nil ?_
          refine ex_take 3 ?_
          obtain rfl := Option.some.inj h
          exact ex_next ⟨_, A24, c25, (s10.2.2.length + 1), (hn_app rfl rfl), rfl, (keep (keep (keep (keep (keep (keep (keep (keep (keep (keep (keep (keep (keep rfl rfl) rfl) rfl) rfl) rfl) rfl) rfl) rfl) rfl) rfl) rfl) rfl) rfl)⟩
        · refine cx_false (congrArg Value.bool hp16) ?_
          refine cx_skip ?_
          refine ex_then ?_
          refine cx_region ?_
          refine ox_y rfl (y_move_slice rfl) ?_
          refine ox_y rfl (y_move_map rfl) ?_
          refine ox_y rfl (y_loadN 3 [.int .i64 ((rdL p1_l s10.1).fFoot), .int .i64 ((rdL p1_l s10.1).fHour)] ag_26 rfl rfl rfl) ?_
          obtain ⟨hg27, h⟩ := guardO_some h
          refine ox_y rfl (y_lookupV (k := (TSpot.mk ((rdL p1_l s10.1).fFoot) ((rdL p1_l s10.1).fHour))) (MpL.own 1 rfl) ke_26 um_132 ze_3 rfl rfl hg27) ?_
          refine ox_buildSliceE 1 (encL cI [mgetV 0 s10.2.1 (TSpot.mk ((rdL p1_l s10.1).fFoot) ((rdL p1_l s10.1).fHour))]) _ mc_3_1 us_39 ze_3 by_3 (by decide) (by decide) (by kernel_rfl) (encL_len cI_len rfl) rfl (fun b28 => ?_)
          obtain ⟨hg31, h⟩ := guardO_some h
          refine ox_append0 2 us_39 ze_3 by_3 rfl rfl rfl (RdL.row 4 rfl) (encL_len cI_len rfl) (encL_one cI_one _) (app_room hg31 (by decide)) rfl (fun A29 c30 => ?_)
          refine ox_y rfl (y_assign_slice rfl) ?_
          refine ox_nil ?_
          refine ex_block ?_
          refine ex_then ?_
          refine cx_region ?_
          refine ox_y rfl (y_add rfl rfl) ?_
          refine ox_y rfl (y_move_int rfl) ?_
          refine ox_nil ?_
          refine ex_take 3 ?_
          obtain rfl := Option.some.inj h
          exact ex_next ⟨_, A29, c30, (s10.2.2.length + 1), (hn_app rfl rfl), rfl, (keep (keep (keep (keep (keep (keep (keep (keep (keep (keep (keep (keep (keep rfl rfl) rfl) rfl) rfl) rfl) rfl) rfl) rfl) rfl) rfl) rfl) rfl) rfl)⟩
      · refine cx_false (congrArg Value.bool hp12) ?_
        refine cx_exit ?_
        refine ex_then_exit ?_
        obtain rfl := Option.some.inj h
        exact ex_stop ⟨rfl, _, A2_s10, c2_s10, s10.2.2.length, rfl, rfl, (keep (keep (keep (keep (keep (keep (keep (keep (keep (keep (keep (keep (keep rfl rfl) rfl) rfl) rfl) rfl) rfl) rfl) rfl) rfl) rfl) rfl) rfl) rfl)⟩
    · intro e L tm hJ
      obtain ⟨rfl, tm0_u11, A2_u11, c2_u11, n2_u11, rfl, rfl, rfl⟩ := hJ
      refine ⟨(by intro hc; cases hc), ?_⟩
      refine ex_block_here ?_
      refine ex_then ?_
      refine cx_seq ?_
      refine cx_region ?_
      refine ox_y rfl (y_move_slice rfl) ?_
      refine ox_y rfl (y_assign_slice rfl) ?_
      refine ox_y rfl (y_assign_int rfl) ?_
      refine ox_nil ?_
      refine ex_then ?_
      refine cx_ret ?_
      obtain rfl := Option.some.inj h
      exact ex_res2 (.inl rfl) rfl (resV_tmp (v := .slice A2_u11 u11.2.2.length c2_u11) rfl) (resV_tmp (v := .int .i64 0) rfl) (fun W2 hW2 => ⟨(A2_u11, u11.2.2.length, c2_u11), rfl, rfl, (hW2.pick 2 rfl)⟩)

/-! calx/fire.Coolest$1 -/
set_option maxRecDepth 100000 in
theorem fire_Coolest_1_ok (p0_s : TSpan) (res : Int) (h : fire_Coolest_1 p0_s = some res) (W : World)  :
    Calls Tryz.prog 66 [.agg #[.int .i64 p0_s.fLo, .int .i64 p0_s.fHi]].toArray W fun e W2 => e = .returned (.int .i64 res) ∧ Ext W W2 [] := by
  unfold fire_Coolest_1 at h
  refine calls_enter (m := 5) Tryz.func66 rfl rfl (Nat.le_of_ble_eq_true rfl) ?_
  refine cx_seq ?_
  refine cx_region ?_
  refine ox_box [.int .i64 p0_s.fLo, .int .i64 p0_s.fHi] rfl rfl rfl (fun b1 => ?_)
  refine ox_y rfl (y_assign_int rfl) ?_
  refine ox_nil ?_
  refine ex_then ?_
  refine cx_seq ?_
  refine cx_region ?_
  refine ox_y rfl (y_fieldAddr fo_28_0 rfl) ?_
  refine ox_y rfl (y_load1 0 (v := .int .i64 p0_s.fLo) sc_3 rfl rfl rfl) ?_
  refine ox_y rfl (y_assign_int rfl) ?_
  refine ox_nil ?_
  refine ex_then ?_
  refine cx_ret ?_
  obtain rfl := Option.some.inj h
  exact ex_res1 (.inl rfl) rfl (resV_tmp (v := .int .i64 p0_s.fLo) rfl) (fun W2 hW2 => ⟨rfl, hW2.none⟩)

/-! calx/fire.Coolest -/
set_option maxRecDepth 100000 in
theorem fire_Coolest_ok (p0_f : TFire) (p1_l : (List TSpot)) (res : ((List Int) × Int)) (h : fire_Coolest p0_f p1_l = some res) (W : World) (A0_4 : Option Addr) (n0_4 c0_4 : Nat) (hn0_4 : n0_4 = p0_f.fLooks.length) (hr0_4 : Rd W A0_4 n0_4 c0_4 (encL TLook_cells p0_f.fLooks)) (A1_0 : Option Addr) (n1_0 c1_0 : Nat) (hn1_0 : n1_0 = p1_l.length) (hr1_0 : Rd W A1_0 n1_0 c1_0 (encL TSpot_cells p1_l)) :
    Calls Tryz.prog 22 [.agg #[.int .i64 p0_f.fRise, .int .i64 p0_f.fFall, .int .i64 p0_f.fUp, .int .i64 p0_f.fDown, .slice A0_4 n0_4 c0_4], .slice A1_0 n1_0 c1_0].toArray W fun e W2 => ∃ x : Option Addr × Nat × Nat, x.2.1 = res.1.length ∧ e = .returned (.tuple #[.slice x.1 x.2.1 x.2.2, .int .i64 res.2]) ∧ Ext W W2 [rowR x.1 x.2.2 3 1 x.2.1 (encL cI res.1)] := by
  subst hn0_4
  subst hn1_0
  unfold fire_Coolest at h
  refine calls_enter (m := 11) Tryz.func22 rfl rfl (Nat.le_of_ble_eq_true rfl) ?_
  refine cx_seq ?_
  refine cx_region ?_
  refine ox_box [.int .i64 p0_f.fRise, .int .i64 p0_f.fFall, .int .i64 p0_f.fUp, .int .i64 p0_f.fDown, .slice A0_4 p0_f.fLooks.length c0_4] rfl rfl rfl (fun b1 => ?_)
  refine ox_y rfl (y_assign_slice rfl) ?_
  refine ox_y rfl (y_assign_int rfl) ?_
  refine ox_nil ?_
  refine ex_then ?_
  refine cx_seq ?_
  refine cx_region ?_
  refine ox_y rfl (y_loadN 0 [.int .i64 p0_f.fRise, .int .i64 p0_f.fFall, .int .i64 p0_f.fUp, .int .i64 p0_f.fDown, .slice A0_4 p0_f.fLooks.length c0_4] ag_24 rfl rfl rfl) ?_
  refine ox_y rfl (y_move_slice rfl) ?_
  obtain ⟨y3, hy4, h⟩ := bind_some h
  refine ox_call [.agg #[.int .i64 p0_f.fRise, .int .i64 p0_f.fFall, .int .i64 p0_f.fUp, .int .i64 p0_f.fDown, .slice A0_4 p0_f.fLooks.length c0_4], .slice A1_0 p1_l.length c1_0, .func (.func 66) #[] #[]] _ _ _ rfl go_65 rfl (fun W2 hW2 => fire_all_ok p0_f p1_l (fun x2 => fire_Coolest_1 x2) y3 hy4 W2 A0_4 p0_f.fLooks.length c0_4 rfl ((RdL.arg hr0_4) W2 hW2) A1_0 p1_l.length c1_0 rfl ((RdL.arg hr1_0) W2 hW2) 66 [] go_66 (fun W3 hb x y hxy => fire_Coolest_1_ok x  y hxy W3 )) ?_
  rintro ⟨A5, n7, c6⟩ hn8
  replace hn8 : n7 = y3.1.length := hn8; subst hn8
  refine ox_y rfl (y_extract (vs := [.slice A5 y3.1.length c6, .int .i64 y3.2]) (v := .slice A5 y3.1.length c6) rfl rfl) ?_
  refine ox_y rfl (y_extract (vs := [.slice A5 y3.1.length c6, .int .i64 y3.2]) (v := .int .i64 y3.2) rfl rfl) ?_
  refine ox_y rfl (y_assign_slice rfl) ?_
  refine ox_y rfl (y_assign_int rfl) ?_
  refine ox_nil ?_
  refine ex_then ?_
  refine cx_ret ?_
  obtain rfl := Option.some.inj h
  exact ex_res2 (.inl rfl) rfl (resV_tmp (v := .slice A5 y3.1.length c6) rfl) (resV_tmp (v := .int .i64 y3.2) rfl) (fun W2 hW2 => ⟨(A5, y3.1.length, c6), rfl, rfl, (hW2.pick 1 rfl)⟩)

/-! calx/calxref02.Coolest -/
set_option maxRecDepth 100000 in
theorem calxref02_Coolest_ok (p0_f : TFire) (p1_l : (List TSpot)) (res : TInts) (h : calxref02_Coolest p0_f p1_l = some res) (W : World) (A0_4 : Option Addr) (n0_4 c0_4 : Nat) (hn0_4 : n0_4 = p0_f.fLooks.length) (hr0_4 : Rd W A0_4 n0_4 c0_4 (encL TLook_cells p0_f.fLooks)) (A1_0 : Option Addr) (n1_0 c1_0 : Nat) (hn1_0 : n1_0 = p1_l.length) (hr1_0 : Rd W A1_0 n1_0 c1_0 (encL TSpot_cells p1_l)) :
    Calls Tryz.prog 23 [.agg #[.int .i64 p0_f.fRise, .int .i64 p0_f.fFall, .int .i64 p0_f.fUp, .int .i64 p0_f.fDown, .slice A0_4 n0_4 c0_4], .slice A1_0 n1_0 c1_0].toArray W fun e W2 => ∃ x : Option Addr × Nat × Nat, x.2.1 = res.fL.length ∧ e = .returned (.agg #[.slice x.1 x.2.1 x.2.2, .int .i64 res.fE]) ∧ Ext W W2 [rowR x.1 x.2.2 3 1 x.2.1 (encL cI res.fL)] := by
  subst hn0_4
  subst hn1_0
  unfold calxref02_Coolest at h
  refine calls_enter (m := 33) Tryz.func23 rfl rfl (Nat.le_of_ble_eq_true rfl) ?_
  refine cx_seq ?_
  refine cx_region ?_
  refine ox_box [.int .i64 p0_f.fRise, .int .i64 p0_f.fFall, .int .i64 p0_f.fUp, .int .i64 p0_f.fDown, .slice A0_4 p0_f.fLooks.length c0_4] rfl rfl rfl (fun b1 => ?_)
  refine ox_alloc ze_43 rfl (fun b2 => ?_)
  refine ox_nil ?_
  refine ex_then ?_
  refine cx_seq ?_
  refine cx_region ?_
  refine ox_y rfl (y_loadN 0 [.int .i64 p0_f.fRise, .int .i64 p0_f.fFall, .int .i64 p0_f.fUp, .int .i64 p0_f.fDown, .slice A0_4 p0_f.fLooks.length c0_4] ag_24 rfl rfl rfl) ?_
  refine ox_y rfl (y_move_slice rfl) ?_
  obtain ⟨y3, hy4, h⟩ := bind_some h
  refine ox_y rfl (y_call [.agg #[.int .i64 p0_f.fRise, .int .i64 p0_f.fFall, .int .i64 p0_f.fUp, .int .i64 p0_f.fDown, .slice A0_4 p0_f.fLooks.length c0_4], .slice A1_0 p1_l.length c1_0] go_40 rfl (fun W2 hW2 => calxref02_asked_ok p0_f p1_l y3 hy4 W2 A0_4 p0_f.fLooks.length c0_4 rfl ((RdL.arg hr0_4) W2 hW2) A1_0 p1_l.length c1_0 rfl ((RdL.arg hr1_0) W2 hW2)) rfl) ?_
  refine ox_y rfl (y_assign_int rfl) ?_
  refine ox_nil ?_
  refine ex_then ?_
  refine cx_seq ?_
  refine cx_seq ?_
  refine cx_region ?_
  refine ox_y rfl (y_move_int rfl) ?_
  refine ox_y rfl (y_neq rfl rfl) ?_
  refine ox_nil ?_
  refine ex_then ?_
  rcases ite_some h with ⟨hp5, h⟩ | ⟨hp5, h⟩
  · refine cx_true (congrArg Value.bool hp5) ?_
    refine cx_seq ?_
    refine cx_region ?_
    refine ox_y rfl (y_move_int rfl) ?_
    refine ox_y rfl (y_buildS [.slice none 0 0, .int .i64 y3] [(0, 1), (1, 1)] ust_43 ze_43 (by kernel_rfl)) ?_
    refine ox_n rfl (y_storeN 1 [.slice none 0 0, .int .i64 y3] sz_43 rfl (Nat.le_of_ble_eq_true rfl) rfl rfl rfl) ?_
    refine ox_nil ?_
    refine ex_then ?_
    refine cx_ret ?_
    refine ex_then_ret ?_
    obtain rfl := Option.some.inj h
    exact ex_res1 (.inl rfl) rfl (resV_cellN 1 [.slice none 0 0, .int .i64 y3] ag_43 rfl rfl rfl) (fun W2 hW2 => ⟨(none, 0, 0), rfl, rfl, ((hW2.nilrow 3 1).pick 2 rfl)⟩)
  · refine cx_false (congrArg Value.bool hp5) ?_
    refine cx_skip ?_
    refine ex_then ?_
    refine cx_seq ?_
    refine cx_region ?_
    refine ox_y rfl (y_assign_slice rfl) ?_
    refine ox_nil ?_
    refine ex_then ?_
    refine cx_seq ?_
    refine cx_seq ?_
    refine cx_region ?_
    refine ox_y rfl (y_assign_int rfl) ?_
    refine ox_nil ?_
    refine ex_then ?_
    refine cx_block ?_
    obtain ⟨u9, hl18, h⟩ := bind_some h
    refine cx_nilrow 3 1 ?_
    refine cx_loop (fun (s : (Int × (List Int))) L tm => ∃ (tm0 : Nat → Value) (A2_s : Option Addr) (c2_s : Nat) (n2_s : Nat), n2_s = s.2.length ∧ L = [cellsR b1 24 [.int .i64 p0_f.fRise, .int .i64 p0_f.fFall, .int .i64 p0_f.fUp, .int .i64 p0_f.fDown, .slice A0_4 p0_f.fLooks.length c0_4], cellsR b2 43 [.slice none 0 0, .int .i64 0], rowR A2_s c2_s 3 1 n2_s (encL cI s.2)] ∧ tm = (upd (upd (upd (upd (upd (upd (upd (upd tm0 0 (.agg #[.int .i64 p0_f.fRise, .int .i64 p0_f.fFall, .int .i64 p0_f.fUp, .int .i64 p0_f.fDown, .slice A0_4 p0_f.fLooks.length c0_4])) 1 (.slice A1_0 p1_l.length c1_0)) 2 (.pointer (some ⟨b1, 0, none⟩))) 4 (.pointer (some ⟨b2, 0, none⟩))) 5 (.int .i64 y3)) 12 (.bool (y3 != 0))) 6 (.slice A2_s n2_s c2_s)) 7 (.int .i64 s.1))) (fun s e L tm => e = .exit 0 ∧ ∃ (tm0 : Nat → Value) (A2_s : Option Addr) (c2_s : Nat) (n2_s : Nat), n2_s = s.2.length ∧ L = [cellsR b1 24 [.int .i64 p0_f.fRise, .int .i64 p0_f.fFall, .int .i64 p0_f.fUp, .int .i64 p0_f.fDown, .slice A0_4 p0_f.fLooks.length c0_4], cellsR b2 43 [.slice none 0 0, .int .i64 0], rowR A2_s c2_s 3 1 n2_s (encL cI s.2)] ∧ tm = (upd (upd (upd (upd (upd (upd (upd (upd tm0 0 (.agg #[.int .i64 p0_f.fRise, .int .i64 p0_f.fFall, .int .i64 p0_f.fUp, .int .i64 p0_f.fDown, .slice A0_4 p0_f.fLooks.length c0_4])) 1 (.slice A1_0 p1_l.length c1_0)) 2 (.pointer (some ⟨b1, 0, none⟩))) 4 (.pointer (some ⟨b2, 0, none⟩))) 5 (.int .i64 y3)) 12 (.bool (y3 != 0))) 6 (.slice A2_s n2_s c2_s)) 7 (.int .i64 s.1))) hl18 ⟨_, none, 0, 0, rfl, rfl, (keep (keep (keep (keep (keep (keep (keep (keep rfl rfl) rfl) rfl) rfl) rfl) rfl) rfl) rfl)⟩ ?_ ?_
    · rintro s8 L tm st ⟨tm0_s8, A2_s8, c2_s8, n2_s8, rfl, rfl, rfl⟩ h
      unfold calxref02_Coolest_l1 at h
      refine cx_seq ?_
      refine cx_seq ?_
      refine cx_region ?_
      refine ox_y rfl (y_move_int rfl) ?_
      refine ox_y rfl (y_move_slice rfl) ?_
      refine ox_y rfl (y_len (us := []) us_50 rfl) ?_
      refine ox_y rfl (y_lss rfl rfl) ?_
      refine ox_nil ?_
      refine ex_then ?_
      rcases ite_some h with ⟨hp10, h⟩ | ⟨hp10, h⟩
      · refine cx_true (congrArg Value.bool hp10) ?_
        refine cx_skip ?_
        refine ex_then ?_
        refine cx_seq ?_
        refine cx_block ?_
        refine cx_drawsF [0] 8 mixed (by kernel_rfl) (by kernel_rfl) ?_
        refine qx_y rfl (y_move_slice rfl) ?_
        refine qx_y rfl (y_loadN 0 [.int .i64 p0_f.fRise, .int .i64 p0_f.fFall, .int .i64 p0_f.fUp, .int .i64 p0_f.fDown, .slice A0_4 p0_f.fLooks.length c0_4] ag_24 rfl rfl rfl) ?_
        refine qx_y rfl (y_move_slice rfl) ?_
        refine qx_y rfl (y_move_int rfl) ?_
        obtain ⟨hg11, h⟩ := guardO_some h
        refine qx_y rfl (y_indexR sl_50 (by decide) hg11.1 hg11.2 (RdL.arg hr1_0) (encL_len TSpot_cells_len rfl) rfl rfl) ?_
        refine qx_y rfl (y_loadRN (A := A1_0) (j := (Int.toNat s8.1 * 2)) [.int .i64 ((rdL p1_l s8.1).fFoot), .int .i64 ((rdL p1_l s8.1).fHour)] ag_26 (Nat.succ_pos _) (RdL.arg hr1_0) rfl (encL_gets TSpot_cells_len hg11.1 (lt_nat hg11.2 rfl))) ?_
        obtain ⟨y12, hy13, h⟩ := bind_some h
        refine qx_y rfl (y_call [.agg #[.int .i64 p0_f.fRise, .int .i64 p0_f.fFall, .int .i64 p0_f.fUp, .int .i64 p0_f.fDown, .slice A0_4 p0_f.fLooks.length c0_4], .agg #[.int .i64 ((rdL p1_l s8.1).fFoot), .int .i64 ((rdL p1_l s8.1).fHour)]] go_45 rfl (fun W2 hW2 => calxref02_ends_ok p0_f (TSpot.mk ((rdL p1_l s8.1).fFoot) ((rdL p1_l s8.1).fHour)) y12 hy13 W2 A0_4 p0_f.fLooks.length c0_4 rfl ((RdL.arg hr0_4) W2 hW2)) rfl) ?_
        refine qx_y rfl (y_field1 [.int .i64 y12.fLo, .int .i64 y12.fHi] (v := .int .i64 y12.fLo) fd_28_0 sc_3 rfl rfl) ?_
        refine qx_nil ?_
        refine ox_buildSliceE 1 (encL cI [y12.fLo]) _ mc_3_1 us_39 ze_3 by_3 (by decide) (by decide) (by kernel_rfl) (encL_len cI_len rfl) rfl (fun b14 => ?_)
        obtain ⟨hg17, h⟩ := guardO_some h
        refine ox_append0 2 us_39 ze_3 by_3 rfl rfl rfl (RdL.row 3 rfl) (encL_len cI_len rfl) (encL_one cI_one _) (app_room hg17 (by decide)) rfl (fun A15 c16 => ?_)
        refine ox_y rfl (y_assign_slice rfl) ?_
        refine ox_nil ?_
        refine ex_only ?_
        refine ex_block ?_
        refine ex_then ?_
        refine cx_region ?_
        refine ox_y rfl (y_move_int rfl) ?_
        refine ox_y rfl (y_add rfl rfl) ?_
        refine ox_y rfl (y_assign_int rfl) ?_
        refine ox_nil ?_
        refine ex_take 3 ?_
        obtain rfl := Option.some.inj h
        exact ex_next ⟨_, A15, c16, (s8.2.length + 1), (hn_app rfl rfl), rfl, (keep (keep (keep (keep (keep (keep (keep (keep rfl rfl) rfl) rfl) rfl) rfl) rfl) rfl) rfl)⟩
      · refine cx_false (congrArg Value.bool hp10) ?_
        refine cx_exit ?_
        refine ex_then_exit ?_
        obtain rfl := Option.some.inj h
        exact ex_stop ⟨rfl, _, A2_s8, c2_s8, s8.2.length, rfl, rfl, (keep (keep (keep (keep (keep (keep (keep (keep rfl rfl) rfl) rfl) rfl) rfl) rfl) rfl) rfl)⟩
    · intro e L tm hJ
      obtain ⟨rfl, tm0_u9, A2_u9, c2_u9, n2_u9, rfl, rfl, rfl⟩ := hJ
      refine ⟨(by intro hc; cases hc), ?_⟩
      refine ex_block_here ?_
      refine ex_then ?_
      refine cx_seq ?_
      refine cx_region ?_
      refine ox_y rfl (y_move_slice rfl) ?_
      refine ox_y rfl (y_buildS [.slice A2_u9 u9.2.length c2_u9, .int .i64 0] [(0, 1), (1, 1)] ust_43 ze_43 (by kernel_rfl)) ?_
      refine ox_n rfl (y_storeN 1 [.slice A2_u9 u9.2.length c2_u9, .int .i64 0] sz_43 rfl (Nat.le_of_ble_eq_true rfl) rfl rfl rfl) ?_
      refine ox_nil ?_
      refine ex_then ?_
      refine cx_ret ?_
      obtain rfl := Option.some.inj h
      exact ex_res1 (.inl rfl) rfl (resV_cellN 1 [.slice A2_u9 u9.2.length c2_u9, .int .i64 0] ag_43 rfl rfl rfl) (fun W2 hW2 => ⟨(A2_u9, u9.2.length, c2_u9), rfl, rfl, (hW2.pick 2 rfl)⟩)

/-! calx/fire.Hottest$1 -/
set_option maxRecDepth 100000 in
theorem fire_Hottest_1_ok (p0_s : TSpan) (res : Int) (h : fire_Hottest_1 p0_s = some res) (W : World)  :
    Calls Tryz.prog 67 [.agg #[.int .i64 p0_s.fLo, .int .i64 p0_s.fHi]].toArray W fun e W2 => e = .returned (.int .i64 res) ∧ Ext W W2 [] := by
  unfold fire_Hottest_1 at h
  refine calls_enter (m := 5) Tryz.func67 rfl rfl (Nat.le_of_ble_eq_true rfl) ?_
  refine cx_seq ?_
  refine cx_region ?_
  refine ox_box [.int .i64 p0_s.fLo, .int .i64 p0_s.fHi] rfl rfl rfl (fun b1 => ?_)
  refine ox_y rfl (y_assign_int rfl) ?_
  refine ox_nil ?_
  refine ex_then ?_
  refine cx_seq ?_
  refine cx_region ?_
  refine ox_y rfl (y_fieldAddr fo_28_1 rfl) ?_
  refine ox_y rfl (y_load1 0 (v := .int .i64 p0_s.fHi) sc_3 rfl rfl rfl) ?_
  refine ox_y rfl (y_assign_int rfl) ?_
  refine ox_nil ?_
  refine ex_then ?_
  refine cx_ret ?_
  obtain rfl := Option.some.inj h
  exact ex_res1 (.inl rfl) rfl (resV_tmp (v := .int .i64 p0_s.fHi) rfl) (fun W2 hW2 => ⟨rfl, hW2.none⟩)

/-! calx/fire.Hottest -/
set_option maxRecDepth 100000 in
theorem fire_Hottest_ok (p0_f : TFire) (p1_l : (List TSpot)) (res : ((List Int) × Int)) (h : fire_Hottest p0_f p1_l = some res) (W : World) (A0_4 : Option Addr) (n0_4 c0_4 : Nat) (hn0_4 : n0_4 = p0_f.fLooks.length) (hr0_4 : Rd W A0_4 n0_4 c0_4 (encL TLook_cells p0_f.fLooks)) (A1_0 : Option Addr) (n1_0 c1_0 : Nat) (hn1_0 : n1_0 = p1_l.length) (hr1_0 : Rd W A1_0 n1_0 c1_0 (encL TSpot_cells p1_l)) :
    Calls Tryz.prog 24 [.agg #[.int .i64 p0_f.fRise, .int .i64 p0_f.fFall, .int .i64 p0_f.fUp, .int .i64 p0_f.fDown, .slice A0_4 n0_4 c0_4], .slice A1_0 n1_0 c1_0].toArray W fun e W2 => ∃ x : Option Addr × Nat × Nat, x.2.1 = res.1.length ∧ e = .returned (.tuple #[.slice x.1 x.2.1 x.2.2, .int .i64 res.2]) ∧ Ext W W2 [rowR x.1 x.2.2 3 1 x.2.1 (encL cI res.1)] := by
  subst hn0_4
  subst hn1_0
  unfold fire_Hottest at h
  refine calls_enter (m := 11) Tryz.func24 rfl rfl (Nat.le_of_ble_eq_true rfl) ?_
  refine cx_seq ?_
  refine cx_region ?_
  refine ox_box [.int .i64 p0_f.fRise, .int .i64 p0_f.fFall, .int .i64 p0_f.fUp, .int .i64 p0_f.fDown, .slice A0_4 p0_f.fLooks.length c0_4] rfl rfl rfl (fun b1 => ?_)
  refine ox_y rfl (y_assign_slice rfl) ?_
  refine ox_y rfl (y_assign_int rfl) ?_
  refine ox_nil ?_
  refine ex_then ?_
  refine cx_seq ?_
  refine cx_region ?_
  refine ox_y rfl (y_loadN 0 [.int .i64 p0_f.fRise, .int .i64 p0_f.fFall, .int .i64 p0_f.fUp, .int .i64 p0_f.fDown, .slice A0_4 p0_f.fLooks.length c0_4] ag_24 rfl rfl rfl) ?_
  refine ox_y rfl (y_move_slice rfl) ?_
  obtain ⟨y3, hy4, h⟩ := bind_some h
  refine ox_call [.agg #[.int .i64 p0_f.fRise, .int .i64 p0_f.fFall, .int .i64 p0_f.fUp, .int .i64 p0_f.fDown, .slice A0_4 p0_f.fLooks.length c0_4], .slice A1_0 p1_l.length c1_0, .func (.func 67) #[] #[]] _ _ _ rfl go_65 rfl (fun W2 hW2 => fire_all_ok p0_f p1_l (fun x2 => fire_Hottest_1 x2) y3 hy4 W2 A0_4 p0_f.fLooks.length c0_4 rfl ((RdL.arg hr0_4) W2 hW2) A1_0 p1_l.length c1_0 rfl ((RdL.arg hr1_0) W2 hW2) 67 [] go_67 (fun W3 hb x y hxy => fire_Hottest_1_ok x  y hxy W3 )) ?_
  rintro ⟨A5, n7, c6⟩ hn8
  replace hn8 : n7 = y3.1.length := hn8; subst hn8
  refine ox_y rfl (y_extract (vs := [.slice A5 y3.1.length c6, .int .i64 y3.2]) (v := .slice A5 y3.1.length c6) rfl rfl) ?_
  refine ox_y rfl (y_extract (vs := [.slice A5 y3.1.length c6, .int .i64 y3.2]) (v := .int .i64 y3.2) rfl rfl) ?_
  refine ox_y rfl (y_assign_slice rfl) ?_
  refine ox_y rfl (y_assign_int rfl) ?_
  refine ox_nil ?_
  refine ex_then ?_
  refine cx_ret ?_
  obtain rfl := Option.some.inj h
  exact ex_res2 (.inl rfl) rfl (resV_tmp (v := .slice A5 y3.1.length c6) rfl) (resV_tmp (v := .int .i64 y3.2) rfl) (fun W2 hW2 => ⟨(A5, y3.1.length, c6), rfl, rfl, (hW2.pick 1 rfl)⟩)

/-! calx/calxref02.Hottest -/
set_option maxRecDepth 100000 in
theorem calxref02_Hottest_ok (p0_f : TFire) (p1_l : (List TSpot)) (res : TInts) (h : calxref02_Hottest p0_f p1_l = some res) (W : World) (A0_4 : Option Addr) (n0_4 c0_4 : Nat) (hn0_4 : n0_4 = p0_f.fLooks.length) (hr0_4 : Rd W A0_4 n0_4 c0_4 (encL TLook_cells p0_f.fLooks)) (A1_0 : Option Addr) (n1_0 c1_0 : Nat) (hn1_0 : n1_0 = p1_l.length) (hr1_0 : Rd W A1_0 n1_0 c1_0 (encL TSpot_cells p1_l)) :
    Calls Tryz.prog 25 [.agg #[.int .i64 p0_f.fRise, .int .i64 p0_f.fFall, .int .i64 p0_f.fUp, .int .i64 p0_f.fDown, .slice A0_4 n0_4 c0_4], .slice A1_0 n1_0 c1_0].toArray W fun e W2 => ∃ x : Option Addr × Nat × Nat, x.2.1 = res.fL.length ∧ e = .returned (.agg #[.slice x.1 x.2.1 x.2.2, .int .i64 res.fE]) ∧ Ext W W2 [rowR x.1 x.2.2 3 1 x.2.1 (encL cI res.fL)] := by
  subst hn0_4
  subst hn1_0
  unfold calxref02_Hottest at h
  refine calls_enter (m := 33) Tryz.func25 rfl rfl (Nat.le_of_ble_eq_true rfl) ?_
  refine cx_seq ?_
  refine cx_region ?_
  refine ox_box [.int .i64 p0_f.fRise, .int .i64 p0_f.fFall, .int .i64 p0_f.fUp, .int .i64 p0_f.fDown, .slice A0_4 p0_f.fLooks.length c0_4] rfl rfl rfl (fun b1 => ?_)
  refine ox_alloc ze_43 rfl (fun b2 => ?_)
  refine ox_nil ?_
  refine ex_then ?_
  refine cx_seq ?_
  refine cx_region ?_
  refine ox_y rfl (y_loadN 0 [.int .i64 p0_f.fRise, .int .i64 p0_f.fFall, .int .i64 p0_f.fUp, .int .i64 p0_f.fDown, .slice A0_4 p0_f.fLooks.length c0_4] ag_24 rfl rfl rfl) ?_
  refine ox_y rfl (y_move_slice rfl) ?_
  obtain ⟨y3, hy4, h⟩ := bind_some h
  refine ox_y rfl (y_call [.agg #[.int .i64 p0_f.fRise, .int .i64 p0_f.fFall, .int .i64 p0_f.fUp, .int .i64 p0_f.fDown, .slice A0_4 p0_f.fLooks.length c0_4], .slice A1_0 p1_l.length c1_0] go_40 rfl (fun W2 hW2 => calxref02_asked_ok p0_f p1_l y3 hy4 W2 A0_4 p0_f.fLooks.length c0_4 rfl ((RdL.arg hr0_4) W2 hW2) A1_0 p1_l.length c1_0 rfl ((RdL.arg hr1_0) W2 hW2)) rfl) ?_
  refine ox_y rfl (y_assign_int rfl) ?_
  refine ox_nil ?_
  refine ex_then ?_
  refine cx_seq ?_
  refine cx_seq ?_
  refine cx_region ?_
  refine ox_y rfl (y_move_int rfl) ?_
  refine ox_y rfl (y_neq rfl rfl) ?_
  refine ox_nil ?_
  refine ex_then ?_
  rcases ite_some h with ⟨hp5, h⟩ | ⟨hp5, h⟩
  · refine cx_true (congrArg Value.bool hp5) ?_
    refine cx_seq ?_
    refine cx_region ?_
    refine ox_y rfl (y_move_int rfl) ?_
    refine ox_y rfl (y_buildS [.slice none 0 0, .int .i64 y3] [(0, 1), (1, 1)] ust_43 ze_43 (by kernel_rfl)) ?_
    refine ox_n rfl (y_storeN 1 [.slice none 0 0, .int .i64 y3] sz_43 rfl (Nat.le_of_ble_eq_true rfl) rfl rfl rfl) ?_
    refine ox_nil ?_
    refine ex_then ?_
    refine cx_ret ?_
    refine ex_then_ret ?_
    obtain rfl := Option.some.inj h
    exact ex_res1 (.inl rfl) rfl (resV_cellN 1 [.slice none 0 0, .int .i64 y3] ag_43 rfl rfl rfl) (fun W2 hW2 => ⟨(none, 0, 0), rfl, rfl, ((hW2.nilrow 3 1).pick 2 rfl)⟩)
  · refine cx_false (congrArg Value.bool hp5) ?_
    refine cx_skip ?_
    refine ex_then ?_
    refine cx_seq ?_
    refine cx_region ?_
    refine ox_y rfl (y_assign_slice rfl) ?_
    refine ox_nil ?_
    refine ex_then ?_
    refine cx_seq ?_
    refine cx_seq ?_
    refine cx_region ?_
    refine ox_y rfl (y_assign_int rfl) ?_
    refine ox_nil ?_
    refine ex_then ?_
    refine cx_block ?_
    obtain ⟨u9, hl18, h⟩ := bind_some h
    refine cx_nilrow 3 1 ?_
    refine cx_loop (fun (s : (Int × (List Int))) L tm => ∃ (tm0 : Nat → Value) (A2_s : Option Addr) (c2_s : Nat) (n2_s : Nat), n2_s = s.2.length ∧ L = [cellsR b1 24 [.int .i64 p0_f.fRise, .int .i64 p0_f.fFall, .int .i64 p0_f.fUp, .int .i64 p0_f.fDown, .slice A0_4 p0_f.fLooks.length c0_4], cellsR b2 43 [.slice none 0 0, .int .i64 0], rowR A2_s c2_s 3 1 n2_s (encL cI s.2)] ∧ tm = (upd (upd (upd (upd (upd (upd (upd (upd tm0 0 (.agg #[.int .i64 p0_f.fRise, .int .i64 p0_f.fFall, .int .i64 p0_f.fUp, .int .i64 p0_f.fDown, .slice A0_4 p0_f.fLooks.length c0_4])) 1 (.slice A1_0 p1_l.length c1_0)) 2 (.pointer (some ⟨b1, 0, none⟩))) 4 (.pointer (some ⟨b2, 0, none⟩))) 5 (.int .i64 y3)) 12 (.bool (y3 != 0))) 6 (.slice A2_s n2_s c2_s)) 7 (.int .i64 s.1))) (fun s e L tm => e = .exit 0 ∧ ∃ (tm0 : Nat → Value) (A2_s : Option Addr) (c2_s : Nat) (n2_s : Nat), n2_s = s.2.length ∧ L = [cellsR b1 24 [.int .i64 p0_f.fRise, .int .i64 p0_f.fFall, .int .i64 p0_f.fUp, .int .i64 p0_f.fDown, .slice A0_4 p0_f.fLooks.length c0_4], cellsR b2 43 [.slice none 0 0, .int .i64 0], rowR A2_s c2_s 3 1 n2_s (encL cI s.2)] ∧ tm = (upd (upd (upd (upd (upd (upd (upd (upd tm0 0 (.agg #[.int .i64 p0_f.fRise, .int .i64 p0_f.fFall, .int .i64 p0_f.fUp, .int .i64 p0_f.fDown, .slice A0_4 p0_f.fLooks.length c0_4])) 1 (.slice A1_0 p1_l.length c1_0)) 2 (.pointer (some ⟨b1, 0, none⟩))) 4 (.pointer (some ⟨b2, 0, none⟩))) 5 (.int .i64 y3)) 12 (.bool (y3 != 0))) 6 (.slice A2_s n2_s c2_s)) 7 (.int .i64 s.1))) hl18 ⟨_, none, 0, 0, rfl, rfl, (keep (keep (keep (keep (keep (keep (keep (keep rfl rfl) rfl) rfl) rfl) rfl) rfl) rfl) rfl)⟩ ?_ ?_
    · rintro s8 L tm st ⟨tm0_s8, A2_s8, c2_s8, n2_s8, rfl, rfl, rfl⟩ h
      unfold calxref02_Hottest_l1 at h
      refine cx_seq ?_
      refine cx_seq ?_
      refine cx_region ?_
      refine ox_y rfl (y_move_int rfl) ?_
      refine ox_y rfl (y_move_slice rfl) ?_
      refine ox_y rfl (y_len (us := []) us_50 rfl) ?_
      refine ox_y rfl (y_lss rfl rfl) ?_
      refine ox_nil ?_
      refine ex_then ?_
      rcases ite_some h with ⟨hp10, h⟩ | ⟨hp10, h⟩
      · refine cx_true (congrArg Value.bool hp10) ?_
        refine cx_skip ?_
        refine ex_then ?_
        refine cx_seq ?_
        refine cx_block ?_
        refine cx_drawsF [0] 8 mixed (by kernel_rfl) (by kernel_rfl) ?_
        refine qx_y rfl (y_move_slice rfl) ?_
        refine qx_y rfl (y_loadN 0 [.int .i64 p0_f.fRise, .int .i64 p0_f.fFall, .int .i64 p0_f.fUp, .int .i64 p0_f.fDown, .slice A0_4 p0_f.fLooks.length c0_4] ag_24 rfl rfl rfl) ?_
        refine qx_y rfl (y_move_slice rfl) ?_
        refine qx_y rfl (y_move_int rfl) ?_
        obtain ⟨hg11, h⟩ := guardO_some h
        refine qx_y rfl (y_indexR sl_50 (by decide) hg11.1 hg11.2 (RdL.arg hr1_0) (encL_len TSpot_cells_len rfl) rfl rfl) ?_
        refine qx_y rfl (y_loadRN (A := A1_0) (j := (Int.toNat s8.1 * 2)) [.int .i64 ((rdL p1_l s8.1).fFoot), .int .i64 ((rdL p1_l s8.1).fHour)] ag_26 (Nat.succ_pos _) (RdL.arg hr1_0) rfl (encL_gets TSpot_cells_len hg11.1 (lt_nat hg11.2 rfl))) ?_
        obtain ⟨y12, hy13, h⟩ := bind_some h
        refine qx_y rfl (y_call [.agg #[.int .i64 p0_f.fRise, .int .i64 p0_f.fFall, .int .i64 p0_f.fUp, .int .i64 p0_f.fDown, .slice A0_4 p0_f.fLooks.length c0_4], .agg #[.int .i64 ((rdL p1_l s8.1).fFoot), .int .i64 ((rdL p1_l s8.1).fHour)]] go_45 rfl (fun W2 hW2 => calxref02_ends_ok p0_f (TSpot.mk ((rdL p1_l s8.1).fFoot) ((rdL p1_l s8.1).fHour)) y12 hy13 W2 A0_4 p0_f.fLooks.length c0_4 rfl ((RdL.arg hr0_4) W2 hW2)) rfl) ?_
        refine qx_y rfl (y_field1 [.int .i64 y12.fLo, .int .i64 y12.fHi] (v := .int .i64 y12.fHi) fd_28_1 sc_3 rfl rfl) ?_
        refine qx_nil ?_
        refine ox_buildSliceE 1 (encL cI [y12.fHi]) _ mc_3_1 us_39 ze_3 by_3 (by decide) (by decide) (by kernel_rfl) (encL_len cI_len rfl) rfl (fun b14 => ?_)
        obtain ⟨hg17, h⟩ := guardO_some h
        refine ox_append0 2 us_39 ze_3 by_3 rfl rfl rfl (RdL.row 3 rfl) (encL_len cI_len rfl) (encL_one cI_one _) (app_room hg17 (by decide)) rfl (fun A15 c16 => ?_)
        refine ox_y rfl (y_assign_slice rfl) ?_
        refine ox_nil ?_
        refine ex_only ?_
        refine ex_block ?_
        refine ex_then ?_
        refine cx_region ?_
        refine ox_y rfl (y_move_int rfl) ?_
        refine ox_y rfl (y_add rfl rfl) ?_
        refine ox_y rfl (y_assign_int rfl) ?_
        refine ox_nil ?_
        refine ex_take 3 ?_
        obtain rfl := Option.some.inj h
        exact ex_next ⟨_, A15, c16, (s8.2.length + 1), (hn_app rfl rfl), rfl, (keep (keep (keep (keep (keep (keep (keep (keep rfl rfl) rfl) rfl) rfl) rfl) rfl) rfl) rfl)⟩
      · refine cx_false (congrArg Value.bool hp10) ?_
        refine cx_exit ?_
        refine ex_then_exit ?_
        obtain rfl := Option.some.inj h
        exact ex_stop ⟨rfl, _, A2_s8, c2_s8, s8.2.length, rfl, rfl, (keep (keep (keep (keep (keep (keep (keep (keep rfl rfl) rfl) rfl) rfl) rfl) rfl) rfl) rfl)⟩
    · intro e L tm hJ
      obtain ⟨rfl, tm0_u9, A2_u9, c2_u9, n2_u9, rfl, rfl, rfl⟩ := hJ
      refine ⟨(by intro hc; cases hc), ?_⟩
      refine ex_block_here ?_
      refine ex_then ?_
      refine cx_seq ?_
      refine cx_region ?_
      refine ox_y rfl (y_move_slice rfl) ?_
      refine ox_y rfl (y_buildS [.slice A2_u9 u9.2.length c2_u9, .int .i64 0] [(0, 1), (1, 1)] ust_43 ze_43 (by kernel_rfl)) ?_
      refine ox_n rfl (y_storeN 1 [.slice A2_u9 u9.2.length c2_u9, .int .i64 0] sz_43 rfl (Nat.le_of_ble_eq_true rfl) rfl rfl rfl) ?_
      refine ox_nil ?_
      refine ex_then ?_
      refine cx_ret ?_
      obtain rfl := Option.some.inj h
      exact ex_res1 (.inl rfl) rfl (resV_cellN 1 [.slice A2_u9 u9.2.length c2_u9, .int .i64 0] ag_43 rfl rfl rfl) (fun W2 hW2 => ⟨(A2_u9, u9.2.length, c2_u9), rfl, rfl, (hW2.pick 2 rfl)⟩)

/-! slices.IndexFunc[[]int,int] -/
set_option maxRecDepth 100000 in
theorem slices_IndexFunc_int_int_ok (p0_s : (List Int)) (p1_f : Int → Option Bool) (res : Int) (h : slices_IndexFunc_int_int p0_s p1_f = some res) (W : World) (A0_0 : Option Addr) (n0_0 c0_0 : Nat) (hn0_0 : n0_0 = p0_s.length) (hr0_0 : Rd W A0_0 n0_0 c0_0 (encL cI p0_s)) (fid1 : Nat) (caps1 : List Value) (hgo1 : goes Tryz.prog fid1 = true) (hof1 : ∀ W2, Below W.heap.size W W2 → ∀ x y, p1_f x = some y → Calls Tryz.prog fid1 (([.int .i64 x] : List Value) ++ caps1).toArray W2 fun e W3 => e = .returned (.bool y) ∧ Ext W2 W3 []) :
    Calls Tryz.prog 99 [.slice A0_0 n0_0 c0_0, .func (.func fid1) #[] caps1.toArray].toArray W fun e W2 => e = .returned (.int .i64 res) ∧ Ext W W2 [] := by
  subst hn0_0
  unfold slices_IndexFunc_int_int at h
  refine calls_enter (m := 19) Tryz.func99 rfl rfl (Nat.le_of_ble_eq_true rfl) ?_
  refine cx_seq ?_
  refine cx_region ?_
  refine ox_y rfl (y_assign_int rfl) ?_
  refine ox_nil ?_
  refine ex_then ?_
  refine cx_seq ?_
  refine cx_seq ?_
  refine cx_region ?_
  refine ox_y rfl (y_move_slice rfl) ?_
  refine ox_y rfl (y_len (us := []) us_39 rfl) ?_
  refine ox_y rfl (y_move_int rfl) ?_
  refine ox_nil ?_
  refine ex_then ?_
  refine cx_block ?_
  obtain ⟨u3, hl9, h⟩ := bind_some h
  refine cx_loop (fun (s : (Int × Int)) L tm => ∃ (tm0 : Nat → Value), L = [] ∧ tm = (upd (upd (upd (upd (upd tm0 0 (.slice A0_0 p0_s.length c0_0)) 1 (.func (.func fid1) #[] caps1.toArray)) 4 (.int .i64 s.1)) 7 (.int .i64 ((p0_s.length : Nat) : Int))) 8 (.int .i64 s.2))) (fun | (.inl s), e, L, tm => e = .ret ∧ ∃ (tm0 : Nat → Value), L = [] ∧ tm = (upd (upd (upd (upd (upd tm0 0 (.slice A0_0 p0_s.length c0_0)) 1 (.func (.func fid1) #[] caps1.toArray)) 4 (.int .i64 s.1)) 7 (.int .i64 ((p0_s.length : Nat) : Int))) 8 (.int .i64 s.2)) | (.inr s), e, L, tm => e = .exit 0 ∧ ∃ (tm0 : Nat → Value), L = [] ∧ tm = (upd (upd (upd (upd (upd tm0 0 (.slice A0_0 p0_s.length c0_0)) 1 (.func (.func fid1) #[] caps1.toArray)) 4 (.int .i64 s.1)) 7 (.int .i64 ((p0_s.length : Nat) : Int))) 8 (.int .i64 s.2))) hl9 ⟨_, rfl, (keep (keep (keep (keep (keep rfl rfl) rfl) rfl) rfl) rfl)⟩ ?_ ?_
  · rintro s2 L tm st ⟨tm0_s2, rfl, rfl⟩ h
    unfold slices_IndexFunc_int_int_l1 at h
    refine cx_seq ?_
    refine cx_region ?_
    refine ox_y rfl (y_lss rfl rfl) ?_
    refine ox_nil ?_
    refine ex_then ?_
    refine cx_seq ?_
    rcases ite_some h with ⟨hp4, h⟩ | ⟨hp4, h⟩
    · refine cx_true (congrArg Value.bool hp4) ?_
      refine cx_skip ?_
      refine ex_then ?_
      refine cx_seq ?_
      refine cx_block ?_
      refine cx_seq ?_
      refine cx_region ?_
      refine ox_y rfl (y_move_int rfl) ?_
      refine ox_y rfl (y_assign_int rfl) ?_
      refine ox_nil ?_
      refine ex_then ?_
      refine cx_seq ?_
      refine cx_region ?_
      refine ox_y rfl (y_move (v := .func (.func fid1) #[] caps1.toArray) rfl) ?_
      refine ox_y rfl (y_move_slice rfl) ?_
      refine ox_y rfl (y_move_int rfl) ?_
      obtain ⟨hg5, h⟩ := guardO_some h
      refine ox_y rfl (y_indexR sl_39 (by decide) hg5.1 hg5.2 (RdL.arg hr0_0) (encL_len cI_len rfl) rfl rfl) ?_
      refine ox_y rfl (y_loadR1 (A := A0_0) (j := (Int.toNat s2.2 * 1)) (v := .int .i64 (rdL p0_s s2.2)) sc_3 (RdL.arg hr0_0) rfl (encL_get0 cI_len hg5.1 (lt_nat hg5.2 rfl) rfl)) ?_
      obtain ⟨y6, hy7, h⟩ := bind_some h
      refine ox_y rfl (y_callv [.int .i64 (rdL p0_s s2.2)] hgo1 rfl rfl (fun W2 hW2 => hof1 W2 hW2.below (rdL p0_s s2.2) y6 hy7)) ?_
      refine ox_nil ?_
      refine ex_then ?_
      rcases ite_some h with ⟨hp8, h⟩ | ⟨hp8, h⟩
      · refine cx_true (congrArg Value.bool hp8) ?_
        refine cx_seq ?_
        refine cx_region ?_
        refine ox_y rfl (y_move_int rfl) ?_
        refine ox_y rfl (y_assign_int rfl) ?_
        refine ox_nil ?_
        refine ex_then ?_
        refine cx_ret ?_
        refine ex_block_ret ?_
        refine ex_then_ret ?_
        obtain rfl := Option.some.inj h
        exact ex_stop ⟨rfl, _, rfl, (keep (keep (keep (keep (keep rfl rfl) rfl) rfl) rfl) rfl)⟩
      · refine cx_false (congrArg Value.bool hp8) ?_
        refine cx_skip ?_
        refine ex_block ?_
        refine ex_then ?_
        refine cx_region ?_
        refine ox_y rfl (y_add rfl rfl) ?_
        refine ox_y rfl (y_move_int rfl) ?_
        refine ox_nil ?_
        obtain rfl := Option.some.inj h
        exact ex_next ⟨_, rfl, (keep (keep (keep (keep (keep rfl rfl) rfl) rfl) rfl) rfl)⟩
    · refine cx_false (congrArg Value.bool hp4) ?_
      refine cx_exit ?_
      refine ex_then_exit ?_
      obtain rfl := Option.some.inj h
      exact ex_stop ⟨rfl, _, rfl, (keep (keep (keep (keep (keep rfl rfl) rfl) rfl) rfl) rfl)⟩
  · intro e L tm hJ
    rcases u3 with u10 | u11
    · dsimp only at h hJ
      obtain ⟨rfl, tm0_u10, rfl, rfl⟩ := hJ
      refine ⟨(by intro hc; cases hc), ?_⟩
      refine ex_block_ret ?_
      refine ex_then_ret ?_
      obtain rfl := Option.some.inj h
      exact ex_res1 (.inl rfl) rfl (resV_tmp (v := .int .i64 u10.1) rfl) (fun W2 hW2 => ⟨rfl, hW2.none⟩)
    · dsimp only at h hJ
      obtain ⟨rfl, tm0_u11, rfl, rfl⟩ := hJ
      refine ⟨(by intro hc; cases hc), ?_⟩
      refine ex_block_here ?_
      refine ex_then ?_
      refine cx_seq ?_
      refine cx_region ?_
      refine ox_y rfl (y_assign_int rfl) ?_
      refine ox_nil ?_
      refine ex_then ?_
      refine cx_ret ?_
      obtain rfl := Option.some.inj h
      exact ex_res1 (.inl rfl) rfl (resV_tmp (v := .int .i64 (-1)) rfl) (fun W2 hW2 => ⟨rfl, hW2.none⟩)

/-! slices.ContainsFunc[[]int,int] -/
set_option maxRecDepth 100000 in
theorem slices_ContainsFunc_int_int_ok (p0_s : (List Int)) (p1_f : Int → Option Bool) (res : Bool) (h : slices_ContainsFunc_int_int p0_s p1_f = some res) (W : World) (A0_0 : Option Addr) (n0_0 c0_0 : Nat) (hn0_0 : n0_0 = p0_s.length) (hr0_0 : Rd W A0_0 n0_0 c0_0 (encL cI p0_s)) (fid1 : Nat) (caps1 : List Value) (hgo1 : goes Tryz.prog fid1 = true) (hof1 : ∀ W2, Below W.heap.size W W2 → ∀ x y, p1_f x = some y → Calls Tryz.prog fid1 (([.int .i64 x] : List Value) ++ caps1).toArray W2 fun e W3 => e = .returned (.bool y) ∧ Ext W2 W3 []) :
    Calls Tryz.prog 68 [.slice A0_0 n0_0 c0_0, .func (.func fid1) #[] caps1.toArray].toArray W fun e W2 => e = .returned (.bool res) ∧ Ext W W2 [] := by
  subst hn0_0
  unfold slices_ContainsFunc_int_int at h
  refine calls_enter (m := 9) Tryz.func68 rfl rfl (Nat.le_of_ble_eq_true rfl) ?_
  refine cx_seq ?_
  refine cx_region ?_
  refine ox_y rfl (y_assign_bool rfl) ?_
  refine ox_nil ?_
  refine ex_then ?_
  refine cx_seq ?_
  refine cx_region ?_
  refine ox_y rfl (y_move_slice rfl) ?_
  refine ox_y rfl (y_move (v := .func (.func fid1) #[] caps1.toArray) rfl) ?_
  obtain ⟨y1, hy2, h⟩ := bind_some h
  refine ox_y rfl (y_call [.slice A0_0 p0_s.length c0_0, .func (.func fid1) #[] caps1.toArray] go_99 rfl (fun W2 hW2 => slices_IndexFunc_int_int_ok p0_s p1_f y1 hy2 W2 A0_0 p0_s.length c0_0 rfl ((RdL.arg hr0_0) W2 hW2) fid1 caps1 hgo1 (fun W3 hb => hof1 W3 (belowT hW2.below hb))) rfl) ?_
  refine ox_y rfl (y_geq rfl rfl) ?_
  refine ox_y rfl (y_assign_bool rfl) ?_
  refine ox_nil ?_
  refine ex_then ?_
  refine cx_ret ?_
  obtain rfl := Option.some.inj h
  exact ex_res1 (.inl rfl) rfl (resV_tmp (v := .bool (decide (0 ≤ y1))) rfl) (fun W2 hW2 => ⟨rfl, hW2.none⟩)

/-! calx/fire.Fits$1 -/
set_option maxRecDepth 100000 in
theorem fire_Fits_1_ok (p0_n : Int) (res : Bool) (h : fire_Fits_1 p0_n = some res) (W : World)  :
    Calls Tryz.prog 69 [.int .i64 p0_n].toArray W fun e W2 => e = .returned (.bool res) ∧ Ext W W2 [] := by
  unfold fire_Fits_1 at h
  refine calls_enter (m := 6) Tryz.func69 rfl rfl (Nat.le_of_ble_eq_true rfl) ?_
  refine cx_seq ?_
  refine cx_region ?_
  refine ox_y rfl (y_assign_bool rfl) ?_
  refine ox_nil ?_
  refine ex_then ?_
  refine cx_seq ?_
  refine cx_region ?_
  refine ox_y rfl (y_move_int rfl) ?_
  obtain ⟨y1, hy2, h⟩ := bind_some h
  refine ox_y rfl (y_call [.int .i64 p0_n] go_57 rfl (fun W2 hW2 => fire_heat_ok p0_n y1 hy2 W2 ) rfl) ?_
  refine ox_y rfl (y_not rfl) ?_
  refine ox_y rfl (y_assign_bool rfl) ?_
  refine ox_nil ?_
  refine ex_then ?_
  refine cx_ret ?_
  obtain rfl := Option.some.inj h
  exact ex_res1 (.inl rfl) rfl (resV_tmp (v := .bool (!y1)) rfl) (fun W2 hW2 => ⟨rfl, hW2.none⟩)

/-! calx/fire.Fits -/
set_option maxRecDepth 100000 in
theorem fire_Fits_ok (p0 : TFire) (p1 : (List TSpot)) (p2 : (List Int)) (res : (Bool × Int)) (h : fire_Fits p0 p1 p2 = some res) (W : World) (A0_4 : Option Addr) (n0_4 c0_4 : Nat) (hn0_4 : n0_4 = p0.fLooks.length) (hr0_4 : Rd W A0_4 n0_4 c0_4 (encL TLook_cells p0.fLooks)) (A1_0 : Option Addr) (n1_0 c1_0 : Nat) (hn1_0 : n1_0 = p1.length) (hr1_0 : Rd W A1_0 n1_0 c1_0 (encL TSpot_cells p1)) (A2_0 : Option Addr) (n2_0 c2_0 : Nat) (hn2_0 : n2_0 = p2.length) (hr2_0 : Rd W A2_0 n2_0 c2_0 (encL cI p2)) :
    Calls Tryz.prog 26 [.agg #[.int .i64 p0.fRise, .int .i64 p0.fFall, .int .i64 p0.fUp, .int .i64 p0.fDown, .slice A0_4 n0_4 c0_4], .slice A1_0 n1_0 c1_0, .slice A2_0 n2_0 c2_0].toArray W fun e W2 => e = .returned (.tuple #[.bool res.1, .int .i64 res.2]) ∧ Ext W W2 [] := by
  subst hn0_4
  subst hn1_0
  subst hn2_0
  unfold fire_Fits at h
  refine calls_enter (m := 92) Tryz.func26 rfl rfl (Nat.le_of_ble_eq_true rfl) ?_
  refine cx_seq ?_
  refine cx_region ?_
  refine ox_box [.int .i64 p0.fRise, .int .i64 p0.fFall, .int .i64 p0.fUp, .int .i64 p0.fDown, .slice A0_4 p0.fLooks.length c0_4] rfl rfl rfl (fun b1 => ?_)
  refine ox_y rfl (y_assign_bool rfl) ?_
  refine ox_y rfl (y_assign_int rfl) ?_
  refine ox_nil ?_
  refine ex_then ?_
  refine cx_seq ?_
  refine cx_seq ?_
  refine cx_region ?_
  refine ox_y rfl (y_loadN 0 [.int .i64 p0.fRise, .int .i64 p0.fFall, .int .i64 p0.fUp, .int .i64 p0.fDown, .slice A0_4 p0.fLooks.length c0_4] ag_24 rfl rfl rfl) ?_
  refine ox_y rfl (y_move_slice rfl) ?_
  obtain ⟨y2, hy3, h⟩ := bind_some h
  refine ox_y rfl (y_call [.agg #[.int .i64 p0.fRise, .int .i64 p0.fFall, .int .i64 p0.fUp, .int .i64 p0.fDown, .slice A0_4 p0.fLooks.length c0_4], .slice A1_0 p1.length c1_0] go_61 rfl (fun W2 hW2 => fire_listed_ok p0 p1 y2 hy3 W2 A0_4 p0.fLooks.length c0_4 rfl ((RdL.arg hr0_4) W2 hW2) A1_0 p1.length c1_0 rfl ((RdL.arg hr1_0) W2 hW2)) rfl) ?_
  refine ox_y rfl (y_assign_int rfl) ?_
  refine ox_nil ?_
  refine ex_then ?_
  refine cx_seq ?_
  refine cx_region ?_
  refine ox_y rfl (y_move_int rfl) ?_
  refine ox_y rfl (y_neq rfl rfl) ?_
  refine ox_nil ?_
  refine ex_then ?_
  rcases ite_some h with ⟨hp4, h⟩ | ⟨hp4, h⟩
  · refine cx_true (congrArg Value.bool hp4) ?_
    refine cx_seq ?_
    refine cx_region ?_
    refine ox_y rfl (y_move_int rfl) ?_
    refine ox_y rfl (y_assign_bool rfl) ?_
    refine ox_y rfl (y_assign_int rfl) ?_
    refine ox_nil ?_
    refine ex_then ?_
    refine cx_ret ?_
    refine ex_then_ret ?_
    obtain rfl := Option.some.inj h
    exact ex_res2 (.inl rfl) rfl (resV_tmp (v := .bool false) rfl) (resV_tmp (v := .int .i64 y2) rfl) (fun W2 hW2 => ⟨rfl, hW2.none⟩)
  · refine cx_false (congrArg Value.bool hp4) ?_
    refine cx_skip ?_
    refine ex_then ?_
    refine cx_seq ?_
    refine cx_seq ?_
    refine cx_region ?_
    refine ox_y rfl (y_move_slice rfl) ?_
    refine ox_y rfl (y_len (us := []) us_39 rfl) ?_
    refine ox_y rfl (y_move_slice rfl) ?_
    refine ox_y rfl (y_len (us := []) us_50 rfl) ?_
    refine ox_y rfl (y_neq rfl rfl) ?_
    refine ox_y rfl (y_move_bool rfl) ?_
    obtain ⟨b6, hb7, h⟩ := bind_some h
    refine ox_join 3 (fun tm0 => (upd (upd (upd (upd (upd (upd tm0 1 (.slice A1_0 p1.length c1_0)) 2 (.slice A2_0 p2.length c2_0)) 3 (.pointer (some ⟨b1, 0, none⟩))) 6 (.bool false)) 7 (.int .i64 0)) 28 (.bool b6))) (fun tm0 => ?_) (fun key => ?_)
    · refine ox_nil ?_
      refine ex_then ?_
      rcases ite_some h with ⟨hp8, h⟩ | ⟨hp8, h⟩
      · refine cx_true (congrArg Value.bool hp8) ?_
        refine cx_seq ?_
        refine cx_region ?_
        refine ox_y rfl (y_assign_bool rfl) ?_
        refine ox_y rfl (y_assign_int rfl) ?_
        refine ox_nil ?_
        refine ex_then ?_
        refine cx_ret ?_
        refine ex_then_ret ?_
        obtain rfl := Option.some.inj h
        exact ex_res2 (.inl rfl) rfl (resV_tmp (v := .bool false) rfl) (resV_tmp (v := .int .i64 1) rfl) (fun W2 hW2 => ⟨rfl, hW2.none⟩)
      · refine cx_false (congrArg Value.bool hp8) ?_
        refine cx_skip ?_
        refine ex_then ?_
        refine cx_seq ?_
        refine cx_seq ?_
        refine cx_region ?_
        refine ox_y rfl (y_loadN 0 [.int .i64 p0.fRise, .int .i64 p0.fFall, .int .i64 p0.fUp, .int .i64 p0.fDown, .slice A0_4 p0.fLooks.length c0_4] ag_24 rfl rfl rfl) ?_
        obtain ⟨y9, hy10, h⟩ := bind_some h
        refine ox_y rfl (y_call [.agg #[.int .i64 p0.fRise, .int .i64 p0.fFall, .int .i64 p0.fUp, .int .i64 p0.fDown, .slice A0_4 p0.fLooks.length c0_4]] go_70 rfl (fun W2 hW2 => fire_agree_ok p0 y9 hy10 W2 A0_4 p0.fLooks.length c0_4 rfl ((RdL.arg hr0_4) W2 hW2)) rfl) ?_
        refine ox_y rfl (y_not rfl) ?_
        refine ox_nil ?_
        refine ex_then ?_
        rcases ite_some h with ⟨hp11, h⟩ | ⟨hp11, h⟩
        · refine cx_true (congrArg Value.bool hp11) ?_
          refine cx_seq ?_
          refine cx_region ?_
          refine ox_y rfl (y_assign_bool rfl) ?_
          refine ox_y rfl (y_assign_int rfl) ?_
          refine ox_nil ?_
          refine ex_then ?_
          refine cx_ret ?_
          refine ex_then_ret ?_
          obtain rfl := Option.some.inj h
          exact ex_res2 (.inl rfl) rfl (resV_tmp (v := .bool false) rfl) (resV_tmp (v := .int .i64 9) rfl) (fun W2 hW2 => ⟨rfl, hW2.none⟩)
        · refine cx_false (congrArg Value.bool hp11) ?_
          refine cx_skip ?_
          refine ex_then ?_
          refine cx_seq ?_
          refine cx_seq ?_
          refine cx_region ?_
          refine ox_y rfl (y_move_slice rfl) ?_
          refine ox_y rfl (y_len (us := []) us_50 rfl) ?_
          refine ox_y rfl (y_move_int rfl) ?_
          refine ox_nil ?_
          refine ex_then ?_
          refine cx_block ?_
          obtain ⟨u14, hl47, h⟩ := bind_some h
          refine cx_loop (fun (s : (Bool × Int × Int)) L tm => ∃ (tm0 : Nat → Value), L = [cellsR b1 24 [.int .i64 p0.fRise, .int .i64 p0.fFall, .int .i64 p0.fUp, .int .i64 p0.fDown, .slice A0_4 p0.fLooks.length c0_4]] ∧ tm = (upd (upd (upd (upd (upd (upd (upd (upd (upd (upd tm0 1 (.slice A1_0 p1.length c1_0)) 2 (.slice A2_0 p2.length c2_0)) 3 (.pointer (some ⟨b1, 0, none⟩))) 6 (.bool s.1)) 7 (.int .i64 s.2.1)) 28 (.bool b6)) 31 (.bool (!y9))) 32 (.slice A1_0 p1.length c1_0)) 33 (.int .i64 ((p1.length : Nat) : Int))) 34 (.int .i64 s.2.2))) (fun | (.inl s), e, L, tm => e = .ret ∧ ∃ (tm0 : Nat → Value), L = [cellsR b1 24 [.int .i64 p0.fRise, .int .i64 p0.fFall, .int .i64 p0.fUp, .int .i64 p0.fDown, .slice A0_4 p0.fLooks.length c0_4]] ∧ tm = (upd (upd (upd (upd (upd (upd (upd (upd (upd (upd tm0 1 (.slice A1_0 p1.length c1_0)) 2 (.slice A2_0 p2.length c2_0)) 3 (.pointer (some ⟨b1, 0, none⟩))) 6 (.bool s.1)) 7 (.int .i64 s.2.1)) 28 (.bool b6)) 31 (.bool (!y9))) 32 (.slice A1_0 p1.length c1_0)) 33 (.int .i64 ((p1.length : Nat) : Int))) 34 (.int .i64 s.2.2)) | (.inr s), e, L, tm => e = .exit 0 ∧ ∃ (tm0 : Nat → Value), L = [cellsR b1 24 [.int .i64 p0.fRise, .int .i64 p0.fFall, .int .i64 p0.fUp, .int .i64 p0.fDown, .slice A0_4 p0.fLooks.length c0_4]] ∧ tm = (upd (upd (upd (upd (upd (upd (upd (upd (upd (upd tm0 1 (.slice A1_0 p1.length c1_0)) 2 (.slice A2_0 p2.length c2_0)) 3 (.pointer (some ⟨b1, 0, none⟩))) 6 (.bool s.1)) 7 (.int .i64 s.2.1)) 28 (.bool b6)) 31 (.bool (!y9))) 32 (.slice A1_0 p1.length c1_0)) 33 (.int .i64 ((p1.length : Nat) : Int))) 34 (.int .i64 s.2.2))) hl47 ⟨_, rfl, (keep (keep (keep (keep (keep (keep (keep (keep (keep (keep rfl rfl) rfl) rfl) rfl) rfl) rfl) rfl) rfl) rfl) rfl)⟩ ?_ ?_
          · rintro s13 L tm st ⟨tm0_s13, rfl, rfl⟩ h
            unfold fire_Fits_l1 at h
            refine cx_seq ?_
            refine cx_region ?_
            refine ox_y rfl (y_lss rfl rfl) ?_
            refine ox_nil ?_
            refine ex_then ?_
            refine cx_seq ?_
            rcases ite_some h with ⟨hp15, h⟩ | ⟨hp15, h⟩
            · refine cx_true (congrArg Value.bool hp15) ?_
              refine cx_skip ?_
              refine ex_then ?_
              refine cx_seq ?_
              refine cx_block ?_
              refine cx_seq ?_
              refine cx_region ?_
              refine ox_y rfl (y_move_int rfl) ?_
              obtain ⟨hg16, h⟩ := guardO_some h
              refine ox_y rfl (y_indexR sl_50 (by decide) hg16.1 hg16.2 (RdL.arg hr1_0) (encL_len TSpot_cells_len rfl) rfl rfl) ?_
              refine ox_y rfl (y_loadRN (A := A1_0) (j := (Int.toNat s13.2.2 * 2)) [.int .i64 ((rdL p1 s13.2.2).fFoot), .int .i64 ((rdL p1 s13.2.2).fHour)] ag_26 (Nat.succ_pos _) (RdL.arg hr1_0) rfl (encL_gets TSpot_cells_len hg16.1 (lt_nat hg16.2 rfl))) ?_
              refine ox_alloc ze_26 rfl (fun b17 => ?_)
              refine ox_y rfl (y_assign_int rfl) ?_
              refine ox_n rfl (y_storeN 1 [.int .i64 ((rdL p1 s13.2.2).fFoot), .int .i64 ((rdL p1 s13.2.2).fHour)] sz_26 rfl (Nat.le_of_ble_eq_true rfl) rfl rfl rfl) ?_
              refine ox_nil ?_
              refine ex_then ?_
              refine cx_seq ?_
              refine cx_seq ?_
              refine cx_region ?_
              refine ox_y rfl (y_loadN 0 [.int .i64 p0.fRise, .int .i64 p0.fFall, .int .i64 p0.fUp, .int .i64 p0.fDown, .slice A0_4 p0.fLooks.length c0_4] ag_24 rfl rfl rfl) ?_
              refine ox_y rfl (y_loadN 1 [.int .i64 ((rdL p1 s13.2.2).fFoot), .int .i64 ((rdL p1 s13.2.2).fHour)] ag_26 rfl rfl rfl) ?_
              obtain ⟨y18, hy19, h⟩ := bind_some h
              refine ox_y rfl (y_call [.agg #[.int .i64 p0.fRise, .int .i64 p0.fFall, .int .i64 p0.fUp, .int .i64 p0.fDown, .slice A0_4 p0.fLooks.length c0_4], .agg #[.int .i64 ((rdL p1 s13.2.2).fFoot), .int .i64 ((rdL p1 s13.2.2).fHour)]] go_39 rfl (fun W2 hW2 => fire_ends_ok p0 (TSpot.mk ((rdL p1 s13.2.2).fFoot) ((rdL p1 s13.2.2).fHour)) y18 hy19 W2 A0_4 p0.fLooks.length c0_4 rfl ((RdL.arg hr0_4) W2 hW2)) rfl) ?_
              refine ox_y rfl (y_fieldN [.int .i64 y18.fSpan.fLo, .int .i64 y18.fSpan.fHi, .int .i64 y18.fLow, .int .i64 y18.fHigh] [.int .i64 y18.fSpan.fLo, .int .i64 y18.fSpan.fHi] fd_30_0 ag_28 rfl rfl) ?_
              refine ox_alloc ze_28 rfl (fun b20 => ?_)
              refine ox_n rfl (y_storeN 2 [.int .i64 y18.fSpan.fLo, .int .i64 y18.fSpan.fHi] sz_28 rfl (Nat.le_of_ble_eq_true rfl) rfl rfl rfl) ?_
              refine ox_nil ?_
              refine ex_then ?_
              refine cx_seq ?_
              refine cx_draws 10 mixed (by kernel_rfl) (by kernel_rfl) ?_
              refine qx_y rfl (y_move_slice rfl) ?_
              refine qx_y rfl (y_move_int rfl) ?_
              obtain ⟨hg21, h⟩ := guardO_some h
              refine qx_y rfl (y_indexR sl_39 (by decide) hg21.1 hg21.2 (RdL.arg hr2_0) (encL_len cI_len rfl) rfl rfl) ?_
              refine qx_y rfl (y_loadR1 (A := A2_0) (j := (Int.toNat s13.2.2 * 1)) (v := .int .i64 (rdL p2 s13.2.2)) sc_3 (RdL.arg hr2_0) rfl (encL_get0 cI_len hg21.1 (lt_nat hg21.2 rfl) rfl)) ?_
              refine qx_y rfl (y_fieldAddr fo_28_0 rfl) ?_
              refine qx_y rfl (y_load1 2 (v := .int .i64 y18.fSpan.fLo) sc_3 rfl rfl rfl) ?_
              refine qx_y rfl (y_fieldAddr fo_28_1 rfl) ?_
              refine qx_y rfl (y_load1 2 (v := .int .i64 y18.fSpan.fHi) sc_3 rfl rfl rfl) ?_
              obtain ⟨y22, hy23, h⟩ := bind_some h
              refine qx_y rfl (y_call [.int .i64 (rdL p2 s13.2.2), .int .i64 y18.fSpan.fLo, .int .i64 y18.fSpan.fHi] go_71 rfl (fun W2 hW2 => fire_within_ok (rdL p2 s13.2.2) y18.fSpan.fLo y18.fSpan.fHi y22 hy23 W2 ) rfl) ?_
              refine qx_y rfl (y_not rfl) ?_
              refine qx_nil ?_
              refine ox_nil ?_
              refine ex_then ?_
              rcases ite_some h with ⟨hp24, h⟩ | ⟨hp24, h⟩
              · refine cx_true (congrArg Value.bool hp24) ?_
                refine cx_seq ?_
                refine cx_region ?_
                refine ox_y rfl (y_assign_bool rfl) ?_
                refine ox_y rfl (y_assign_int rfl) ?_
                refine ox_nil ?_
                refine ex_then ?_
                refine cx_ret ?_
                refine ex_then_ret ?_
                refine ex_block_ret ?_
                refine ex_then_ret ?_
                refine ex_take 1 ?_
                obtain rfl := Option.some.inj h
                exact ex_stop ⟨rfl, _, rfl, (keep (keep (keep (keep (keep (keep (keep (keep (keep (keep rfl rfl) rfl) rfl) rfl) rfl) rfl) rfl) rfl) rfl) rfl)⟩
              · refine cx_false (congrArg Value.bool hp24) ?_
                refine cx_skip ?_
                refine ex_then ?_
                refine cx_seq ?_
                refine cx_region ?_
                refine ox_y rfl (y_move_slice rfl) ?_
                refine ox_y rfl (y_len (us := []) us_50 rfl) ?_
                refine ox_y rfl (y_move_int rfl) ?_
                refine ox_nil ?_
                refine ex_then ?_
                refine cx_block ?_
                obtain ⟨u27, hl44, h⟩ := bind_some h
                refine cx_loop (fun (s : (Bool × Int × Int)) L tm => ∃ (tm0 : Nat → Value), L = [cellsR b1 24 [.int .i64 p0.fRise, .int .i64 p0.fFall, .int .i64 p0.fUp, .int .i64 p0.fDown, .slice A0_4 p0.fLooks.length c0_4], cellsR b17 26 [.int .i64 ((rdL p1 s13.2.2).fFoot), .int .i64 ((rdL p1 s13.2.2).fHour)], cellsR b20 28 [.int .i64 y18.fSpan.fLo, .int .i64 y18.fSpan.fHi]] ∧ tm = (upd (upd (upd (upd (upd (upd (upd (upd (upd (upd (upd (upd (upd (upd (upd (upd (upd (upd tm0 1 (.slice A1_0 p1.length c1_0)) 2 (.slice A2_0 p2.length c2_0)) 3 (.pointer (some ⟨b1, 0, none⟩))) 6 (.bool s.1)) 7 (.int .i64 s.2.1)) 28 (.bool b6)) 31 (.bool (!y9))) 32 (.slice A1_0 p1.length c1_0)) 33 (.int .i64 ((p1.length : Nat) : Int))) 34 (.int .i64 s13.2.2)) 35 (.bool (decide (s13.2.2 < ((p1.length : Nat) : Int))))) 10 (.pointer (some ⟨b17, 0, none⟩))) 9 (.int .i64 s13.2.2)) 11 (.pointer (some ⟨b20, 0, none⟩))) 52 (.bool (!y22))) 53 (.slice A1_0 p1.length c1_0)) 54 (.int .i64 ((p1.length : Nat) : Int))) 55 (.int .i64 s.2.2))) (fun | (.inl s), e, L, tm => e = .ret ∧ ∃ (tm0 : Nat → Value), L = [cellsR b1 24 [.int .i64 p0.fRise, .int .i64 p0.fFall, .int .i64 p0.fUp, .int .i64 p0.fDown, .slice A0_4 p0.fLooks.length c0_4], cellsR b17 26 [.int .i64 ((rdL p1 s13.2.2).fFoot), .int .i64 ((rdL p1 s13.2.2).fHour)], cellsR b20 28 [.int .i64 y18.fSpan.fLo, .int .i64 y18.fSpan.fHi]] ∧ tm = (upd (upd (upd (upd (upd (upd (upd (upd (upd (upd (upd (upd (upd (upd (upd (upd (upd (upd tm0 1 (.slice A1_0 p1.length c1_0)) 2 (.slice A2_0 p2.length c2_0)) 3 (.pointer (some ⟨b1, 0, none⟩))) 6 (.bool s.1)) 7 (.int .i64 s.2.1)) 28 (.bool b6)) 31 (.bool (!y9))) 32 (.slice A1_0 p1.length c1_0)) 33 (.int .i64 ((p1.length : Nat) : Int))) 34 (.int .i64 s13.2.2)) 35 (.bool (decide (s13.2.2 < ((p1.length : Nat) : Int))))) 10 (.pointer (some ⟨b17, 0, none⟩))) 9 (.int .i64 s13.2.2)) 11 (.pointer (some ⟨b20, 0, none⟩))) 52 (.bool (!y22))) 53 (.slice A1_0 p1.length c1_0)) 54 (.int .i64 ((p1.length : Nat) : Int))) 55 (.int .i64 s.2.2)) | (.inr s), e, L, tm => e = .exit 2 ∧ ∃ (tm0 : Nat → Value), L = [cellsR b1 24 [.int .i64 p0.fRise, .int .i64 p0.fFall, .int .i64 p0.fUp, .int .i64 p0.fDown, .slice A0_4 p0.fLooks.length c0_4], cellsR b17 26 [.int .i64 ((rdL p1 s13.2.2).fFoot), .int .i64 ((rdL p1 s13.2.2).fHour)], cellsR b20 28 [.int .i64 y18.fSpan.fLo, .int .i64 y18.fSpan.fHi]] ∧ tm = (upd (upd (upd (upd (upd (upd (upd (upd (upd (upd (upd (upd (upd (upd (upd (upd (upd (upd tm0 1 (.slice A1_0 p1.length c1_0)) 2 (.slice A2_0 p2.length c2_0)) 3 (.pointer (some ⟨b1, 0, none⟩))) 6 (.bool s.1)) 7 (.int .i64 s.2.1)) 28 (.bool b6)) 31 (.bool (!y9))) 32 (.slice A1_0 p1.length c1_0)) 33 (.int .i64 ((p1.length : Nat) : Int))) 34 (.int .i64 s13.2.2)) 35 (.bool (decide (s13.2.2 < ((p1.length : Nat) : Int))))) 10 (.pointer (some ⟨b17, 0, none⟩))) 9 (.int .i64 s13.2.2)) 11 (.pointer (some ⟨b20, 0, none⟩))) 52 (.bool (!y22))) 53 (.slice A1_0 p1.length c1_0)) 54 (.int .i64 ((p1.length : Nat) : Int))) 55 (.int .i64 s.2.2))) hl44 ⟨_, rfl, (keep (keep (keep (keep (keep (keep (keep (keep (keep (keep (keep (keep (keep (keep (keep (keep (keep (keep rfl rfl) rfl) rfl) rfl) rfl) rfl) rfl) rfl) rfl) rfl) rfl) rfl) rfl) rfl) rfl) rfl) rfl) rfl)⟩ ?_ ?_
                · rintro s26 L tm st ⟨tm0_s26, rfl, rfl⟩ h
                  unfold fire_Fits_l2 at h
                  refine cx_seq ?_
                  refine cx_region ?_
                  refine ox_y rfl (y_lss rfl rfl) ?_
                  refine ox_nil ?_
                  refine ex_then ?_
                  refine cx_seq ?_
                  rcases ite_some h with ⟨hp28, h⟩ | ⟨hp28, h⟩
                  · refine cx_true (congrArg Value.bool hp28) ?_
                    refine cx_skip ?_
                    refine ex_then ?_
                    refine cx_seq ?_
                    refine cx_block ?_
                    refine cx_seq ?_
                    refine cx_region ?_
                    refine ox_y rfl (y_move_int rfl) ?_
                    obtain ⟨hg29, h⟩ := guardO_some h
                    refine ox_y rfl (y_indexR sl_50 (by decide) hg29.1 hg29.2 (RdL.arg hr1_0) (encL_len TSpot_cells_len rfl) rfl rfl) ?_
                    refine ox_y rfl (y_loadRN (A := A1_0) (j := (Int.toNat s26.2.2 * 2)) [.int .i64 ((rdL p1 s26.2.2).fFoot), .int .i64 ((rdL p1 s26.2.2).fHour)] ag_26 (Nat.succ_pos _) (RdL.arg hr1_0) rfl (encL_gets TSpot_cells_len hg29.1 (lt_nat hg29.2 rfl))) ?_
                    refine ox_alloc ze_26 rfl (fun b30 => ?_)
                    refine ox_y rfl (y_assign_int rfl) ?_
                    refine ox_n rfl (y_storeN 3 [.int .i64 ((rdL p1 s26.2.2).fFoot), .int .i64 ((rdL p1 s26.2.2).fHour)] sz_26 rfl (Nat.le_of_ble_eq_true rfl) rfl rfl rfl) ?_
                    refine ox_nil ?_
                    refine ex_then ?_
                    refine cx_seq ?_
                    refine cx_draws 30 mixed (by kernel_rfl) (by kernel_rfl) ?_
                    refine qx_y rfl (y_move_slice rfl) ?_
                    refine qx_y rfl (y_move_int rfl) ?_
                    obtain ⟨hg31, h⟩ := guardO_some h
                    refine qx_y rfl (y_indexR sl_39 (by decide) hg31.1 hg31.2 (RdL.arg hr2_0) (encL_len cI_len rfl) rfl rfl) ?_
                    refine qx_y rfl (y_loadR1 (A := A2_0) (j := (Int.toNat s26.2.2 * 1)) (v := .int .i64 (rdL p2 s26.2.2)) sc_3 (RdL.arg hr2_0) rfl (encL_get0 cI_len hg31.1 (lt_nat hg31.2 rfl) rfl)) ?_
                    refine qx_y rfl (y_move_slice rfl) ?_
                    refine qx_y rfl (y_move_int rfl) ?_
                    obtain ⟨hg32, h⟩ := guardO_some h
                    refine qx_y rfl (y_indexR sl_39 (by decide) hg32.1 hg32.2 (RdL.arg hr2_0) (encL_len cI_len rfl) rfl rfl) ?_
                    refine qx_y rfl (y_loadR1 (A := A2_0) (j := (Int.toNat s13.2.2 * 1)) (v := .int .i64 (rdL p2 s13.2.2)) sc_3 (RdL.arg hr2_0) rfl (encL_get0 cI_len hg32.1 (lt_nat hg32.2 rfl) rfl)) ?_
                    refine qx_y rfl (y_loadN 0 [.int .i64 p0.fRise, .int .i64 p0.fFall, .int .i64 p0.fUp, .int .i64 p0.fDown, .slice A0_4 p0.fLooks.length c0_4] ag_24 rfl rfl rfl) ?_
                    refine qx_y rfl (y_loadN 1 [.int .i64 ((rdL p1 s13.2.2).fFoot), .int .i64 ((rdL p1 s13.2.2).fHour)] ag_26 rfl rfl rfl) ?_
                    refine qx_y rfl (y_loadN 3 [.int .i64 ((rdL p1 s26.2.2).fFoot), .int .i64 ((rdL p1 s26.2.2).fHour)] ag_26 rfl rfl rfl) ?_
                    obtain ⟨y33, hy34, h⟩ := bind_some h
                    refine qx_y rfl (y_call [.agg #[.int .i64 p0.fRise, .int .i64 p0.fFall, .int .i64 p0.fUp, .int .i64 p0.fDown, .slice A0_4 p0.fLooks.length c0_4], .agg #[.int .i64 ((rdL p1 s13.2.2).fFoot), .int .i64 ((rdL p1 s13.2.2).fHour)], .agg #[.int .i64 ((rdL p1 s26.2.2).fFoot), .int .i64 ((rdL p1 s26.2.2).fHour)]] go_63 rfl (fun W2 hW2 => fire_far_ok p0 (TSpot.mk ((rdL p1 s13.2.2).fFoot) ((rdL p1 s13.2.2).fHour)) (TSpot.mk ((rdL p1 s26.2.2).fFoot) ((rdL p1 s26.2.2).fHour)) y33 hy34 W2 A0_4 p0.fLooks.length c0_4 rfl ((RdL.arg hr0_4) W2 hW2)) rfl) ?_
                    refine qx_y rfl (y_add rfl rfl) ?_
                    refine qx_y rfl (y_gtr rfl rfl) ?_
                    refine qx_y rfl (y_move_bool rfl) ?_
                    obtain ⟨b36, hb37, h⟩ := bind_some h
                    refine qx_join 15 (fun tm0 => (upd (upd (upd (upd (upd (upd (upd (upd (upd (upd (upd (upd (upd (upd (upd (upd (upd (upd (upd (upd (upd (upd tm0 1 (.slice A1_0 p1.length c1_0)) 2 (.slice A2_0 p2.length c2_0)) 3 (.pointer (some ⟨b1, 0, none⟩))) 6 (.bool s26.1)) 7 (.int .i64 s26.2.1)) 28 (.bool b6)) 31 (.bool (!y9))) 32 (.slice A1_0 p1.length c1_0)) 33 (.int .i64 ((p1.length : Nat) : Int))) 34 (.int .i64 s13.2.2)) 35 (.bool (decide (s13.2.2 < ((p1.length : Nat) : Int))))) 10 (.pointer (some ⟨b17, 0, none⟩))) 9 (.int .i64 s13.2.2)) 11 (.pointer (some ⟨b20, 0, none⟩))) 52 (.bool (!y22))) 53 (.slice A1_0 p1.length c1_0)) 54 (.int .i64 ((p1.length : Nat) : Int))) 55 (.int .i64 s26.2.2)) 56 (.bool (decide (s26.2.2 < ((p1.length : Nat) : Int))))) 13 (.pointer (some ⟨b30, 0, none⟩))) 12 (.int .i64 s26.2.2)) 89 (.bool b36))) (fun tm0 => ?_) (fun key => ?_)
                    · refine qx_nil ?_
                      refine ox_nil ?_
                      refine ex_then ?_
                      rcases ite_some h with ⟨hp38, h⟩ | ⟨hp38, h⟩
                      · refine cx_true (congrArg Value.bool hp38) ?_
                        refine cx_seq ?_
                        refine cx_region ?_
                        refine ox_y rfl (y_assign_bool rfl) ?_
                        refine ox_y rfl (y_assign_int rfl) ?_
                        refine ox_nil ?_
                        refine ex_then ?_
                        refine cx_ret ?_
                        refine ex_block_ret ?_
                        refine ex_then_ret ?_
                        refine ex_take 3 ?_
                        obtain rfl := Option.some.inj h
                        exact ex_stop ⟨rfl, _, rfl, (keep (keep (keep (keep (keep (keep (keep (keep (keep (keep (keep (keep (keep (keep (keep (keep (keep (keep rfl rfl) rfl) rfl) rfl) rfl) rfl) rfl) rfl) rfl) rfl) rfl) rfl) rfl) rfl) rfl) rfl) rfl) rfl)⟩
                      · refine cx_false (congrArg Value.bool hp38) ?_
                        refine cx_skip ?_
                        refine ex_block ?_
                        refine ex_then ?_
                        refine cx_region ?_
                        refine ox_y rfl (y_add rfl rfl) ?_
                        refine ox_y rfl (y_move_int rfl) ?_
                        refine ox_nil ?_
                        refine ex_take 3 ?_
                        obtain rfl := Option.some.inj h
                        exact ex_next ⟨_, rfl, (keep (keep (keep (keep (keep (keep (keep (keep (keep (keep (keep (keep (keep (keep (keep (keep (keep (keep rfl rfl) rfl) rfl) rfl) rfl) rfl) rfl) rfl) rfl) rfl) rfl) rfl) rfl) rfl) rfl) rfl) rfl) rfl)⟩
                    · clear h; rcases ite_some hb37 with ⟨hp35, h⟩ | ⟨hp35, h⟩
                      · refine qx_skip (sees_f rfl rfl rfl rfl hp35) ?_
                        refine qx_skip (sees_f rfl rfl rfl rfl hp35) ?_
                        refine qx_skip (sees_f rfl rfl rfl rfl hp35) ?_
                        refine qx_skip (sees_f rfl rfl rfl rfl hp35) ?_
                        refine qx_skip rfl ?_
                        refine qx_skip rfl ?_
                        refine qx_skip rfl ?_
                        refine qx_skip rfl ?_
                        refine qx_skip rfl ?_
                        refine qx_skip rfl ?_
                        refine qx_skip rfl ?_
                        refine qx_skip rfl ?_
                        refine qx_skip rfl ?_
                        refine qx_skip (sees_f rfl rfl rfl rfl hp35) ?_
                        refine qx_y rfl (y_pick_tb (congrArg Value.bool hp35) rfl) ?_
                        obtain rfl := Option.some.inj h
                        exact key _ _ (keep (keep (keep (keep (keep (keep (keep (keep (keep (keep (keep (keep (keep (keep (keep (keep (keep (keep (keep (keep (keep (keep rfl rfl) rfl) rfl) rfl) rfl) rfl) rfl) rfl) rfl) rfl) rfl) rfl) rfl) rfl) rfl) rfl) rfl) rfl) rfl) rfl) rfl) rfl)
                      · refine qx_y (sees_t rfl rfl rfl rfl hp35) (y_loadN 1 [.int .i64 ((rdL p1 s13.2.2).fFoot), .int .i64 ((rdL p1 s13.2.2).fHour)] ag_26 rfl rfl rfl) ?_
                        refine qx_y (sees_t rfl rfl rfl rfl hp35) (y_loadN 3 [.int .i64 ((rdL p1 s26.2.2).fFoot), .int .i64 ((rdL p1 s26.2.2).fHour)] ag_26 rfl rfl rfl) ?_
                        refine qx_y (sees_t rfl rfl rfl rfl hp35) (y_eqla (b := (((rdL p1 s13.2.2).fFoot == (rdL p1 s26.2.2).fFoot) && ((rdL p1 s13.2.2).fHour == (rdL p1 s26.2.2).fHour))) eg_26 rfl rfl (fun _ => (eqS2 fl_26 (part1 sc_3 rfl) (part1 sc_3 rfl) (part1 sc_3 rfl) (part1 sc_3 rfl) (run_equalIn_int _ _ _ _ _ _ _ ui_3) (run_equalIn_int _ _ _ _ _ _ _ ui_3)))) ?_
                        refine qx_y (sees_t rfl rfl rfl rfl hp35) (y_move_bool rfl) ?_
                        obtain ⟨b40, hb41, h⟩ := bind_some h
                        refine qx_join 10 (fun tm0 => (upd (upd (upd (upd (upd (upd (upd (upd (upd (upd (upd (upd (upd (upd (upd (upd (upd (upd (upd (upd (upd (upd (upd tm0 1 (.slice A1_0 p1.length c1_0)) 2 (.slice A2_0 p2.length c2_0)) 3 (.pointer (some ⟨b1, 0, none⟩))) 6 (.bool s26.1)) 7 (.int .i64 s26.2.1)) 28 (.bool b6)) 31 (.bool (!y9))) 32 (.slice A1_0 p1.length c1_0)) 33 (.int .i64 ((p1.length : Nat) : Int))) 34 (.int .i64 s13.2.2)) 35 (.bool (decide (s13.2.2 < ((p1.length : Nat) : Int))))) 10 (.pointer (some ⟨b17, 0, none⟩))) 9 (.int .i64 s13.2.2)) 11 (.pointer (some ⟨b20, 0, none⟩))) 52 (.bool (!y22))) 53 (.slice A1_0 p1.length c1_0)) 54 (.int .i64 ((p1.length : Nat) : Int))) 55 (.int .i64 s26.2.2)) 56 (.bool (decide (s26.2.2 < ((p1.length : Nat) : Int))))) 13 (.pointer (some ⟨b30, 0, none⟩))) 12 (.int .i64 s26.2.2)) 74 (.bool (decide (w64 ((rdL p2 s13.2.2) + y33) < (rdL p2 s26.2.2))))) 88 (.bool b40))) (fun tm0 => ?_) (fun key => ?_)
                        · refine qx_y rfl (y_pick_fb (congrArg Value.bool hp35) rfl) ?_
                          obtain rfl := Option.some.inj h
                          exact key _ _ (keep (keep (keep (keep (keep (keep (keep (keep (keep (keep (keep (keep (keep (keep (keep (keep (keep (keep (keep (keep (keep (keep rfl rfl) rfl) rfl) rfl) rfl) rfl) rfl) rfl) rfl) rfl) rfl) rfl) rfl) rfl) rfl) rfl) rfl) rfl) rfl) rfl) rfl) rfl)
                        · clear h; rcases ite_some hb41 with ⟨hp39, h⟩ | ⟨hp39, h⟩
                          · refine qx_y (sees_t rfl rfl rfl rfl hp39) (y_move_slice rfl) ?_
                            refine qx_y (sees_t rfl rfl rfl rfl hp39) (y_move_int rfl) ?_
                            obtain ⟨hg42, h⟩ := guardO_some h
                            refine qx_y (sees_t rfl rfl rfl rfl hp39) (y_indexR sl_39 (by decide) hg42.1 hg42.2 (RdL.arg hr2_0) (encL_len cI_len rfl) rfl rfl) ?_
                            refine qx_y (sees_t rfl rfl rfl rfl hp39) (y_loadR1 (A := A2_0) (j := (Int.toNat s13.2.2 * 1)) (v := .int .i64 (rdL p2 s13.2.2)) sc_3 (RdL.arg hr2_0) rfl (encL_get0 cI_len hg42.1 (lt_nat hg42.2 rfl) rfl)) ?_
                            refine qx_y (sees_t rfl rfl rfl rfl hp39) (y_move_slice rfl) ?_
                            refine qx_y (sees_t rfl rfl rfl rfl hp39) (y_move_int rfl) ?_
                            obtain ⟨hg43, h⟩ := guardO_some h
                            refine qx_y (sees_t rfl rfl rfl rfl hp39) (y_indexR sl_39 (by decide) hg43.1 hg43.2 (RdL.arg hr2_0) (encL_len cI_len rfl) rfl rfl) ?_
                            refine qx_y (sees_t rfl rfl rfl rfl hp39) (y_loadR1 (A := A2_0) (j := (Int.toNat s26.2.2 * 1)) (v := .int .i64 (rdL p2 s26.2.2)) sc_3 (RdL.arg hr2_0) rfl (encL_get0 cI_len hg43.1 (lt_nat hg43.2 rfl) rfl)) ?_
                            refine qx_y (sees_t rfl rfl rfl rfl hp39) (y_neq rfl rfl) ?_
                            refine qx_y (sees_t rfl rfl rfl rfl hp35) (y_pick_tb (congrArg Value.bool hp39) rfl) ?_
                            obtain rfl := Option.some.inj h
                            exact key _ _ (keep (keep (keep (keep (keep (keep (keep (keep (keep (keep (keep (keep (keep (keep (keep (keep (keep (keep (keep (keep (keep (keep (keep rfl rfl) rfl) rfl) rfl) rfl) rfl) rfl) rfl) rfl) rfl) rfl) rfl) rfl) rfl) rfl) rfl) rfl) rfl) rfl) rfl) rfl) rfl) rfl)
                          · refine qx_skip (sees_f rfl rfl rfl rfl hp39) ?_
                            refine qx_skip (sees_f rfl rfl rfl rfl hp39) ?_
                            refine qx_skip (sees_f rfl rfl rfl rfl hp39) ?_
                            refine qx_skip (sees_f rfl rfl rfl rfl hp39) ?_
                            refine qx_skip (sees_f rfl rfl rfl rfl hp39) ?_
                            refine qx_skip (sees_f rfl rfl rfl rfl hp39) ?_
                            refine qx_skip (sees_f rfl rfl rfl rfl hp39) ?_
                            refine qx_skip (sees_f rfl rfl rfl rfl hp39) ?_
                            refine qx_skip (sees_f rfl rfl rfl rfl hp39) ?_
                            refine qx_y (sees_t rfl rfl rfl rfl hp35) (y_pick_fb (congrArg Value.bool hp39) rfl) ?_
                            obtain rfl := Option.some.inj h
                            exact key _ _ (keep (keep (keep (keep (keep (keep (keep (keep (keep (keep (keep (keep (keep (keep (keep (keep (keep (keep (keep (keep (keep (keep (keep rfl rfl) rfl) rfl) rfl) rfl) rfl) rfl) rfl) rfl) rfl) rfl) rfl) rfl) rfl) rfl) rfl) rfl) rfl) rfl) rfl) rfl) rfl) rfl)
                  · refine cx_false (congrArg Value.bool hp28) ?_
                    refine cx_exit ?_
                    refine ex_then_exit ?_
                    obtain rfl := Option.some.inj h
                    exact ex_stop ⟨rfl, _, rfl, (keep (keep (keep (keep (keep (keep (keep (keep (keep (keep (keep (keep (keep (keep (keep (keep (keep (keep rfl rfl) rfl) rfl) rfl) rfl) rfl) rfl) rfl) rfl) rfl) rfl) rfl) rfl) rfl) rfl) rfl) rfl) rfl)⟩
                · intro e L tm hJ
                  rcases u27 with u45 | u46
                  · dsimp only at h hJ
                    obtain ⟨rfl, tm0_u45, rfl, rfl⟩ := hJ
                    refine ⟨(by intro hc; cases hc), ?_⟩
                    refine ex_block_ret ?_
                    refine ex_block_ret ?_
                    refine ex_then_ret ?_
                    refine ex_take 1 ?_
                    obtain rfl := Option.some.inj h
                    exact ex_stop ⟨rfl, _, rfl, (keep (keep (keep (keep (keep (keep (keep (keep (keep (keep rfl rfl) rfl) rfl) rfl) rfl) rfl) rfl) rfl) rfl) rfl)⟩
                  · dsimp only at h hJ
                    obtain ⟨rfl, tm0_u46, rfl, rfl⟩ := hJ
                    refine ⟨(by intro hc; cases hc), ?_⟩
                    refine ex_block_here ?_
                    refine ex_block ?_
                    refine ex_then ?_
                    refine cx_region ?_
                    refine ox_y rfl (y_add rfl rfl) ?_
                    refine ox_y rfl (y_move_int rfl) ?_
                    refine ox_nil ?_
                    refine ex_take 1 ?_
                    obtain rfl := Option.some.inj h
                    exact ex_next ⟨_, rfl, (keep (keep (keep (keep (keep (keep (keep (keep (keep (keep rfl rfl) rfl) rfl) rfl) rfl) rfl) rfl) rfl) rfl) rfl)⟩
            · refine cx_false (congrArg Value.bool hp15) ?_
              refine cx_exit ?_
              refine ex_then_exit ?_
              obtain rfl := Option.some.inj h
              exact ex_stop ⟨rfl, _, rfl, (keep (keep (keep (keep (keep (keep (keep (keep (keep (keep rfl rfl) rfl) rfl) rfl) rfl) rfl) rfl) rfl) rfl) rfl)⟩
          · intro e L tm hJ
            rcases u14 with u48 | u49
            · dsimp only at h hJ
              obtain ⟨rfl, tm0_u48, rfl, rfl⟩ := hJ
              refine ⟨(by intro hc; cases hc), ?_⟩
              refine ex_block_ret ?_
              refine ex_then_ret ?_
              obtain rfl := Option.some.inj h
              exact ex_res2 (.inl rfl) rfl (resV_tmp (v := .bool u48.1) rfl) (resV_tmp (v := .int .i64 u48.2.1) rfl) (fun W2 hW2 => ⟨rfl, hW2.none⟩)
            · dsimp only at h hJ
              obtain ⟨rfl, tm0_u49, rfl, rfl⟩ := hJ
              refine ⟨(by intro hc; cases hc), ?_⟩
              refine ex_block_here ?_
              refine ex_then ?_
              refine cx_seq ?_
              refine cx_region ?_
              refine ox_y rfl (y_assign_bool rfl) ?_
              refine ox_y rfl (y_assign_int rfl) ?_
              refine ox_nil ?_
              refine ex_then ?_
              refine cx_ret ?_
              obtain rfl := Option.some.inj h
              exact ex_res2 (.inl rfl) rfl (resV_tmp (v := .bool true) rfl) (resV_tmp (v := .int .i64 0) rfl) (fun W2 hW2 => ⟨rfl, hW2.none⟩)
    · clear h; rcases ite_some hb7 with ⟨hp5, h⟩ | ⟨hp5, h⟩
      · refine ox_skip (sees_f rfl rfl rfl rfl hp5) ?_
        refine ox_skip (sees_f rfl rfl rfl rfl hp5) ?_
        refine ox_y rfl (y_pick_tb (congrArg Value.bool hp5) rfl) ?_
        obtain rfl := Option.some.inj h
        exact key _ _ (keep (keep (keep (keep (keep (keep rfl rfl) rfl) rfl) rfl) rfl) rfl)
      · refine ox_y (sees_t rfl rfl rfl rfl hp5) (y_move_slice rfl) ?_
        obtain ⟨y51, hy52, h⟩ := bind_some h
        refine ox_y (sees_t rfl rfl rfl rfl hp5) (y_call [.slice A2_0 p2.length c2_0, .func (.func 69) #[] #[]] go_68 rfl (fun W2 hW2 => slices_ContainsFunc_int_int_ok p2 (fun x50 => fire_Fits_1 x50) y51 hy52 W2 A2_0 p2.length c2_0 rfl ((RdL.arg hr2_0) W2 hW2) 69 [] go_69 (fun W3 hb x y hxy => fire_Fits_1_ok x  y hxy W3 )) rfl) ?_
        refine ox_y rfl (y_pick_fb (congrArg Value.bool hp5) rfl) ?_
        obtain rfl := Option.some.inj h
        exact key _ _ (keep (keep (keep (keep (keep (keep rfl rfl) rfl) rfl) rfl) rfl) rfl)

/-! calx/calxref02.Fits -/
set_option maxRecDepth 100000 in
theorem calxref02_Fits_ok (p0 : TFire) (p1 : (List TSpot)) (p2 : (List Int)) (res : (Bool × Int)) (h : calxref02_Fits p0 p1 p2 = some res) (W : World) (A0_4 : Option Addr) (n0_4 c0_4 : Nat) (hn0_4 : n0_4 = p0.fLooks.length) (hr0_4 : Rd W A0_4 n0_4 c0_4 (encL TLook_cells p0.fLooks)) (A1_0 : Option Addr) (n1_0 c1_0 : Nat) (hn1_0 : n1_0 = p1.length) (hr1_0 : Rd W A1_0 n1_0 c1_0 (encL TSpot_cells p1)) (A2_0 : Option Addr) (n2_0 c2_0 : Nat) (hn2_0 : n2_0 = p2.length) (hr2_0 : Rd W A2_0 n2_0 c2_0 (encL cI p2)) :
    Calls Tryz.prog 27 [.agg #[.int .i64 p0.fRise, .int .i64 p0.fFall, .int .i64 p0.fUp, .int .i64 p0.fDown, .slice A0_4 n0_4 c0_4], .slice A1_0 n1_0 c1_0, .slice A2_0 n2_0 c2_0].toArray W fun e W2 => e = .returned (.tuple #[.bool res.1, .int .i64 res.2]) ∧ Ext W W2 [] := by
  subst hn0_4
  subst hn1_0
  subst hn2_0
  unfold calxref02_Fits at h
  refine calls_enter (m := 102) Tryz.func27 rfl rfl (Nat.le_of_ble_eq_true rfl) ?_
  refine cx_seq ?_
  refine cx_region ?_
  refine ox_box [.int .i64 p0.fRise, .int .i64 p0.fFall, .int .i64 p0.fUp, .int .i64 p0.fDown, .slice A0_4 p0.fLooks.length c0_4] rfl rfl rfl (fun b1 => ?_)
  refine ox_y rfl (y_assign_bool rfl) ?_
  refine ox_y rfl (y_assign_int rfl) ?_
  refine ox_nil ?_
  refine ex_then ?_
  refine cx_seq ?_
  refine cx_region ?_
  refine ox_y rfl (y_loadN 0 [.int .i64 p0.fRise, .int .i64 p0.fFall, .int .i64 p0.fUp, .int .i64 p0.fDown, .slice A0_4 p0.fLooks.length c0_4] ag_24 rfl rfl rfl) ?_
  obtain ⟨y2, hy3, h⟩ := bind_some h
  refine ox_y rfl (y_call [.agg #[.int .i64 p0.fRise, .int .i64 p0.fFall, .int .i64 p0.fUp, .int .i64 p0.fDown, .slice A0_4 p0.fLooks.length c0_4]] go_55 rfl (fun W2 hW2 => calxref02_Check_ok p0 y2 hy3 W2 A0_4 p0.fLooks.length c0_4 rfl ((RdL.arg hr0_4) W2 hW2)) rfl) ?_
  refine ox_y rfl (y_assign_int rfl) ?_
  refine ox_nil ?_
  refine ex_then ?_
  refine cx_seq ?_
  refine cx_seq ?_
  refine cx_region ?_
  refine ox_y rfl (y_move_int rfl) ?_
  refine ox_y rfl (y_neq rfl rfl) ?_
  refine ox_nil ?_
  refine ex_then ?_
  rcases ite_some h with ⟨hp4, h⟩ | ⟨hp4, h⟩
  · refine cx_true (congrArg Value.bool hp4) ?_
    refine cx_seq ?_
    refine cx_region ?_
    refine ox_y rfl (y_move_int rfl) ?_
    refine ox_y rfl (y_assign_bool rfl) ?_
    refine ox_y rfl (y_assign_int rfl) ?_
    refine ox_nil ?_
    refine ex_then ?_
    refine cx_ret ?_
    refine ex_then_ret ?_
    obtain rfl := Option.some.inj h
    exact ex_res2 (.inl rfl) rfl (resV_tmp (v := .bool false) rfl) (resV_tmp (v := .int .i64 y2) rfl) (fun W2 hW2 => ⟨rfl, hW2.none⟩)
  · refine cx_false (congrArg Value.bool hp4) ?_
    refine cx_skip ?_
    refine ex_then ?_
    refine cx_seq ?_
    refine cx_region ?_
    refine ox_y rfl (y_move_slice rfl) ?_
    obtain ⟨y5, hy6, h⟩ := bind_some h
    refine ox_y rfl (y_call [.slice A1_0 p1.length c1_0] go_72 rfl (fun W2 hW2 => calxref02_spots_ok p1 y5 hy6 W2 A1_0 p1.length c1_0 rfl ((RdL.arg hr1_0) W2 hW2)) rfl) ?_
    refine ox_y rfl (y_assign_int rfl) ?_
    refine ox_nil ?_
    refine ex_then ?_
    refine cx_seq ?_
    refine cx_seq ?_
    refine cx_region ?_
    refine ox_y rfl (y_move_int rfl) ?_
    refine ox_y rfl (y_neq rfl rfl) ?_
    refine ox_nil ?_
    refine ex_then ?_
    rcases ite_some h with ⟨hp7, h⟩ | ⟨hp7, h⟩
    · refine cx_true (congrArg Value.bool hp7) ?_
      refine cx_seq ?_
      refine cx_region ?_
      refine ox_y rfl (y_move_int rfl) ?_
      refine ox_y rfl (y_assign_bool rfl) ?_
      refine ox_y rfl (y_assign_int rfl) ?_
      refine ox_nil ?_
      refine ex_then ?_
      refine cx_ret ?_
      refine ex_then_ret ?_
      obtain rfl := Option.some.inj h
      exact ex_res2 (.inl rfl) rfl (resV_tmp (v := .bool false) rfl) (resV_tmp (v := .int .i64 y5) rfl) (fun W2 hW2 => ⟨rfl, hW2.none⟩)
    · refine cx_false (congrArg Value.bool hp7) ?_
      refine cx_skip ?_
      refine ex_then ?_
      refine cx_seq ?_
      refine cx_seq ?_
      refine cx_region ?_
      refine ox_y rfl (y_move_slice rfl) ?_
      refine ox_y rfl (y_len (us := []) us_39 rfl) ?_
      refine ox_y rfl (y_move_slice rfl) ?_
      refine ox_y rfl (y_len (us := []) us_50 rfl) ?_
      refine ox_y rfl (y_neq rfl rfl) ?_
      refine ox_nil ?_
      refine ex_then ?_
      rcases ite_some h with ⟨hp8, h⟩ | ⟨hp8, h⟩
      · refine cx_true (congrArg Value.bool hp8) ?_
        refine cx_seq ?_
        refine cx_region ?_
        refine ox_y rfl (y_assign_bool rfl) ?_
        refine ox_y rfl (y_assign_int rfl) ?_
        refine ox_nil ?_
        refine ex_then ?_
        refine cx_ret ?_
        refine ex_then_ret ?_
        obtain rfl := Option.some.inj h
        exact ex_res2 (.inl rfl) rfl (resV_tmp (v := .bool false) rfl) (resV_tmp (v := .int .i64 1) rfl) (fun W2 hW2 => ⟨rfl, hW2.none⟩)
      · refine cx_false (congrArg Value.bool hp8) ?_
        refine cx_skip ?_
        refine ex_then ?_
        refine cx_seq ?_
        refine cx_seq ?_
        refine cx_region ?_
        refine ox_y rfl (y_assign_int rfl) ?_
        refine ox_nil ?_
        refine ex_then ?_
        refine cx_block ?_
        obtain ⟨u11, hl17, h⟩ := bind_some h
        refine cx_loop (fun (s : (Bool × Int × Int)) L tm => ∃ (tm0 : Nat → Value), L = [cellsR b1 24 [.int .i64 p0.fRise, .int .i64 p0.fFall, .int .i64 p0.fUp, .int .i64 p0.fDown, .slice A0_4 p0.fLooks.length c0_4]] ∧ tm = (upd (upd (upd (upd (upd (upd (upd (upd (upd (upd (upd (upd tm0 0 (.agg #[.int .i64 p0.fRise, .int .i64 p0.fFall, .int .i64 p0.fUp, .int .i64 p0.fDown, .slice A0_4 p0.fLooks.length c0_4])) 1 (.slice A1_0 p1.length c1_0)) 2 (.slice A2_0 p2.length c2_0)) 3 (.pointer (some ⟨b1, 0, none⟩))) 6 (.bool s.1)) 7 (.int .i64 s.2.1)) 8 (.int .i64 y2)) 19 (.bool (y2 != 0))) 9 (.int .i64 y5)) 24 (.bool (y5 != 0))) 30 (.bool (((p2.length : Nat) : Int) != ((p1.length : Nat) : Int)))) 10 (.int .i64 s.2.2))) (fun | (.inl s), e, L, tm => e = .ret ∧ ∃ (tm0 : Nat → Value), L = [cellsR b1 24 [.int .i64 p0.fRise, .int .i64 p0.fFall, .int .i64 p0.fUp, .int .i64 p0.fDown, .slice A0_4 p0.fLooks.length c0_4]] ∧ tm = (upd (upd (upd (upd (upd (upd (upd (upd (upd (upd (upd (upd tm0 0 (.agg #[.int .i64 p0.fRise, .int .i64 p0.fFall, .int .i64 p0.fUp, .int .i64 p0.fDown, .slice A0_4 p0.fLooks.length c0_4])) 1 (.slice A1_0 p1.length c1_0)) 2 (.slice A2_0 p2.length c2_0)) 3 (.pointer (some ⟨b1, 0, none⟩))) 6 (.bool s.1)) 7 (.int .i64 s.2.1)) 8 (.int .i64 y2)) 19 (.bool (y2 != 0))) 9 (.int .i64 y5)) 24 (.bool (y5 != 0))) 30 (.bool (((p2.length : Nat) : Int) != ((p1.length : Nat) : Int)))) 10 (.int .i64 s.2.2)) | (.inr s), e, L, tm => e = .exit 0 ∧ ∃ (tm0 : Nat → Value), L = [cellsR b1 24 [.int .i64 p0.fRise, .int .i64 p0.fFall, .int .i64 p0.fUp, .int .i64 p0.fDown, .slice A0_4 p0.fLooks.length c0_4]] ∧ tm = (upd (upd (upd (upd (upd (upd (upd (upd (upd (upd (upd (upd tm0 0 (.agg #[.int .i64 p0.fRise, .int .i64 p0.fFall, .int .i64 p0.fUp, .int .i64 p0.fDown, .slice A0_4 p0.fLooks.length c0_4])) 1 (.slice A1_0 p1.length c1_0)) 2 (.slice A2_0 p2.length c2_0)) 3 (.pointer (some ⟨b1, 0, none⟩))) 6 (.bool s.1)) 7 (.int .i64 s.2.1)) 8 (.int .i64 y2)) 19 (.bool (y2 != 0))) 9 (.int .i64 y5)) 24 (.bool (y5 != 0))) 30 (.bool (((p2.length : Nat) : Int) != ((p1.length : Nat) : Int)))) 10 (.int .i64 s.2.2))) hl17 ⟨_, rfl, (keep (keep (keep (keep (keep (keep (keep (keep (keep (keep (keep (keep rfl rfl) rfl) rfl) rfl) rfl) rfl) rfl) rfl) rfl) rfl) rfl) rfl)⟩ ?_ ?_
        · rintro s10 L tm st ⟨tm0_s10, rfl, rfl⟩ h
          unfold calxref02_Fits_l1 at h
          refine cx_seq ?_
          refine cx_seq ?_
          refine cx_region ?_
          refine ox_y rfl (y_move_int rfl) ?_
          refine ox_y rfl (y_move_slice rfl) ?_
          refine ox_y rfl (y_len (us := []) us_39 rfl) ?_
          refine ox_y rfl (y_lss rfl rfl) ?_
          refine ox_nil ?_
          refine ex_then ?_
          rcases ite_some h with ⟨hp12, h⟩ | ⟨hp12, h⟩
          · refine cx_true (congrArg Value.bool hp12) ?_
            refine cx_skip ?_
            refine ex_then ?_
            refine cx_seq ?_
            refine cx_block ?_
            refine cx_seq ?_
            refine cx_region ?_
            refine ox_y rfl (y_move_slice rfl) ?_
            refine ox_y rfl (y_move_int rfl) ?_
            obtain ⟨hg13, h⟩ := guardO_some h
            refine ox_y rfl (y_indexR sl_39 (by decide) hg13.1 hg13.2 (RdL.arg hr2_0) (encL_len cI_len rfl) rfl rfl) ?_
            refine ox_y rfl (y_loadR1 (A := A2_0) (j := (Int.toNat s10.2.2 * 1)) (v := .int .i64 (rdL p2 s10.2.2)) sc_3 (RdL.arg hr2_0) rfl (encL_get0 cI_len hg13.1 (lt_nat hg13.2 rfl) rfl)) ?_
            obtain ⟨y14, hy15, h⟩ := bind_some h
            refine ox_y rfl (y_call [.int .i64 (rdL p2 s10.2.2)] go_73 rfl (fun W2 hW2 => calxref02_Heat_ok (rdL p2 s10.2.2) y14 hy15 W2 ) rfl) ?_
            refine ox_y rfl (y_assign_bool rfl) ?_
            refine ox_nil ?_
            refine ex_then ?_
            refine cx_seq ?_
            refine cx_region ?_
            refine ox_y rfl (y_move_bool rfl) ?_
            refine ox_y rfl (y_not rfl) ?_
            refine ox_nil ?_
            refine ex_then ?_
            rcases ite_some h with ⟨hp16, h⟩ | ⟨hp16, h⟩
            · refine cx_true (congrArg Value.bool hp16) ?_
              refine cx_seq ?_
              refine cx_region ?_
              refine ox_y rfl (y_assign_bool rfl) ?_
              refine ox_y rfl (y_assign_int rfl) ?_
              refine ox_nil ?_
              refine ex_then ?_
              refine cx_ret ?_
              refine ex_block_ret ?_
              refine ex_then_ret ?_
              obtain rfl := Option.some.inj h
              exact ex_stop ⟨rfl, _, rfl, (keep (keep (keep (keep (keep (keep (keep (keep (keep (keep (keep (keep rfl rfl) rfl) rfl) rfl) rfl) rfl) rfl) rfl) rfl) rfl) rfl) rfl)⟩
            · refine cx_false (congrArg Value.bool hp16) ?_
              refine cx_skip ?_
              refine ex_block ?_
              refine ex_then ?_
              refine cx_region ?_
              refine ox_y rfl (y_move_int rfl) ?_
              refine ox_y rfl (y_add rfl rfl) ?_
              refine ox_y rfl (y_assign_int rfl) ?_
              refine ox_nil ?_
              obtain rfl := Option.some.inj h
              exact ex_next ⟨_, rfl, (keep (keep (keep (keep (keep (keep (keep (keep (keep (keep (keep (keep rfl rfl) rfl) rfl) rfl) rfl) rfl) rfl) rfl) rfl) rfl) rfl) rfl)⟩
          · refine cx_false (congrArg Value.bool hp12) ?_
            refine cx_exit ?_
            refine ex_then_exit ?_
            obtain rfl := Option.some.inj h
            exact ex_stop ⟨rfl, _, rfl, (keep (keep (keep (keep (keep (keep (keep (keep (keep (keep (keep (keep rfl rfl) rfl) rfl) rfl) rfl) rfl) rfl) rfl) rfl) rfl) rfl) rfl)⟩
        · intro e L tm hJ
          rcases u11 with u18 | u19
          · dsimp only at h hJ
            obtain ⟨rfl, tm0_u18, rfl, rfl⟩ := hJ
            refine ⟨(by intro hc; cases hc), ?_⟩
            refine ex_block_ret ?_
            refine ex_then_ret ?_
            obtain rfl := Option.some.inj h
            exact ex_res2 (.inl rfl) rfl (resV_tmp (v := .bool u18.1) rfl) (resV_tmp (v := .int .i64 u18.2.1) rfl) (fun W2 hW2 => ⟨rfl, hW2.none⟩)
          · dsimp only at h hJ
            obtain ⟨rfl, tm0_u19, rfl, rfl⟩ := hJ
            refine ⟨(by intro hc; cases hc), ?_⟩
            refine ex_block_here ?_
            refine ex_then ?_
            refine cx_seq ?_
            refine cx_region ?_
            refine ox_y rfl (y_loadN 0 [.int .i64 p0.fRise, .int .i64 p0.fFall, .int .i64 p0.fUp, .int .i64 p0.fDown, .slice A0_4 p0.fLooks.length c0_4] ag_24 rfl rfl rfl) ?_
            obtain ⟨y20, hy21, h⟩ := bind_some h
            refine ox_y rfl (y_call [.agg #[.int .i64 p0.fRise, .int .i64 p0.fFall, .int .i64 p0.fUp, .int .i64 p0.fDown, .slice A0_4 p0.fLooks.length c0_4]] go_74 rfl (fun W2 hW2 => calxref02_agree_ok p0 y20 hy21 W2 A0_4 p0.fLooks.length c0_4 rfl ((RdL.arg hr0_4) W2 hW2)) rfl) ?_
            refine ox_y rfl (y_assign_bool rfl) ?_
            refine ox_nil ?_
            refine ex_then ?_
            refine cx_seq ?_
            refine cx_seq ?_
            refine cx_region ?_
            refine ox_y rfl (y_move_bool rfl) ?_
            refine ox_y rfl (y_not rfl) ?_
            refine ox_nil ?_
            refine ex_then ?_
            rcases ite_some h with ⟨hp22, h⟩ | ⟨hp22, h⟩
            · refine cx_true (congrArg Value.bool hp22) ?_
              refine cx_seq ?_
              refine cx_region ?_
              refine ox_y rfl (y_assign_bool rfl) ?_
              refine ox_y rfl (y_assign_int rfl) ?_
              refine ox_nil ?_
              refine ex_then ?_
              refine cx_ret ?_
              refine ex_then_ret ?_
              obtain rfl := Option.some.inj h
              exact ex_res2 (.inl rfl) rfl (resV_tmp (v := .bool false) rfl) (resV_tmp (v := .int .i64 9) rfl) (fun W2 hW2 => ⟨rfl, hW2.none⟩)
            · refine cx_false (congrArg Value.bool hp22) ?_
              refine cx_skip ?_
              refine ex_then ?_
              refine cx_seq ?_
              refine cx_seq ?_
              refine cx_region ?_
              refine ox_y rfl (y_assign_int rfl) ?_
              refine ox_nil ?_
              refine ex_then ?_
              refine cx_block ?_
              obtain ⟨u25, hl51, h⟩ := bind_some h
              refine cx_loop (fun (s : (Bool × Int × Int)) L tm => ∃ (tm0 : Nat → Value), L = [cellsR b1 24 [.int .i64 p0.fRise, .int .i64 p0.fFall, .int .i64 p0.fUp, .int .i64 p0.fDown, .slice A0_4 p0.fLooks.length c0_4]] ∧ tm = (upd (upd (upd (upd (upd (upd (upd (upd (upd (upd (upd (upd (upd (upd (upd tm0 0 (.agg #[.int .i64 p0.fRise, .int .i64 p0.fFall, .int .i64 p0.fUp, .int .i64 p0.fDown, .slice A0_4 p0.fLooks.length c0_4])) 1 (.slice A1_0 p1.length c1_0)) 2 (.slice A2_0 p2.length c2_0)) 3 (.pointer (some ⟨b1, 0, none⟩))) 6 (.bool s.1)) 7 (.int .i64 s.2.1)) 8 (.int .i64 y2)) 19 (.bool (y2 != 0))) 9 (.int .i64 y5)) 24 (.bool (y5 != 0))) 30 (.bool (((p2.length : Nat) : Int) != ((p1.length : Nat) : Int)))) 10 (.int .i64 u19.2.2)) 12 (.bool y20)) 47 (.bool (!y20))) 13 (.int .i64 s.2.2))) (fun | (.inl s), e, L, tm => e = .ret ∧ ∃ (tm0 : Nat → Value), L = [cellsR b1 24 [.int .i64 p0.fRise, .int .i64 p0.fFall, .int .i64 p0.fUp, .int .i64 p0.fDown, .slice A0_4 p0.fLooks.length c0_4]] ∧ tm = (upd (upd (upd (upd (upd (upd (upd (upd (upd (upd (upd (upd (upd (upd (upd tm0 0 (.agg #[.int .i64 p0.fRise, .int .i64 p0.fFall, .int .i64 p0.fUp, .int .i64 p0.fDown, .slice A0_4 p0.fLooks.length c0_4])) 1 (.slice A1_0 p1.length c1_0)) 2 (.slice A2_0 p2.length c2_0)) 3 (.pointer (some ⟨b1, 0, none⟩))) 6 (.bool s.1)) 7 (.int .i64 s.2.1)) 8 (.int .i64 y2)) 19 (.bool (y2 != 0))) 9 (.int .i64 y5)) 24 (.bool (y5 != 0))) 30 (.bool (((p2.length : Nat) : Int) != ((p1.length : Nat) : Int)))) 10 (.int .i64 u19.2.2)) 12 (.bool y20)) 47 (.bool (!y20))) 13 (.int .i64 s.2.2)) | (.inr s), e, L, tm => e = .exit 2 ∧ ∃ (tm0 : Nat → Value), L = [cellsR b1 24 [.int .i64 p0.fRise, .int .i64 p0.fFall, .int .i64 p0.fUp, .int .i64 p0.fDown, .slice A0_4 p0.fLooks.length c0_4]] ∧ tm = (upd (upd (upd (upd (upd (upd (upd (upd (upd (upd (upd (upd (upd (upd (upd tm0 0 (.agg #[.int .i64 p0.fRise, .int .i64 p0.fFall, .int .i64 p0.fUp, .int .i64 p0.fDown, .slice A0_4 p0.fLooks.length c0_4])) 1 (.slice A1_0 p1.length c1_0)) 2 (.slice A2_0 p2.length c2_0)) 3 (.pointer (some ⟨b1, 0, none⟩))) 6 (.bool s.1)) 7 (.int .i64 s.2.1)) 8 (.int .i64 y2)) 19 (.bool (y2 != 0))) 9 (.int .i64 y5)) 24 (.bool (y5 != 0))) 30 (.bool (((p2.length : Nat) : Int) != ((p1.length : Nat) : Int)))) 10 (.int .i64 u19.2.2)) 12 (.bool y20)) 47 (.bool (!y20))) 13 (.int .i64 s.2.2))) hl51 ⟨_, rfl, (keep (keep (keep (keep (keep (keep (keep (keep (keep (keep (keep (keep (keep (keep (keep rfl rfl) rfl) rfl) rfl) rfl) rfl) rfl) rfl) rfl) rfl) rfl) rfl) rfl) rfl) rfl)⟩ ?_ ?_
              · rintro s24 L tm st ⟨tm0_s24, rfl, rfl⟩ h
                unfold calxref02_Fits_l2 at h
                refine cx_seq ?_
                refine cx_seq ?_
                refine cx_region ?_
                refine ox_y rfl (y_move_int rfl) ?_
                refine ox_y rfl (y_move_slice rfl) ?_
                refine ox_y rfl (y_len (us := []) us_50 rfl) ?_
                refine ox_y rfl (y_lss rfl rfl) ?_
                refine ox_nil ?_
                refine ex_then ?_
                rcases ite_some h with ⟨hp26, h⟩ | ⟨hp26, h⟩
                · refine cx_true (congrArg Value.bool hp26) ?_
                  refine cx_skip ?_
                  refine ex_then ?_
                  refine cx_seq ?_
                  refine cx_block ?_
                  refine cx_seq ?_
                  refine cx_drawsA 6 mixed (by kernel_rfl) (by kernel_rfl) (by kernel_rfl) ?_
                  refine ax_y rfl (fun _ => y_loadN 0 [.int .i64 p0.fRise, .int .i64 p0.fFall, .int .i64 p0.fUp, .int .i64 p0.fDown, .slice A0_4 p0.fLooks.length c0_4] ag_24 rfl rfl rfl) ?_
                  refine ax_y rfl (fun _ => y_move_slice rfl) ?_
                  refine ax_y rfl (fun _ => y_move_int rfl) ?_
                  obtain ⟨hg27, h⟩ := guardO_some h
                  refine ax_y rfl (fun _ => y_indexR sl_50 (by decide) hg27.1 hg27.2 (RdL.arg hr1_0) (encL_len TSpot_cells_len rfl) rfl rfl) ?_
                  refine ax_y rfl (fun _ => y_loadRN (A := A1_0) (j := (Int.toNat s24.2.2 * 2)) [.int .i64 ((rdL p1 s24.2.2).fFoot), .int .i64 ((rdL p1 s24.2.2).fHour)] ag_26 (Nat.succ_pos _) (RdL.arg hr1_0) rfl (encL_gets TSpot_cells_len hg27.1 (lt_nat hg27.2 rfl))) ?_
                  obtain ⟨y28, hy29, h⟩ := bind_some h
                  refine ax_y rfl (fun _ => y_call [.agg #[.int .i64 p0.fRise, .int .i64 p0.fFall, .int .i64 p0.fUp, .int .i64 p0.fDown, .slice A0_4 p0.fLooks.length c0_4], .agg #[.int .i64 ((rdL p1 s24.2.2).fFoot), .int .i64 ((rdL p1 s24.2.2).fHour)]] go_45 rfl (fun W2 hW2 => calxref02_ends_ok p0 (TSpot.mk ((rdL p1 s24.2.2).fFoot) ((rdL p1 s24.2.2).fHour)) y28 hy29 W2 A0_4 p0.fLooks.length c0_4 rfl ((RdL.arg hr0_4) W2 hW2)) rfl) ?_
                  refine ax_nil rfl ze_28 (fun b30 => ?_)
                  refine ox_n rfl (y_storeN 1 [.int .i64 y28.fLo, .int .i64 y28.fHi] sz_28 rfl (Nat.le_of_ble_eq_true rfl) rfl rfl rfl) ?_
                  refine ox_nil ?_
                  refine ex_only ?_
                  refine ex_then ?_
                  refine cx_seq ?_
                  refine cx_seq ?_
                  refine cx_draws 16 mixed (by kernel_rfl) (by kernel_rfl) ?_
                  refine qx_y rfl (y_move_slice rfl) ?_
                  refine qx_y rfl (y_move_int rfl) ?_
                  obtain ⟨hg31, h⟩ := guardO_some h
                  refine qx_y rfl (y_indexR sl_39 (by decide) hg31.1 hg31.2 (RdL.arg hr2_0) (encL_len cI_len rfl) rfl rfl) ?_
                  refine qx_y rfl (y_loadR1 (A := A2_0) (j := (Int.toNat s24.2.2 * 1)) (v := .int .i64 (rdL p2 s24.2.2)) sc_3 (RdL.arg hr2_0) rfl (encL_get0 cI_len hg31.1 (lt_nat hg31.2 rfl) rfl)) ?_
                  refine qx_y rfl (y_fieldAddr fo_28_0 rfl) ?_
                  refine qx_y rfl (y_load1 1 (v := .int .i64 y28.fLo) sc_3 rfl rfl rfl) ?_
                  refine qx_y rfl (y_lss rfl rfl) ?_
                  refine qx_y rfl (y_move_bool rfl) ?_
                  obtain ⟨b33, hb34, h⟩ := bind_some h
                  refine qx_join 8 (fun tm0 => (upd (upd (upd (upd (upd (upd (upd (upd (upd (upd (upd (upd (upd (upd (upd (upd (upd (upd tm0 0 (.agg #[.int .i64 p0.fRise, .int .i64 p0.fFall, .int .i64 p0.fUp, .int .i64 p0.fDown, .slice A0_4 p0.fLooks.length c0_4])) 1 (.slice A1_0 p1.length c1_0)) 2 (.slice A2_0 p2.length c2_0)) 3 (.pointer (some ⟨b1, 0, none⟩))) 6 (.bool s24.1)) 7 (.int .i64 s24.2.1)) 8 (.int .i64 y2)) 19 (.bool (y2 != 0))) 9 (.int .i64 y5)) 24 (.bool (y5 != 0))) 30 (.bool (((p2.length : Nat) : Int) != ((p1.length : Nat) : Int)))) 10 (.int .i64 u19.2.2)) 12 (.bool y20)) 47 (.bool (!y20))) 13 (.int .i64 s24.2.2)) 51 (.bool (decide (s24.2.2 < ((p1.length : Nat) : Int))))) 14 (.pointer (some ⟨b30, 0, none⟩))) 75 (.bool b33))) (fun tm0 => ?_) (fun key => ?_)
                  · refine qx_nil ?_
                    refine ox_nil ?_
                    refine ex_then ?_
                    rcases ite_some h with ⟨hp35, h⟩ | ⟨hp35, h⟩
                    · refine cx_true (congrArg Value.bool hp35) ?_
                      refine cx_seq ?_
                      refine cx_region ?_
                      refine ox_y rfl (y_assign_bool rfl) ?_
                      refine ox_y rfl (y_assign_int rfl) ?_
                      refine ox_nil ?_
                      refine ex_then ?_
                      refine cx_ret ?_
                      refine ex_then_ret ?_
                      refine ex_block_ret ?_
                      refine ex_then_ret ?_
                      refine ex_take 1 ?_
                      obtain rfl := Option.some.inj h
                      exact ex_stop ⟨rfl, _, rfl, (keep (keep (keep (keep (keep (keep (keep (keep (keep (keep (keep (keep (keep (keep (keep rfl rfl) rfl) rfl) rfl) rfl) rfl) rfl) rfl) rfl) rfl) rfl) rfl) rfl) rfl) rfl)⟩
                    · refine cx_false (congrArg Value.bool hp35) ?_
                      refine cx_skip ?_
                      refine ex_then ?_
                      refine cx_seq ?_
                      refine cx_region ?_
                      refine ox_y rfl (y_assign_int rfl) ?_
                      refine ox_nil ?_
                      refine ex_then ?_
                      refine cx_block ?_
                      obtain ⟨u38, hl47, h⟩ := bind_some h
                      refine cx_loop (fun (s : (Bool × Int × Int)) L tm => ∃ (tm0 : Nat → Value), L = [cellsR b1 24 [.int .i64 p0.fRise, .int .i64 p0.fFall, .int .i64 p0.fUp, .int .i64 p0.fDown, .slice A0_4 p0.fLooks.length c0_4], cellsR b30 28 [.int .i64 y28.fLo, .int .i64 y28.fHi]] ∧ tm = (upd (upd (upd (upd (upd (upd (upd (upd (upd (upd (upd (upd (upd (upd (upd (upd (upd (upd (upd tm0 0 (.agg #[.int .i64 p0.fRise, .int .i64 p0.fFall, .int .i64 p0.fUp, .int .i64 p0.fDown, .slice A0_4 p0.fLooks.length c0_4])) 1 (.slice A1_0 p1.length c1_0)) 2 (.slice A2_0 p2.length c2_0)) 3 (.pointer (some ⟨b1, 0, none⟩))) 6 (.bool s.1)) 7 (.int .i64 s.2.1)) 8 (.int .i64 y2)) 19 (.bool (y2 != 0))) 9 (.int .i64 y5)) 24 (.bool (y5 != 0))) 30 (.bool (((p2.length : Nat) : Int) != ((p1.length : Nat) : Int)))) 10 (.int .i64 u19.2.2)) 12 (.bool y20)) 47 (.bool (!y20))) 13 (.int .i64 s24.2.2)) 51 (.bool (decide (s24.2.2 < ((p1.length : Nat) : Int))))) 14 (.pointer (some ⟨b30, 0, none⟩))) 75 (.bool b33)) 15 (.int .i64 s.2.2))) (fun | (.inl s), e, L, tm => e = .ret ∧ ∃ (tm0 : Nat → Value), L = [cellsR b1 24 [.int .i64 p0.fRise, .int .i64 p0.fFall, .int .i64 p0.fUp, .int .i64 p0.fDown, .slice A0_4 p0.fLooks.length c0_4], cellsR b30 28 [.int .i64 y28.fLo, .int .i64 y28.fHi]] ∧ tm = (upd (upd (upd (upd (upd (upd (upd (upd (upd (upd (upd (upd (upd (upd (upd (upd (upd (upd (upd tm0 0 (.agg #[.int .i64 p0.fRise, .int .i64 p0.fFall, .int .i64 p0.fUp, .int .i64 p0.fDown, .slice A0_4 p0.fLooks.length c0_4])) 1 (.slice A1_0 p1.length c1_0)) 2 (.slice A2_0 p2.length c2_0)) 3 (.pointer (some ⟨b1, 0, none⟩))) 6 (.bool s.1)) 7 (.int .i64 s.2.1)) 8 (.int .i64 y2)) 19 (.bool (y2 != 0))) 9 (.int .i64 y5)) 24 (.bool (y5 != 0))) 30 (.bool (((p2.length : Nat) : Int) != ((p1.length : Nat) : Int)))) 10 (.int .i64 u19.2.2)) 12 (.bool y20)) 47 (.bool (!y20))) 13 (.int .i64 s24.2.2)) 51 (.bool (decide (s24.2.2 < ((p1.length : Nat) : Int))))) 14 (.pointer (some ⟨b30, 0, none⟩))) 75 (.bool b33)) 15 (.int .i64 s.2.2)) | (.inr s), e, L, tm => e = .exit 4 ∧ ∃ (tm0 : Nat → Value), L = [cellsR b1 24 [.int .i64 p0.fRise, .int .i64 p0.fFall, .int .i64 p0.fUp, .int .i64 p0.fDown, .slice A0_4 p0.fLooks.length c0_4], cellsR b30 28 [.int .i64 y28.fLo, .int .i64 y28.fHi]] ∧ tm = (upd (upd (upd (upd (upd (upd (upd (upd (upd (upd (upd (upd (upd (upd (upd (upd (upd (upd (upd tm0 0 (.agg #[.int .i64 p0.fRise, .int .i64 p0.fFall, .int .i64 p0.fUp, .int .i64 p0.fDown, .slice A0_4 p0.fLooks.length c0_4])) 1 (.slice A1_0 p1.length c1_0)) 2 (.slice A2_0 p2.length c2_0)) 3 (.pointer (some ⟨b1, 0, none⟩))) 6 (.bool s.1)) 7 (.int .i64 s.2.1)) 8 (.int .i64 y2)) 19 (.bool (y2 != 0))) 9 (.int .i64 y5)) 24 (.bool (y5 != 0))) 30 (.bool (((p2.length : Nat) : Int) != ((p1.length : Nat) : Int)))) 10 (.int .i64 u19.2.2)) 12 (.bool y20)) 47 (.bool (!y20))) 13 (.int .i64 s24.2.2)) 51 (.bool (decide (s24.2.2 < ((p1.length : Nat) : Int))))) 14 (.pointer (some ⟨b30, 0, none⟩))) 75 (.bool b33)) 15 (.int .i64 s.2.2))) hl47 ⟨_, rfl, (keep (keep (keep (keep (keep (keep (keep (keep (keep (keep (keep (keep (keep (keep (keep (keep (keep (keep (keep rfl rfl) rfl) rfl) rfl) rfl) rfl) rfl) rfl) rfl) rfl) rfl) rfl) rfl) rfl) rfl) rfl) rfl) rfl) rfl)⟩ ?_ ?_
                      · rintro s37 L tm st ⟨tm0_s37, rfl, rfl⟩ h
                        unfold calxref02_Fits_l3 at h
                        refine cx_seq ?_
                        refine cx_seq ?_
                        refine cx_region ?_
                        refine ox_y rfl (y_move_int rfl) ?_
                        refine ox_y rfl (y_move_slice rfl) ?_
                        refine ox_y rfl (y_len (us := []) us_50 rfl) ?_
                        refine ox_y rfl (y_lss rfl rfl) ?_
                        refine ox_nil ?_
                        refine ex_then ?_
                        rcases ite_some h with ⟨hp39, h⟩ | ⟨hp39, h⟩
                        · refine cx_true (congrArg Value.bool hp39) ?_
                          refine cx_skip ?_
                          refine ex_then ?_
                          refine cx_seq ?_
                          refine cx_block ?_
                          refine cx_seq ?_
                          refine cx_draws 20 mixed (by kernel_rfl) (by kernel_rfl) ?_
                          refine qx_y rfl (y_move_slice rfl) ?_
                          refine qx_y rfl (y_move_int rfl) ?_
                          obtain ⟨hg40, h⟩ := guardO_some h
                          refine qx_y rfl (y_indexR sl_39 (by decide) hg40.1 hg40.2 (RdL.arg hr2_0) (encL_len cI_len rfl) rfl rfl) ?_
                          refine qx_y rfl (y_loadR1 (A := A2_0) (j := (Int.toNat s37.2.2 * 1)) (v := .int .i64 (rdL p2 s37.2.2)) sc_3 (RdL.arg hr2_0) rfl (encL_get0 cI_len hg40.1 (lt_nat hg40.2 rfl) rfl)) ?_
                          refine qx_y rfl (y_move_slice rfl) ?_
                          refine qx_y rfl (y_move_int rfl) ?_
                          obtain ⟨hg41, h⟩ := guardO_some h
                          refine qx_y rfl (y_indexR sl_39 (by decide) hg41.1 hg41.2 (RdL.arg hr2_0) (encL_len cI_len rfl) rfl rfl) ?_
                          refine qx_y rfl (y_loadR1 (A := A2_0) (j := (Int.toNat s24.2.2 * 1)) (v := .int .i64 (rdL p2 s24.2.2)) sc_3 (RdL.arg hr2_0) rfl (encL_get0 cI_len hg41.1 (lt_nat hg41.2 rfl) rfl)) ?_
                          refine qx_y rfl (y_loadN 0 [.int .i64 p0.fRise, .int .i64 p0.fFall, .int .i64 p0.fUp, .int .i64 p0.fDown, .slice A0_4 p0.fLooks.length c0_4] ag_24 rfl rfl rfl) ?_
                          refine qx_y rfl (y_move_slice rfl) ?_
                          refine qx_y rfl (y_move_int rfl) ?_
                          obtain ⟨hg42, h⟩ := guardO_some h
                          refine qx_y rfl (y_indexR sl_50 (by decide) hg42.1 hg42.2 (RdL.arg hr1_0) (encL_len TSpot_cells_len rfl) rfl rfl) ?_
                          refine qx_y rfl (y_loadRN (A := A1_0) (j := (Int.toNat s24.2.2 * 2)) [.int .i64 ((rdL p1 s24.2.2).fFoot), .int .i64 ((rdL p1 s24.2.2).fHour)] ag_26 (Nat.succ_pos _) (RdL.arg hr1_0) rfl (encL_gets TSpot_cells_len hg42.1 (lt_nat hg42.2 rfl))) ?_
                          refine qx_y rfl (y_move_slice rfl) ?_
                          refine qx_y rfl (y_move_int rfl) ?_
                          obtain ⟨hg43, h⟩ := guardO_some h
                          refine qx_y rfl (y_indexR sl_50 (by decide) hg43.1 hg43.2 (RdL.arg hr1_0) (encL_len TSpot_cells_len rfl) rfl rfl) ?_
                          refine qx_y rfl (y_loadRN (A := A1_0) (j := (Int.toNat s37.2.2 * 2)) [.int .i64 ((rdL p1 s37.2.2).fFoot), .int .i64 ((rdL p1 s37.2.2).fHour)] ag_26 (Nat.succ_pos _) (RdL.arg hr1_0) rfl (encL_gets TSpot_cells_len hg43.1 (lt_nat hg43.2 rfl))) ?_
                          obtain ⟨y44, hy45, h⟩ := bind_some h
                          refine qx_y rfl (y_call [.agg #[.int .i64 p0.fRise, .int .i64 p0.fFall, .int .i64 p0.fUp, .int .i64 p0.fDown, .slice A0_4 p0.fLooks.length c0_4], .agg #[.int .i64 ((rdL p1 s24.2.2).fFoot), .int .i64 ((rdL p1 s24.2.2).fHour)], .agg #[.int .i64 ((rdL p1 s37.2.2).fFoot), .int .i64 ((rdL p1 s37.2.2).fHour)]] go_64 rfl (fun W2 hW2 => calxref02_far_ok p0 (TSpot.mk ((rdL p1 s24.2.2).fFoot) ((rdL p1 s24.2.2).fHour)) (TSpot.mk ((rdL p1 s37.2.2).fFoot) ((rdL p1 s37.2.2).fHour)) y44 hy45 W2 A0_4 p0.fLooks.length c0_4 rfl ((RdL.arg hr0_4) W2 hW2)) rfl) ?_
                          refine qx_y rfl (y_add rfl rfl) ?_
                          refine qx_y rfl (y_gtr rfl rfl) ?_
                          refine qx_nil ?_
                          refine ox_nil ?_
                          refine ex_then ?_
                          rcases ite_some h with ⟨hp46, h⟩ | ⟨hp46, h⟩
                          · refine cx_true (congrArg Value.bool hp46) ?_
                            refine cx_seq ?_
                            refine cx_region ?_
                            refine ox_y rfl (y_assign_bool rfl) ?_
                            refine ox_y rfl (y_assign_int rfl) ?_
                            refine ox_nil ?_
                            refine ex_then ?_
                            refine cx_ret ?_
                            refine ex_block_ret ?_
                            refine ex_then_ret ?_
                            obtain rfl := Option.some.inj h
                            exact ex_stop ⟨rfl, _, rfl, (keep (keep (keep (keep (keep (keep (keep (keep (keep (keep (keep (keep (keep (keep (keep (keep (keep (keep (keep rfl rfl) rfl) rfl) rfl) rfl) rfl) rfl) rfl) rfl) rfl) rfl) rfl) rfl) rfl) rfl) rfl) rfl) rfl) rfl)⟩
                          · refine cx_false (congrArg Value.bool hp46) ?_
                            refine cx_skip ?_
                            refine ex_block ?_
                            refine ex_then ?_
                            refine cx_region ?_
                            refine ox_y rfl (y_move_int rfl) ?_
                            refine ox_y rfl (y_add rfl rfl) ?_
                            refine ox_y rfl (y_assign_int rfl) ?_
                            refine ox_nil ?_
                            obtain rfl := Option.some.inj h
                            exact ex_next ⟨_, rfl, (keep (keep (keep (keep (keep (keep (keep (keep (keep (keep (keep (keep (keep (keep (keep (keep (keep (keep (keep rfl rfl) rfl) rfl) rfl) rfl) rfl) rfl) rfl) rfl) rfl) rfl) rfl) rfl) rfl) rfl) rfl) rfl) rfl) rfl)⟩
                        · refine cx_false (congrArg Value.bool hp39) ?_
                          refine cx_exit ?_
                          refine ex_then_exit ?_
                          obtain rfl := Option.some.inj h
                          exact ex_stop ⟨rfl, _, rfl, (keep (keep (keep (keep (keep (keep (keep (keep (keep (keep (keep (keep (keep (keep (keep (keep (keep (keep (keep rfl rfl) rfl) rfl) rfl) rfl) rfl) rfl) rfl) rfl) rfl) rfl) rfl) rfl) rfl) rfl) rfl) rfl) rfl) rfl)⟩
                      · intro e L tm hJ
                        rcases u38 with u48 | u49
                        · dsimp only at h hJ
                          obtain ⟨rfl, tm0_u48, rfl, rfl⟩ := hJ
                          refine ⟨(by intro hc; cases hc), ?_⟩
                          refine ex_block_ret ?_
                          refine ex_block_ret ?_
                          refine ex_then_ret ?_
                          refine ex_take 1 ?_
                          obtain rfl := Option.some.inj h
                          exact ex_stop ⟨rfl, _, rfl, (keep (keep (keep (keep (keep (keep (keep (keep (keep (keep (keep (keep (keep (keep (keep rfl rfl) rfl) rfl) rfl) rfl) rfl) rfl) rfl) rfl) rfl) rfl) rfl) rfl) rfl) rfl)⟩
                        · dsimp only at h hJ
                          obtain ⟨rfl, tm0_u49, rfl, rfl⟩ := hJ
                          refine ⟨(by intro hc; cases hc), ?_⟩
                          refine ex_block_here ?_
                          refine ex_block ?_
                          refine ex_then ?_
                          refine cx_region ?_
                          refine ox_y rfl (y_move_int rfl) ?_
                          refine ox_y rfl (y_add rfl rfl) ?_
                          refine ox_y rfl (y_assign_int rfl) ?_
                          refine ox_nil ?_
                          refine ex_take 1 ?_
                          obtain rfl := Option.some.inj h
                          exact ex_next ⟨_, rfl, (keep (keep (keep (keep (keep (keep (keep (keep (keep (keep (keep (keep (keep (keep (keep rfl rfl) rfl) rfl) rfl) rfl) rfl) rfl) rfl) rfl) rfl) rfl) rfl) rfl) rfl) rfl)⟩
                  · clear h; rcases ite_some hb34 with ⟨hp32, h⟩ | ⟨hp32, h⟩
                    · refine qx_skip (sees_f rfl rfl rfl rfl hp32) ?_
                      refine qx_skip (sees_f rfl rfl rfl rfl hp32) ?_
                      refine qx_skip (sees_f rfl rfl rfl rfl hp32) ?_
                      refine qx_skip (sees_f rfl rfl rfl rfl hp32) ?_
                      refine qx_skip (sees_f rfl rfl rfl rfl hp32) ?_
                      refine qx_skip (sees_f rfl rfl rfl rfl hp32) ?_
                      refine qx_skip (sees_f rfl rfl rfl rfl hp32) ?_
                      refine qx_y rfl (y_pick_tb (congrArg Value.bool hp32) rfl) ?_
                      obtain rfl := Option.some.inj h
                      exact key _ _ (keep (keep (keep (keep (keep (keep (keep (keep (keep (keep (keep (keep (keep (keep (keep (keep (keep (keep rfl rfl) rfl) rfl) rfl) rfl) rfl) rfl) rfl) rfl) rfl) rfl) rfl) rfl) rfl) rfl) rfl) rfl) rfl)
                    · refine qx_y (sees_t rfl rfl rfl rfl hp32) (y_move_slice rfl) ?_
                      refine qx_y (sees_t rfl rfl rfl rfl hp32) (y_move_int rfl) ?_
                      obtain ⟨hg50, h⟩ := guardO_some h
                      refine qx_y (sees_t rfl rfl rfl rfl hp32) (y_indexR sl_39 (by decide) hg50.1 hg50.2 (RdL.arg hr2_0) (encL_len cI_len rfl) rfl rfl) ?_
                      refine qx_y (sees_t rfl rfl rfl rfl hp32) (y_loadR1 (A := A2_0) (j := (Int.toNat s24.2.2 * 1)) (v := .int .i64 (rdL p2 s24.2.2)) sc_3 (RdL.arg hr2_0) rfl (encL_get0 cI_len hg50.1 (lt_nat hg50.2 rfl) rfl)) ?_
                      refine qx_y (sees_t rfl rfl rfl rfl hp32) (y_fieldAddr fo_28_1 rfl) ?_
                      refine qx_y (sees_t rfl rfl rfl rfl hp32) (y_load1 1 (v := .int .i64 y28.fHi) sc_3 rfl rfl rfl) ?_
                      refine qx_y (sees_t rfl rfl rfl rfl hp32) (y_gtr rfl rfl) ?_
                      refine qx_y rfl (y_pick_fb (congrArg Value.bool hp32) rfl) ?_
                      obtain rfl := Option.some.inj h
                      exact key _ _ (keep (keep (keep (keep (keep (keep (keep (keep (keep (keep (keep (keep (keep (keep (keep (keep (keep (keep rfl rfl) rfl) rfl) rfl) rfl) rfl) rfl) rfl) rfl) rfl) rfl) rfl) rfl) rfl) rfl) rfl) rfl) rfl)
                · refine cx_false (congrArg Value.bool hp26) ?_
                  refine cx_exit ?_
                  refine ex_then_exit ?_
                  obtain rfl := Option.some.inj h
                  exact ex_stop ⟨rfl, _, rfl, (keep (keep (keep (keep (keep (keep (keep (keep (keep (keep (keep (keep (keep (keep (keep rfl rfl) rfl) rfl) rfl) rfl) rfl) rfl) rfl) rfl) rfl) rfl) rfl) rfl) rfl) rfl)⟩
              · intro e L tm hJ
                rcases u25 with u52 | u53
                · dsimp only at h hJ
                  obtain ⟨rfl, tm0_u52, rfl, rfl⟩ := hJ
                  refine ⟨(by intro hc; cases hc), ?_⟩
                  refine ex_block_ret ?_
                  refine ex_then_ret ?_
                  obtain rfl := Option.some.inj h
                  exact ex_res2 (.inl rfl) rfl (resV_tmp (v := .bool u52.1) rfl) (resV_tmp (v := .int .i64 u52.2.1) rfl) (fun W2 hW2 => ⟨rfl, hW2.none⟩)
                · dsimp only at h hJ
                  obtain ⟨rfl, tm0_u53, rfl, rfl⟩ := hJ
                  refine ⟨(by intro hc; cases hc), ?_⟩
                  refine ex_block_here ?_
                  refine ex_then ?_
                  refine cx_seq ?_
                  refine cx_region ?_
                  refine ox_y rfl (y_assign_bool rfl) ?_
                  refine ox_y rfl (y_assign_int rfl) ?_
                  refine ox_nil ?_
                  refine ex_then ?_
                  refine cx_ret ?_
                  obtain rfl := Option.some.inj h
                  exact ex_res2 (.inl rfl) rfl (resV_tmp (v := .bool true) rfl) (resV_tmp (v := .int .i64 0) rfl) (fun W2 hW2 => ⟨rfl, hW2.none⟩)

end Go.Proofs.YtndajeiecdmhnaaGreat
