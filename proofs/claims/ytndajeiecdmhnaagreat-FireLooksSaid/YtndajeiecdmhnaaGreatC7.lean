/- The calls hand back what the plain functions say. -/
import Derived.Test.YtndajeiecdmhnaaGreatF
import Derived.Test.YtndajeiecdmhnaaGreatC6
set_option linter.unusedVariables false
set_option maxHeartbeats 4000000
set_option maxRecDepth 100000
namespace Go.Proofs.YtndajeiecdmhnaaGreat
open Go.RowKit (Below)
attribute [local irreducible] OX QX CX EX OpY Calls CallsIn

theorem ref02_look_ok (p0_f:TFire) (p1_id:Int) (res:Int) (h:ref02_look p0_f p1_id = some res) (W:World) (A0_4:Option Addr) (n0_4 c0_4 : Nat) (hn0_4:n0_4 = p0_f.fLooks.length) (hr0_4:Rd W A0_4 n0_4 c0_4 (encL TLook_cells p0_f.fLooks)) :
  Calls Tryz.prog 95 [.agg #[.int .i64 p0_f.fRise,.int .i64 p0_f.fFall,.int .i64 p0_f.fUp,.int .i64 p0_f.fDown,.slice A0_4 n0_4 c0_4],.int .i64 p1_id].toArray W fun e W2 => e = .returned (.int .i64 res) ∧ Ext W W2 []:=by
 subst hn0_4
 unfold ref02_look at h
 refine calls_enter (m:=22) Tryz.func95 rfl rfl (Nat.le_of_ble_eq_true rfl) ?_
 refine cx_seq (cx_region ?_)
 refine ox_box [.int .i64 p0_f.fRise,.int .i64 p0_f.fFall,.int .i64 p0_f.fUp,.int .i64 p0_f.fDown,.slice A0_4 p0_f.fLooks.length c0_4] rfl rfl rfl (fun b1 => ?_)
 refine ox_y rfl (y_assign_int rfl) ?_
 refine ox_nil (ex_then (cx_seq (cx_seq (cx_region ?_))))
 refine ox_y rfl (y_assign_int rfl) ?_
 refine ox_nil (ex_then (cx_block ?_))
 obtain ⟨u4,hl8,h⟩:=bind_some h
 refine cx_loop (fun (s:(Int × Int)) L tm => ∃ (tm0:Nat → Value),L = [cellsR b1 24 [.int .i64 p0_f.fRise,.int .i64 p0_f.fFall,.int .i64 p0_f.fUp,.int .i64 p0_f.fDown,.slice A0_4 p0_f.fLooks.length c0_4]] ∧ tm = (upd (upd (upd (upd (upd tm0 0 (.agg #[.int .i64 p0_f.fRise,.int .i64 p0_f.fFall,.int .i64 p0_f.fUp,.int .i64 p0_f.fDown,.slice A0_4 p0_f.fLooks.length c0_4])) 1 (.int .i64 p1_id)) 2 (.pointer (some ⟨b1,0,none⟩))) 4 (.int .i64 s.1)) 5 (.int .i64 s.2))) (fun | (.inl s),e,L,tm => e = .ret ∧ ∃ (tm0:Nat → Value),L = [cellsR b1 24 [.int .i64 p0_f.fRise,.int .i64 p0_f.fFall,.int .i64 p0_f.fUp,.int .i64 p0_f.fDown,.slice A0_4 p0_f.fLooks.length c0_4]] ∧ tm = (upd (upd (upd (upd (upd tm0 0 (.agg #[.int .i64 p0_f.fRise,.int .i64 p0_f.fFall,.int .i64 p0_f.fUp,.int .i64 p0_f.fDown,.slice A0_4 p0_f.fLooks.length c0_4])) 1 (.int .i64 p1_id)) 2 (.pointer (some ⟨b1,0,none⟩))) 4 (.int .i64 s.1)) 5 (.int .i64 s.2)) | (.inr s),e,L,tm => e = .exit 0 ∧ ∃ (tm0:Nat → Value),L = [cellsR b1 24 [.int .i64 p0_f.fRise,.int .i64 p0_f.fFall,.int .i64 p0_f.fUp,.int .i64 p0_f.fDown,.slice A0_4 p0_f.fLooks.length c0_4]] ∧ tm = (upd (upd (upd (upd (upd tm0 0 (.agg #[.int .i64 p0_f.fRise,.int .i64 p0_f.fFall,.int .i64 p0_f.fUp,.int .i64 p0_f.fDown,.slice A0_4 p0_f.fLooks.length c0_4])) 1 (.int .i64 p1_id)) 2 (.pointer (some ⟨b1,0,none⟩))) 4 (.int .i64 s.1)) 5 (.int .i64 s.2))) hl8 ⟨_,rfl,(keep (keep (keep (keep (keep rfl rfl) rfl) rfl) rfl) rfl)⟩ ?_ ?_
 ·rintro s3 L tm st ⟨tm0_s3,rfl,rfl⟩ h
  unfold ref02_look_l1 at h
  refine cx_seq (cx_seq (cx_region ?_))
  refine ox_y rfl (y_move_int rfl) ?_
  refine ox_y rfl (y_fieldAddr fo_24_4 rfl) ?_
  refine ox_y rfl (y_load1 0 (v:=.slice A0_4 p0_f.fLooks.length c0_4) sc_22 rfl rfl rfl) ?_
  refine ox_y rfl (y_len (us:=[]) us_22 rfl) ?_
  refine ox_y rfl (y_lss rfl rfl) ?_
  refine ox_nil (ex_then ?_)
  rcases ite_some h with ⟨hp5,h⟩ | ⟨hp5,h⟩
  ·refine cx_true (congrArg Value.bool hp5) ?_
   refine cx_skip (ex_then (cx_seq (cx_block (cx_seq (cx_region ?_)))))
   refine ox_y rfl (y_fieldAddr fo_24_4 rfl) ?_
   refine ox_y rfl (y_load1 0 (v:=.slice A0_4 p0_f.fLooks.length c0_4) sc_22 rfl rfl rfl) ?_
   refine ox_y rfl (y_move_int rfl) ?_
   obtain ⟨hg6,h⟩:=guardO_some h
   refine ox_y rfl (y_indexR sl_22 (by decide) hg6.1 hg6.2 (RdL.arg hr0_4) (encL_len TLook_cells_len rfl) rfl rfl) ?_
   refine ox_y rfl (y_fieldAddrR (A:=A0_4) (j:=(Int.toNat s3.2 * 5)) fo_49_0 rfl) ?_
   refine ox_y rfl (y_loadR1 (A:=A0_4) (j:=((Int.toNat s3.2 * 5) + 0)) (v:=.int .i64 ((rdL p0_f.fLooks s3.2).fID)) sc_3 (RdL.arg hr0_4) rfl (encL_get TLook_cells_len hg6.1 (lt_nat hg6.2 rfl) rfl)) ?_
   refine ox_y rfl (y_move_int rfl) ?_
   refine ox_y rfl (y_eql rfl rfl) ?_
   refine ox_nil (ex_then ?_)
   rcases ite_some h with ⟨hp7,h⟩ | ⟨hp7,h⟩
   ·refine cx_true (congrArg Value.bool hp7) ?_
    refine cx_seq (cx_region ?_)
    refine ox_y rfl (y_move_int rfl) ?_
    refine ox_y rfl (y_assign_int rfl) ?_
    refine ox_nil (ex_then (cx_ret (ex_block_ret (ex_then_ret ?_))))
    obtain rfl:=Option.some.inj h
    exact ex_stop ⟨rfl,_,rfl,(keep (keep (keep (keep (keep rfl rfl) rfl) rfl) rfl) rfl)⟩
   ·refine cx_false (congrArg Value.bool hp7) ?_
    refine cx_skip ?_
    refine ex_block ?_
    refine ex_then (cx_region ?_)
    refine ox_y rfl (y_move_int rfl) ?_
    refine ox_y rfl (y_add rfl rfl) ?_
    refine ox_y rfl (y_assign_int rfl) ?_
    refine ox_nil ?_
    obtain rfl:=Option.some.inj h
    exact ex_next ⟨_,rfl,(keep (keep (keep (keep (keep rfl rfl) rfl) rfl) rfl) rfl)⟩
  ·refine cx_false (congrArg Value.bool hp5) ?_
   refine cx_exit ?_
   refine ex_then_exit ?_
   obtain rfl:=Option.some.inj h
   exact ex_stop ⟨rfl,_,rfl,(keep (keep (keep (keep (keep rfl rfl) rfl) rfl) rfl) rfl)⟩
 ·intro e L tm hJ
  rcases u4 with u9 | u10
  ·dsimp only at h hJ
   obtain ⟨rfl,tm0_u9,rfl,rfl⟩:=hJ
   refine ⟨(by intro hc; cases hc),?_⟩
   refine ex_block_ret (ex_then_ret ?_)
   obtain rfl:=Option.some.inj h
   exact ex_res1 (.inl rfl) rfl (resV_tmp (v:=.int .i64 u9.1) rfl) (fun W2 hW2 => ⟨rfl,hW2.none⟩)
  ·dsimp only at h hJ
   obtain ⟨rfl,tm0_u10,rfl,rfl⟩:=hJ
   refine ⟨(by intro hc; cases hc),?_⟩
   refine ex_block_here ?_
   refine ex_then (cx_seq (cx_region ?_))
   refine ox_y rfl (y_assign_int rfl) ?_
   refine ox_nil (ex_then (cx_ret ?_))
   obtain rfl:=Option.some.inj h
   exact ex_res1 (.inl rfl) rfl (resV_tmp (v:=.int .i64 (-1)) rfl) (fun W2 hW2 => ⟨rfl,hW2.none⟩)

theorem ref02_shows_ok (p0_f:TFire) (p1_at:TSpot) (p2_id:Int) (p3_end:Int) (p4_high:Bool) (res:Bool) (h:ref02_shows p0_f p1_at p2_id p3_end p4_high = some res) (W:World) (A0_4:Option Addr) (n0_4 c0_4 : Nat) (hn0_4:n0_4 = p0_f.fLooks.length) (hr0_4:Rd W A0_4 n0_4 c0_4 (encL TLook_cells p0_f.fLooks)) :
  Calls Tryz.prog 52 [.agg #[.int .i64 p0_f.fRise,.int .i64 p0_f.fFall,.int .i64 p0_f.fUp,.int .i64 p0_f.fDown,.slice A0_4 n0_4 c0_4],.agg #[.int .i64 p1_at.fFoot,.int .i64 p1_at.fHour],.int .i64 p2_id,.int .i64 p3_end,.bool p4_high].toArray W fun e W2 => e = .returned (.bool res) ∧ Ext W W2 []:=by
 subst hn0_4
 unfold ref02_shows at h
 refine calls_enter (m:=46) Tryz.func52 rfl rfl (Nat.le_of_ble_eq_true rfl) ?_
 refine cx_seq (cx_region ?_)
 refine ox_box [.int .i64 p0_f.fRise,.int .i64 p0_f.fFall,.int .i64 p0_f.fUp,.int .i64 p0_f.fDown,.slice A0_4 p0_f.fLooks.length c0_4] rfl rfl rfl (fun b1 => ?_)
 refine ox_box [.int .i64 p1_at.fFoot,.int .i64 p1_at.fHour] rfl rfl rfl (fun b2 => ?_)
 refine ox_y rfl (y_assign_bool rfl) ?_
 refine ox_nil (ex_then (cx_seq (cx_region ?_)))
 refine ox_y rfl (y_loadN 0 [.int .i64 p0_f.fRise,.int .i64 p0_f.fFall,.int .i64 p0_f.fUp,.int .i64 p0_f.fDown,.slice A0_4 p0_f.fLooks.length c0_4] ag_24 rfl rfl rfl) ?_
 refine ox_y rfl (y_move_int rfl) ?_
 obtain ⟨y3,hy4,h⟩:=bind_some h
 refine ox_y rfl (y_call [.agg #[.int .i64 p0_f.fRise,.int .i64 p0_f.fFall,.int .i64 p0_f.fUp,.int .i64 p0_f.fDown,.slice A0_4 p0_f.fLooks.length c0_4],.int .i64 p2_id] go_95 rfl (fun W2 hW2 => ref02_look_ok p0_f p2_id y3 hy4 W2 A0_4 p0_f.fLooks.length c0_4 rfl ((RdL.arg hr0_4) W2 hW2)) rfl) ?_
 refine ox_y rfl (y_assign_int rfl) ?_
 refine ox_nil (ex_then (cx_seq (cx_seq (cx_region ?_))))
 refine ox_y rfl (y_move_int rfl) ?_
 refine ox_y rfl (y_lss rfl rfl) ?_
 refine ox_nil (ex_then ?_)
 rcases ite_some h with ⟨hp5,h⟩ | ⟨hp5,h⟩
 ·refine cx_true (congrArg Value.bool hp5) ?_
  refine cx_seq (cx_region ?_)
  refine ox_y rfl (y_assign_bool rfl) ?_
  refine ox_nil (ex_then (cx_ret (ex_then_ret ?_)))
  obtain rfl:=Option.some.inj h
  exact ex_res1 (.inl rfl) rfl (resV_tmp (v:=.bool false) rfl) (fun W2 hW2 => ⟨rfl,hW2.none⟩)
 ·refine cx_false (congrArg Value.bool hp5) ?_
  refine cx_skip (ex_then (cx_seq (cx_region ?_)))
  refine ox_y rfl (y_fieldAddr fo_24_4 rfl) ?_
  refine ox_y rfl (y_load1 0 (v:=.slice A0_4 p0_f.fLooks.length c0_4) sc_22 rfl rfl rfl) ?_
  refine ox_y rfl (y_move_int rfl) ?_
  obtain ⟨hg6,h⟩:=guardO_some h
  refine ox_y rfl (y_indexR sl_22 (by decide) hg6.1 hg6.2 (RdL.arg hr0_4) (encL_len TLook_cells_len rfl) rfl rfl) ?_
  refine ox_y rfl (y_loadRN (A:=A0_4) (j:=(Int.toNat y3 * 5)) [.int .i64 ((rdL p0_f.fLooks y3).fID),.int .i64 ((rdL p0_f.fLooks y3).fAt.fFoot),.int .i64 ((rdL p0_f.fLooks y3).fAt.fHour),.int .i64 ((rdL p0_f.fLooks y3).fHeat.fLo),.int .i64 ((rdL p0_f.fLooks y3).fHeat.fHi)] ag_49 (Nat.succ_pos _) (RdL.arg hr0_4) rfl (encL_gets TLook_cells_len hg6.1 (lt_nat hg6.2 rfl))) ?_
  refine ox_alloc ze_49 rfl (fun b7 => ?_)
  refine ox_n rfl (y_storeN 2 [.int .i64 ((rdL p0_f.fLooks y3).fID),.int .i64 ((rdL p0_f.fLooks y3).fAt.fFoot),.int .i64 ((rdL p0_f.fLooks y3).fAt.fHour),.int .i64 ((rdL p0_f.fLooks y3).fHeat.fLo),.int .i64 ((rdL p0_f.fLooks y3).fHeat.fHi)] sz_49 rfl (Nat.le_of_ble_eq_true rfl) rfl rfl rfl) ?_
  refine ox_nil (ex_then (cx_seq (cx_seq (cx_region ?_))))
  refine ox_y rfl (y_move_bool rfl) ?_
  refine ox_nil (ex_then ?_)
  rcases ite_some h with ⟨hp8,h⟩ | ⟨hp8,h⟩
  ·refine cx_true (congrArg Value.bool hp8) ?_
   refine cx_seq ?_
   refine cx_draws 12 mixed (by kernel_rfl) (by kernel_rfl) ?_
   refine qx_y rfl (y_fieldAddr fo_49_2 rfl) ?_
   refine qx_y rfl (y_fieldAddr fo_28_1 rfl) ?_
   refine qx_y rfl (y_load1 2 (v:=.int .i64 ((rdL p0_f.fLooks y3).fHeat.fHi)) sc_3 rfl rfl rfl) ?_
   refine qx_y rfl (y_loadN 0 [.int .i64 p0_f.fRise,.int .i64 p0_f.fFall,.int .i64 p0_f.fUp,.int .i64 p0_f.fDown,.slice A0_4 p0_f.fLooks.length c0_4] ag_24 rfl rfl rfl) ?_
   refine qx_y rfl (y_fieldAddr fo_49_1 rfl) ?_
   refine qx_y rfl (y_loadN 2 [.int .i64 ((rdL p0_f.fLooks y3).fAt.fFoot),.int .i64 ((rdL p0_f.fLooks y3).fAt.fHour)] ag_26 rfl rfl rfl) ?_
   refine qx_y rfl (y_loadN 1 [.int .i64 p1_at.fFoot,.int .i64 p1_at.fHour] ag_26 rfl rfl rfl) ?_
   obtain ⟨y9,hy10,h⟩:=bind_some h
   refine qx_y rfl (y_call [.agg #[.int .i64 p0_f.fRise,.int .i64 p0_f.fFall,.int .i64 p0_f.fUp,.int .i64 p0_f.fDown,.slice A0_4 p0_f.fLooks.length c0_4],.agg #[.int .i64 ((rdL p0_f.fLooks y3).fAt.fFoot),.int .i64 ((rdL p0_f.fLooks y3).fAt.fHour)],.agg #[.int .i64 p1_at.fFoot,.int .i64 p1_at.fHour]] go_64 rfl (fun W2 hW2 => ref02_far_ok p0_f (TSpot.mk ((rdL p0_f.fLooks y3).fAt.fFoot) ((rdL p0_f.fLooks y3).fAt.fHour)) p1_at y9 hy10 W2 A0_4 p0_f.fLooks.length c0_4 rfl ((RdL.arg hr0_4) W2 hW2)) rfl) ?_
   refine qx_y rfl (y_add rfl rfl) ?_
   refine qx_y rfl (y_move_int rfl) ?_
   refine qx_y rfl (y_eql rfl rfl) ?_
   refine qx_y rfl (y_assign_bool rfl) ?_
   refine qx_nil ?_
   refine ox_nil (ex_then (cx_ret (ex_then_ret ?_)))
   obtain rfl:=Option.some.inj h
   exact ex_res1 (.inl rfl) rfl (resV_tmp (v:=.bool ((w64 (((rdL p0_f.fLooks y3).fHeat.fHi) + y9)) == p3_end)) rfl) (fun W2 hW2 => ⟨rfl,hW2.none⟩)
  ·refine cx_false (congrArg Value.bool hp8) ?_
   refine cx_skip (ex_then (cx_seq ?_))
   refine cx_draws 12 mixed (by kernel_rfl) (by kernel_rfl) ?_
   refine qx_y rfl (y_fieldAddr fo_49_2 rfl) ?_
   refine qx_y rfl (y_fieldAddr fo_28_0 rfl) ?_
   refine qx_y rfl (y_load1 2 (v:=.int .i64 ((rdL p0_f.fLooks y3).fHeat.fLo)) sc_3 rfl rfl rfl) ?_
   refine qx_y rfl (y_loadN 0 [.int .i64 p0_f.fRise,.int .i64 p0_f.fFall,.int .i64 p0_f.fUp,.int .i64 p0_f.fDown,.slice A0_4 p0_f.fLooks.length c0_4] ag_24 rfl rfl rfl) ?_
   refine qx_y rfl (y_loadN 1 [.int .i64 p1_at.fFoot,.int .i64 p1_at.fHour] ag_26 rfl rfl rfl) ?_
   refine qx_y rfl (y_fieldAddr fo_49_1 rfl) ?_
   refine qx_y rfl (y_loadN 2 [.int .i64 ((rdL p0_f.fLooks y3).fAt.fFoot),.int .i64 ((rdL p0_f.fLooks y3).fAt.fHour)] ag_26 rfl rfl rfl) ?_
   obtain ⟨y11,hy12,h⟩:=bind_some h
   refine qx_y rfl (y_call [.agg #[.int .i64 p0_f.fRise,.int .i64 p0_f.fFall,.int .i64 p0_f.fUp,.int .i64 p0_f.fDown,.slice A0_4 p0_f.fLooks.length c0_4],.agg #[.int .i64 p1_at.fFoot,.int .i64 p1_at.fHour],.agg #[.int .i64 ((rdL p0_f.fLooks y3).fAt.fFoot),.int .i64 ((rdL p0_f.fLooks y3).fAt.fHour)]] go_64 rfl (fun W2 hW2 => ref02_far_ok p0_f p1_at (TSpot.mk ((rdL p0_f.fLooks y3).fAt.fFoot) ((rdL p0_f.fLooks y3).fAt.fHour)) y11 hy12 W2 A0_4 p0_f.fLooks.length c0_4 rfl ((RdL.arg hr0_4) W2 hW2)) rfl) ?_
   refine qx_y rfl (y_sub rfl rfl) ?_
   refine qx_y rfl (y_move_int rfl) ?_
   refine qx_y rfl (y_eql rfl rfl) ?_
   refine qx_y rfl (y_assign_bool rfl) ?_
   refine qx_nil ?_
   refine ox_nil (ex_then (cx_ret ?_))
   obtain rfl:=Option.some.inj h
   exact ex_res1 (.inl rfl) rfl (resV_tmp (v:=.bool ((w64 (((rdL p0_f.fLooks y3).fHeat.fLo) - y11)) == p3_end)) rfl) (fun W2 hW2 => ⟨rfl,hW2.none⟩)

theorem ref02_bounds_ok (p0:TFire) (p1:TSpot) (res:TBounds) (h:ref02_bounds p0 p1 = some res) (W:World) (A0_4:Option Addr) (n0_4 c0_4 : Nat) (hn0_4:n0_4 = p0.fLooks.length) (hr0_4:Rd W A0_4 n0_4 c0_4 (encL TLook_cells p0.fLooks)) :
  Calls Tryz.prog 41 [.agg #[.int .i64 p0.fRise,.int .i64 p0.fFall,.int .i64 p0.fUp,.int .i64 p0.fDown,.slice A0_4 n0_4 c0_4],.agg #[.int .i64 p1.fFoot,.int .i64 p1.fHour]].toArray W fun e W2 => e = .returned (.agg #[.int .i64 res.fSpan.fLo,.int .i64 res.fSpan.fHi,.int .i64 res.fLow,.int .i64 res.fHigh]) ∧ Ext W W2 []:=by
 subst hn0_4
 unfold ref02_bounds at h
 refine calls_enter (m:=75) Tryz.func41 rfl rfl (Nat.le_of_ble_eq_true rfl) ?_
 refine cx_seq (cx_region ?_)
 refine ox_box [.int .i64 p0.fRise,.int .i64 p0.fFall,.int .i64 p0.fUp,.int .i64 p0.fDown,.slice A0_4 p0.fLooks.length c0_4] rfl rfl rfl (fun b1 => ?_)
 refine ox_box [.int .i64 p1.fFoot,.int .i64 p1.fHour] rfl rfl rfl (fun b2 => ?_)
 refine ox_alloc ze_30 rfl (fun b3 => ?_)
 refine ox_nil (ex_then (cx_seq (cx_region ?_)))
 refine ox_y rfl (y_loadN 0 [.int .i64 p0.fRise,.int .i64 p0.fFall,.int .i64 p0.fUp,.int .i64 p0.fDown,.slice A0_4 p0.fLooks.length c0_4] ag_24 rfl rfl rfl) ?_
 refine ox_y rfl (y_loadN 1 [.int .i64 p1.fFoot,.int .i64 p1.fHour] ag_26 rfl rfl rfl) ?_
 obtain ⟨y4,hy5,h⟩:=bind_some h
 refine ox_y rfl (y_call [.agg #[.int .i64 p0.fRise,.int .i64 p0.fFall,.int .i64 p0.fUp,.int .i64 p0.fDown,.slice A0_4 p0.fLooks.length c0_4],.agg #[.int .i64 p1.fFoot,.int .i64 p1.fHour]] go_45 rfl (fun W2 hW2 => ref02_ends_ok p0 p1 y4 hy5 W2 A0_4 p0.fLooks.length c0_4 rfl ((RdL.arg hr0_4) W2 hW2)) rfl) ?_
 refine ox_y rfl (y_buildS [.int .i64 y4.fLo,.int .i64 y4.fHi,.int .i64 0,.int .i64 0] [(0,2),(2,1),(3,1)] ust_30 ze_30 (by kernel_rfl)) ?_
 refine ox_alloc ze_30 rfl (fun b6 => ?_)
 refine ox_n rfl (y_storeN 3 [.int .i64 y4.fLo,.int .i64 y4.fHi,.int .i64 0,.int .i64 0] sz_30 rfl (Nat.le_of_ble_eq_true rfl) rfl rfl rfl) ?_
 refine ox_nil (ex_then (cx_seq (cx_seq (cx_region ?_))))
 refine ox_y rfl (y_assign_int rfl) ?_
 refine ox_nil (ex_then (cx_block ?_))
 obtain ⟨u10,hl27,h⟩:=bind_some h
 refine cx_loop (fun (s:(Int × Int × Int)) L tm => ∃ (tm0:Nat → Value),L = [cellsR b1 24 [.int .i64 p0.fRise,.int .i64 p0.fFall,.int .i64 p0.fUp,.int .i64 p0.fDown,.slice A0_4 p0.fLooks.length c0_4],cellsR b2 26 [.int .i64 p1.fFoot,.int .i64 p1.fHour],cellsR b3 30 [.int .i64 0,.int .i64 0,.int .i64 0,.int .i64 0],cellsR b6 30 [.int .i64 y4.fLo,.int .i64 y4.fHi,.int .i64 s.2.1,.int .i64 s.2.2]] ∧ tm = (upd (upd (upd (upd (upd (upd (upd tm0 0 (.agg #[.int .i64 p0.fRise,.int .i64 p0.fFall,.int .i64 p0.fUp,.int .i64 p0.fDown,.slice A0_4 p0.fLooks.length c0_4])) 1 (.agg #[.int .i64 p1.fFoot,.int .i64 p1.fHour])) 2 (.pointer (some ⟨b1,0,none⟩))) 3 (.pointer (some ⟨b2,0,none⟩))) 4 (.pointer (some ⟨b3,0,none⟩))) 5 (.pointer (some ⟨b6,0,none⟩))) 6 (.int .i64 s.1))) (fun s e L tm => e = .exit 0 ∧ ∃ (tm0:Nat → Value),L = [cellsR b1 24 [.int .i64 p0.fRise,.int .i64 p0.fFall,.int .i64 p0.fUp,.int .i64 p0.fDown,.slice A0_4 p0.fLooks.length c0_4],cellsR b2 26 [.int .i64 p1.fFoot,.int .i64 p1.fHour],cellsR b3 30 [.int .i64 0,.int .i64 0,.int .i64 0,.int .i64 0],cellsR b6 30 [.int .i64 y4.fLo,.int .i64 y4.fHi,.int .i64 s.2.1,.int .i64 s.2.2]] ∧ tm = (upd (upd (upd (upd (upd (upd (upd tm0 0 (.agg #[.int .i64 p0.fRise,.int .i64 p0.fFall,.int .i64 p0.fUp,.int .i64 p0.fDown,.slice A0_4 p0.fLooks.length c0_4])) 1 (.agg #[.int .i64 p1.fFoot,.int .i64 p1.fHour])) 2 (.pointer (some ⟨b1,0,none⟩))) 3 (.pointer (some ⟨b2,0,none⟩))) 4 (.pointer (some ⟨b3,0,none⟩))) 5 (.pointer (some ⟨b6,0,none⟩))) 6 (.int .i64 s.1))) hl27 ⟨_,rfl,(keep (keep (keep (keep (keep (keep (keep rfl rfl) rfl) rfl) rfl) rfl) rfl) rfl)⟩ ?_ ?_
 ·rintro s9 L tm st ⟨tm0_s9,rfl,rfl⟩ h
  unfold ref02_bounds_l1 at h
  refine cx_seq (cx_seq (cx_region ?_))
  refine ox_y rfl (y_move_int rfl) ?_
  refine ox_y rfl (y_fieldAddr fo_24_4 rfl) ?_
  refine ox_y rfl (y_load1 0 (v:=.slice A0_4 p0.fLooks.length c0_4) sc_22 rfl rfl rfl) ?_
  refine ox_y rfl (y_len (us:=[]) us_22 rfl) ?_
  refine ox_y rfl (y_lss rfl rfl) ?_
  refine ox_nil (ex_then ?_)
  rcases ite_some h with ⟨hp11,h⟩ | ⟨hp11,h⟩
  ·refine cx_true (congrArg Value.bool hp11) ?_
   refine cx_skip (ex_then (cx_seq (cx_block (cx_seq (cx_region ?_)))))
   refine ox_y rfl (y_fieldAddr fo_24_4 rfl) ?_
   refine ox_y rfl (y_load1 0 (v:=.slice A0_4 p0.fLooks.length c0_4) sc_22 rfl rfl rfl) ?_
   refine ox_y rfl (y_move_int rfl) ?_
   obtain ⟨hg12,h⟩:=guardO_some h
   refine ox_y rfl (y_indexR sl_22 (by decide) hg12.1 hg12.2 (RdL.arg hr0_4) (encL_len TLook_cells_len rfl) rfl rfl) ?_
   refine ox_y rfl (y_loadRN (A:=A0_4) (j:=(Int.toNat s9.1 * 5)) [.int .i64 ((rdL p0.fLooks s9.1).fID),.int .i64 ((rdL p0.fLooks s9.1).fAt.fFoot),.int .i64 ((rdL p0.fLooks s9.1).fAt.fHour),.int .i64 ((rdL p0.fLooks s9.1).fHeat.fLo),.int .i64 ((rdL p0.fLooks s9.1).fHeat.fHi)] ag_49 (Nat.succ_pos _) (RdL.arg hr0_4) rfl (encL_gets TLook_cells_len hg12.1 (lt_nat hg12.2 rfl))) ?_
   refine ox_alloc ze_49 rfl (fun b13 => ?_)
   refine ox_n rfl (y_storeN 4 [.int .i64 ((rdL p0.fLooks s9.1).fID),.int .i64 ((rdL p0.fLooks s9.1).fAt.fFoot),.int .i64 ((rdL p0.fLooks s9.1).fAt.fHour),.int .i64 ((rdL p0.fLooks s9.1).fHeat.fLo),.int .i64 ((rdL p0.fLooks s9.1).fHeat.fHi)] sz_49 rfl (Nat.le_of_ble_eq_true rfl) rfl rfl rfl) ?_
   refine ox_nil (ex_then (cx_seq (cx_region ?_)))
   refine ox_y rfl (y_loadN 0 [.int .i64 p0.fRise,.int .i64 p0.fFall,.int .i64 p0.fUp,.int .i64 p0.fDown,.slice A0_4 p0.fLooks.length c0_4] ag_24 rfl rfl rfl) ?_
   refine ox_y rfl (y_loadN 1 [.int .i64 p1.fFoot,.int .i64 p1.fHour] ag_26 rfl rfl rfl) ?_
   refine ox_y rfl (y_fieldAddr fo_49_0 rfl) ?_
   refine ox_y rfl (y_load1 4 (v:=.int .i64 ((rdL p0.fLooks s9.1).fID)) sc_3 rfl rfl rfl) ?_
   refine ox_y rfl (y_fieldAddr fo_30_0 rfl) ?_
   refine ox_y rfl (y_fieldAddr fo_28_0 rfl) ?_
   refine ox_y rfl (y_load1 3 (v:=.int .i64 y4.fLo) sc_3 rfl rfl rfl) ?_
   obtain ⟨y14,hy15,h⟩:=bind_some h
   refine ox_y rfl (y_call [.agg #[.int .i64 p0.fRise,.int .i64 p0.fFall,.int .i64 p0.fUp,.int .i64 p0.fDown,.slice A0_4 p0.fLooks.length c0_4],.agg #[.int .i64 p1.fFoot,.int .i64 p1.fHour],.int .i64 ((rdL p0.fLooks s9.1).fID),.int .i64 y4.fLo,.bool false] go_52 rfl (fun W2 hW2 => ref02_shows_ok p0 p1 ((rdL p0.fLooks s9.1).fID) y4.fLo false y14 hy15 W2 A0_4 p0.fLooks.length c0_4 rfl ((RdL.arg hr0_4) W2 hW2)) rfl) ?_
   refine ox_y rfl (y_assign_bool rfl) ?_
   refine ox_nil (ex_then (cx_seq (cx_region ?_)))
   refine ox_y rfl (y_loadN 0 [.int .i64 p0.fRise,.int .i64 p0.fFall,.int .i64 p0.fUp,.int .i64 p0.fDown,.slice A0_4 p0.fLooks.length c0_4] ag_24 rfl rfl rfl) ?_
   refine ox_y rfl (y_loadN 1 [.int .i64 p1.fFoot,.int .i64 p1.fHour] ag_26 rfl rfl rfl) ?_
   refine ox_y rfl (y_fieldAddr fo_49_0 rfl) ?_
   refine ox_y rfl (y_load1 4 (v:=.int .i64 ((rdL p0.fLooks s9.1).fID)) sc_3 rfl rfl rfl) ?_
   refine ox_y rfl (y_fieldAddr fo_30_0 rfl) ?_
   refine ox_y rfl (y_fieldAddr fo_28_1 rfl) ?_
   refine ox_y rfl (y_load1 3 (v:=.int .i64 y4.fHi) sc_3 rfl rfl rfl) ?_
   obtain ⟨y16,hy17,h⟩:=bind_some h
   refine ox_y rfl (y_call [.agg #[.int .i64 p0.fRise,.int .i64 p0.fFall,.int .i64 p0.fUp,.int .i64 p0.fDown,.slice A0_4 p0.fLooks.length c0_4],.agg #[.int .i64 p1.fFoot,.int .i64 p1.fHour],.int .i64 ((rdL p0.fLooks s9.1).fID),.int .i64 y4.fHi,.bool true] go_52 rfl (fun W2 hW2 => ref02_shows_ok p0 p1 ((rdL p0.fLooks s9.1).fID) y4.fHi true y16 hy17 W2 A0_4 p0.fLooks.length c0_4 rfl ((RdL.arg hr0_4) W2 hW2)) rfl) ?_
   refine ox_y rfl (y_assign_bool rfl) ?_
   refine ox_nil (ex_then (cx_seq (cx_seq (cx_region ?_))))
   refine ox_y rfl (y_move_bool rfl) ?_
   refine ox_y rfl (y_move_bool rfl) ?_
   refine ox_join 11 (fun tm0 => (upd (upd (upd (upd (upd (upd (upd (upd (upd (upd (upd (upd tm0 0 (.agg #[.int .i64 p0.fRise,.int .i64 p0.fFall,.int .i64 p0.fUp,.int .i64 p0.fDown,.slice A0_4 p0.fLooks.length c0_4])) 1 (.agg #[.int .i64 p1.fFoot,.int .i64 p1.fHour])) 2 (.pointer (some ⟨b1,0,none⟩))) 3 (.pointer (some ⟨b2,0,none⟩))) 4 (.pointer (some ⟨b3,0,none⟩))) 5 (.pointer (some ⟨b6,0,none⟩))) 6 (.int .i64 s9.1)) 18 (.bool (decide (s9.1 < (p0.fLooks.length:Int))))) 7 (.pointer (some ⟨b13,0,none⟩))) 8 (.bool y14)) 9 (.bool y16)) 54 (.bool (y14 && ((s9.2.1 == 0) || (decide ((rdL p0.fLooks s9.1).fID < s9.2.1))))))) (fun tm0 => ?_) (fun key => ?_)
   ·refine ox_nil (ex_then ?_)
    rcases ite_some h with ⟨hp19,h⟩ | ⟨hp19,h⟩
    ·refine cx_true (congrArg Value.bool hp19) ?_
     refine cx_region ?_
     refine ox_y rfl (y_fieldAddr fo_49_0 rfl) ?_
     refine ox_y rfl (y_load1 4 (v:=.int .i64 ((rdL p0.fLooks s9.1).fID)) sc_3 rfl rfl rfl) ?_
     refine ox_y rfl (y_fieldAddr fo_30_1 rfl) ?_
     refine ox_n rfl (y_store1 3 (v:=.int .i64 ((rdL p0.fLooks s9.1).fID)) sz_3 rfl (Nat.lt_of_lt_of_le (Nat.lt_succ_self _) (Nat.le_of_ble_eq_true rfl)) rfl rfl rfl) ?_
     refine ox_nil (ex_then (cx_seq (cx_region ?_)))
     refine ox_y rfl (y_move_bool rfl) ?_
     refine ox_y rfl (y_move_bool rfl) ?_
     refine ox_join 11 (fun tm0 => (upd (upd (upd (upd (upd (upd (upd (upd (upd (upd (upd (upd (upd tm0 0 (.agg #[.int .i64 p0.fRise,.int .i64 p0.fFall,.int .i64 p0.fUp,.int .i64 p0.fDown,.slice A0_4 p0.fLooks.length c0_4])) 1 (.agg #[.int .i64 p1.fFoot,.int .i64 p1.fHour])) 2 (.pointer (some ⟨b1,0,none⟩))) 3 (.pointer (some ⟨b2,0,none⟩))) 4 (.pointer (some ⟨b3,0,none⟩))) 5 (.pointer (some ⟨b6,0,none⟩))) 6 (.int .i64 s9.1)) 18 (.bool (decide (s9.1 < (p0.fLooks.length:Int))))) 7 (.pointer (some ⟨b13,0,none⟩))) 8 (.bool y14)) 9 (.bool y16)) 54 (.bool (y14 && ((s9.2.1 == 0) || (decide ((rdL p0.fLooks s9.1).fID < s9.2.1)))))) 70 (.bool (y16 && ((s9.2.2 == 0) || (decide ((rdL p0.fLooks s9.1).fID < s9.2.2))))))) (fun tm0 => ?_) (fun key => ?_)
     ·refine ox_nil (ex_then ?_)
      rcases ite_some h with ⟨hp21,h⟩ | ⟨hp21,h⟩
      ·refine cx_true (congrArg Value.bool hp21) ?_
       refine cx_region ?_
       refine ox_y rfl (y_fieldAddr fo_49_0 rfl) ?_
       refine ox_y rfl (y_load1 4 (v:=.int .i64 ((rdL p0.fLooks s9.1).fID)) sc_3 rfl rfl rfl) ?_
       refine ox_y rfl (y_fieldAddr fo_30_2 rfl) ?_
       refine ox_n rfl (y_store1 3 (v:=.int .i64 ((rdL p0.fLooks s9.1).fID)) sz_3 rfl (Nat.lt_of_lt_of_le (Nat.lt_succ_self _) (Nat.le_of_ble_eq_true rfl)) rfl rfl rfl) ?_
       refine ox_nil ?_
       refine ex_block ?_
       refine ex_then (cx_region ?_)
       refine ox_y rfl (y_move_int rfl) ?_
       refine ox_y rfl (y_add rfl rfl) ?_
       refine ox_y rfl (y_assign_int rfl) ?_
       refine ox_nil ?_
       refine ex_take 4 ?_
       obtain rfl:=Option.some.inj h
       exact ex_next ⟨_,rfl,(keep (keep (keep (keep (keep (keep (keep rfl rfl) rfl) rfl) rfl) rfl) rfl) rfl)⟩
      ·refine cx_false (congrArg Value.bool hp21) ?_
       refine cx_skip ?_
       refine ex_block ?_
       refine ex_then (cx_region ?_)
       refine ox_y rfl (y_move_int rfl) ?_
       refine ox_y rfl (y_add rfl rfl) ?_
       refine ox_y rfl (y_assign_int rfl) ?_
       refine ox_nil ?_
       refine ex_take 4 ?_
       obtain rfl:=Option.some.inj h
       exact ex_next ⟨_,rfl,(keep (keep (keep (keep (keep (keep (keep rfl rfl) rfl) rfl) rfl) rfl) rfl) rfl)⟩
     ·rcases bool_cases y16 with hp20 | hp20
      ·refine ox_y (sees_t rfl rfl rfl rfl hp20) (y_fieldAddr fo_30_2 rfl) ?_
       refine ox_y (sees_t rfl rfl rfl rfl hp20) (y_load1 3 (v:=.int .i64 s9.2.2) sc_3 rfl rfl rfl) ?_
       refine ox_y (sees_t rfl rfl rfl rfl hp20) (y_eql rfl rfl) ?_
       refine ox_y (sees_t rfl rfl rfl rfl hp20) (y_move_bool rfl) ?_
       refine ox_join 6 (fun tm0 => (upd (upd (upd (upd (upd (upd (upd (upd (upd (upd (upd (upd (upd (upd tm0 0 (.agg #[.int .i64 p0.fRise,.int .i64 p0.fFall,.int .i64 p0.fUp,.int .i64 p0.fDown,.slice A0_4 p0.fLooks.length c0_4])) 1 (.agg #[.int .i64 p1.fFoot,.int .i64 p1.fHour])) 2 (.pointer (some ⟨b1,0,none⟩))) 3 (.pointer (some ⟨b2,0,none⟩))) 4 (.pointer (some ⟨b3,0,none⟩))) 5 (.pointer (some ⟨b6,0,none⟩))) 6 (.int .i64 s9.1)) 18 (.bool (decide (s9.1 < (p0.fLooks.length:Int))))) 7 (.pointer (some ⟨b13,0,none⟩))) 8 (.bool y14)) 9 (.bool y16)) 54 (.bool (y14 && ((s9.2.1 == 0) || (decide ((rdL p0.fLooks s9.1).fID < s9.2.1)))))) 59 (.bool y16)) 69 (.bool ((s9.2.2 == 0) || (decide ((rdL p0.fLooks s9.1).fID < s9.2.2)))))) (fun tm0 => ?_) (fun key => ?_)
       ·refine ox_y rfl (y_pick_tb (congrArg Value.bool hp20) rfl) ?_
        exact key _ _ (keep (keep (keep (keep (keep (keep (keep (keep (keep (keep (keep (keep (keep rfl rfl) rfl) rfl) rfl) rfl) rfl) rfl) rfl) rfl) rfl) rfl) rfl) (congrArg Value.bool (and_t hp20)))
       ·rcases bool_cases (s9.2.2 == 0) with hp22 | hp22
        ·refine ox_skip (sees_f rfl rfl rfl rfl hp22) ?_
         refine ox_skip (sees_f rfl rfl rfl rfl hp22) ?_
         refine ox_skip (sees_f rfl rfl rfl rfl hp22) ?_
         refine ox_skip (sees_f rfl rfl rfl rfl hp22) ?_
         refine ox_skip (sees_f rfl rfl rfl rfl hp22) ?_
         refine ox_y (sees_t rfl rfl rfl rfl hp20) (y_pick_tb (congrArg Value.bool hp22) rfl) ?_
         exact key _ _ (keep (keep (keep (keep (keep (keep (keep (keep (keep (keep (keep (keep (keep (keep rfl rfl) rfl) rfl) rfl) rfl) rfl) rfl) rfl) rfl) rfl) rfl) rfl) rfl) (congrArg Value.bool (or_t hp22)))
        ·refine ox_y (sees_t rfl rfl rfl rfl hp22) (y_fieldAddr fo_49_0 rfl) ?_
         refine ox_y (sees_t rfl rfl rfl rfl hp22) (y_load1 4 (v:=.int .i64 ((rdL p0.fLooks s9.1).fID)) sc_3 rfl rfl rfl) ?_
         refine ox_y (sees_t rfl rfl rfl rfl hp22) (y_fieldAddr fo_30_2 rfl) ?_
         refine ox_y (sees_t rfl rfl rfl rfl hp22) (y_load1 3 (v:=.int .i64 s9.2.2) sc_3 rfl rfl rfl) ?_
         refine ox_y (sees_t rfl rfl rfl rfl hp22) (y_lss rfl rfl) ?_
         refine ox_y (sees_t rfl rfl rfl rfl hp20) (y_pick_fb (congrArg Value.bool hp22) rfl) ?_
         exact key _ _ (keep (keep (keep (keep (keep (keep (keep (keep (keep (keep (keep (keep (keep (keep rfl rfl) rfl) rfl) rfl) rfl) rfl) rfl) rfl) rfl) rfl) rfl) rfl) rfl) (congrArg Value.bool (or_f hp22)))
      ·refine ox_skip (sees_f rfl rfl rfl rfl hp20) ?_
       refine ox_skip (sees_f rfl rfl rfl rfl hp20) ?_
       refine ox_skip (sees_f rfl rfl rfl rfl hp20) ?_
       refine ox_skip (sees_f rfl rfl rfl rfl hp20) ?_
       refine ox_skip rfl ?_
       refine ox_skip rfl ?_
       refine ox_skip rfl ?_
       refine ox_skip rfl ?_
       refine ox_skip rfl ?_
       refine ox_skip (sees_f rfl rfl rfl rfl hp20) ?_
       refine ox_y rfl (y_pick_fb (congrArg Value.bool hp20) rfl) ?_
       exact key _ _ (keep (keep (keep (keep (keep (keep (keep (keep (keep (keep (keep (keep (keep rfl rfl) rfl) rfl) rfl) rfl) rfl) rfl) rfl) rfl) rfl) rfl) rfl) (congrArg Value.bool (and_f hp20)))
    ·refine cx_false (congrArg Value.bool hp19) ?_
     refine cx_skip (ex_then (cx_seq (cx_region ?_)))
     refine ox_y rfl (y_move_bool rfl) ?_
     refine ox_y rfl (y_move_bool rfl) ?_
     refine ox_join 11 (fun tm0 => (upd (upd (upd (upd (upd (upd (upd (upd (upd (upd (upd (upd (upd tm0 0 (.agg #[.int .i64 p0.fRise,.int .i64 p0.fFall,.int .i64 p0.fUp,.int .i64 p0.fDown,.slice A0_4 p0.fLooks.length c0_4])) 1 (.agg #[.int .i64 p1.fFoot,.int .i64 p1.fHour])) 2 (.pointer (some ⟨b1,0,none⟩))) 3 (.pointer (some ⟨b2,0,none⟩))) 4 (.pointer (some ⟨b3,0,none⟩))) 5 (.pointer (some ⟨b6,0,none⟩))) 6 (.int .i64 s9.1)) 18 (.bool (decide (s9.1 < (p0.fLooks.length:Int))))) 7 (.pointer (some ⟨b13,0,none⟩))) 8 (.bool y14)) 9 (.bool y16)) 54 (.bool (y14 && ((s9.2.1 == 0) || (decide ((rdL p0.fLooks s9.1).fID < s9.2.1)))))) 70 (.bool (y16 && ((s9.2.2 == 0) || (decide ((rdL p0.fLooks s9.1).fID < s9.2.2))))))) (fun tm0 => ?_) (fun key => ?_)
     ·refine ox_nil (ex_then ?_)
      rcases ite_some h with ⟨hp24,h⟩ | ⟨hp24,h⟩
      ·refine cx_true (congrArg Value.bool hp24) ?_
       refine cx_region ?_
       refine ox_y rfl (y_fieldAddr fo_49_0 rfl) ?_
       refine ox_y rfl (y_load1 4 (v:=.int .i64 ((rdL p0.fLooks s9.1).fID)) sc_3 rfl rfl rfl) ?_
       refine ox_y rfl (y_fieldAddr fo_30_2 rfl) ?_
       refine ox_n rfl (y_store1 3 (v:=.int .i64 ((rdL p0.fLooks s9.1).fID)) sz_3 rfl (Nat.lt_of_lt_of_le (Nat.lt_succ_self _) (Nat.le_of_ble_eq_true rfl)) rfl rfl rfl) ?_
       refine ox_nil ?_
       refine ex_block ?_
       refine ex_then (cx_region ?_)
       refine ox_y rfl (y_move_int rfl) ?_
       refine ox_y rfl (y_add rfl rfl) ?_
       refine ox_y rfl (y_assign_int rfl) ?_
       refine ox_nil ?_
       refine ex_take 4 ?_
       obtain rfl:=Option.some.inj h
       exact ex_next ⟨_,rfl,(keep (keep (keep (keep (keep (keep (keep rfl rfl) rfl) rfl) rfl) rfl) rfl) rfl)⟩
      ·refine cx_false (congrArg Value.bool hp24) ?_
       refine cx_skip ?_
       refine ex_block ?_
       refine ex_then (cx_region ?_)
       refine ox_y rfl (y_move_int rfl) ?_
       refine ox_y rfl (y_add rfl rfl) ?_
       refine ox_y rfl (y_assign_int rfl) ?_
       refine ox_nil ?_
       refine ex_take 4 ?_
       obtain rfl:=Option.some.inj h
       exact ex_next ⟨_,rfl,(keep (keep (keep (keep (keep (keep (keep rfl rfl) rfl) rfl) rfl) rfl) rfl) rfl)⟩
     ·rcases bool_cases y16 with hp23 | hp23
      ·refine ox_y (sees_t rfl rfl rfl rfl hp23) (y_fieldAddr fo_30_2 rfl) ?_
       refine ox_y (sees_t rfl rfl rfl rfl hp23) (y_load1 3 (v:=.int .i64 s9.2.2) sc_3 rfl rfl rfl) ?_
       refine ox_y (sees_t rfl rfl rfl rfl hp23) (y_eql rfl rfl) ?_
       refine ox_y (sees_t rfl rfl rfl rfl hp23) (y_move_bool rfl) ?_
       refine ox_join 6 (fun tm0 => (upd (upd (upd (upd (upd (upd (upd (upd (upd (upd (upd (upd (upd (upd tm0 0 (.agg #[.int .i64 p0.fRise,.int .i64 p0.fFall,.int .i64 p0.fUp,.int .i64 p0.fDown,.slice A0_4 p0.fLooks.length c0_4])) 1 (.agg #[.int .i64 p1.fFoot,.int .i64 p1.fHour])) 2 (.pointer (some ⟨b1,0,none⟩))) 3 (.pointer (some ⟨b2,0,none⟩))) 4 (.pointer (some ⟨b3,0,none⟩))) 5 (.pointer (some ⟨b6,0,none⟩))) 6 (.int .i64 s9.1)) 18 (.bool (decide (s9.1 < (p0.fLooks.length:Int))))) 7 (.pointer (some ⟨b13,0,none⟩))) 8 (.bool y14)) 9 (.bool y16)) 54 (.bool (y14 && ((s9.2.1 == 0) || (decide ((rdL p0.fLooks s9.1).fID < s9.2.1)))))) 59 (.bool y16)) 69 (.bool ((s9.2.2 == 0) || (decide ((rdL p0.fLooks s9.1).fID < s9.2.2)))))) (fun tm0 => ?_) (fun key => ?_)
       ·refine ox_y rfl (y_pick_tb (congrArg Value.bool hp23) rfl) ?_
        exact key _ _ (keep (keep (keep (keep (keep (keep (keep (keep (keep (keep (keep (keep (keep rfl rfl) rfl) rfl) rfl) rfl) rfl) rfl) rfl) rfl) rfl) rfl) rfl) (congrArg Value.bool (and_t hp23)))
       ·rcases bool_cases (s9.2.2 == 0) with hp25 | hp25
        ·refine ox_skip (sees_f rfl rfl rfl rfl hp25) ?_
         refine ox_skip (sees_f rfl rfl rfl rfl hp25) ?_
         refine ox_skip (sees_f rfl rfl rfl rfl hp25) ?_
         refine ox_skip (sees_f rfl rfl rfl rfl hp25) ?_
         refine ox_skip (sees_f rfl rfl rfl rfl hp25) ?_
         refine ox_y (sees_t rfl rfl rfl rfl hp23) (y_pick_tb (congrArg Value.bool hp25) rfl) ?_
         exact key _ _ (keep (keep (keep (keep (keep (keep (keep (keep (keep (keep (keep (keep (keep (keep rfl rfl) rfl) rfl) rfl) rfl) rfl) rfl) rfl) rfl) rfl) rfl) rfl) rfl) (congrArg Value.bool (or_t hp25)))
        ·refine ox_y (sees_t rfl rfl rfl rfl hp25) (y_fieldAddr fo_49_0 rfl) ?_
         refine ox_y (sees_t rfl rfl rfl rfl hp25) (y_load1 4 (v:=.int .i64 ((rdL p0.fLooks s9.1).fID)) sc_3 rfl rfl rfl) ?_
         refine ox_y (sees_t rfl rfl rfl rfl hp25) (y_fieldAddr fo_30_2 rfl) ?_
         refine ox_y (sees_t rfl rfl rfl rfl hp25) (y_load1 3 (v:=.int .i64 s9.2.2) sc_3 rfl rfl rfl) ?_
         refine ox_y (sees_t rfl rfl rfl rfl hp25) (y_lss rfl rfl) ?_
         refine ox_y (sees_t rfl rfl rfl rfl hp23) (y_pick_fb (congrArg Value.bool hp25) rfl) ?_
         exact key _ _ (keep (keep (keep (keep (keep (keep (keep (keep (keep (keep (keep (keep (keep (keep rfl rfl) rfl) rfl) rfl) rfl) rfl) rfl) rfl) rfl) rfl) rfl) rfl) rfl) (congrArg Value.bool (or_f hp25)))
      ·refine ox_skip (sees_f rfl rfl rfl rfl hp23) ?_
       refine ox_skip (sees_f rfl rfl rfl rfl hp23) ?_
       refine ox_skip (sees_f rfl rfl rfl rfl hp23) ?_
       refine ox_skip (sees_f rfl rfl rfl rfl hp23) ?_
       refine ox_skip rfl ?_
       refine ox_skip rfl ?_
       refine ox_skip rfl ?_
       refine ox_skip rfl ?_
       refine ox_skip rfl ?_
       refine ox_skip (sees_f rfl rfl rfl rfl hp23) ?_
       refine ox_y rfl (y_pick_fb (congrArg Value.bool hp23) rfl) ?_
       exact key _ _ (keep (keep (keep (keep (keep (keep (keep (keep (keep (keep (keep (keep (keep rfl rfl) rfl) rfl) rfl) rfl) rfl) rfl) rfl) rfl) rfl) rfl) rfl) (congrArg Value.bool (and_f hp23)))
   ·rcases bool_cases y14 with hp18 | hp18
    ·refine ox_y (sees_t rfl rfl rfl rfl hp18) (y_fieldAddr fo_30_1 rfl) ?_
     refine ox_y (sees_t rfl rfl rfl rfl hp18) (y_load1 3 (v:=.int .i64 s9.2.1) sc_3 rfl rfl rfl) ?_
     refine ox_y (sees_t rfl rfl rfl rfl hp18) (y_eql rfl rfl) ?_
     refine ox_y (sees_t rfl rfl rfl rfl hp18) (y_move_bool rfl) ?_
     refine ox_join 6 (fun tm0 => (upd (upd (upd (upd (upd (upd (upd (upd (upd (upd (upd (upd (upd tm0 0 (.agg #[.int .i64 p0.fRise,.int .i64 p0.fFall,.int .i64 p0.fUp,.int .i64 p0.fDown,.slice A0_4 p0.fLooks.length c0_4])) 1 (.agg #[.int .i64 p1.fFoot,.int .i64 p1.fHour])) 2 (.pointer (some ⟨b1,0,none⟩))) 3 (.pointer (some ⟨b2,0,none⟩))) 4 (.pointer (some ⟨b3,0,none⟩))) 5 (.pointer (some ⟨b6,0,none⟩))) 6 (.int .i64 s9.1)) 18 (.bool (decide (s9.1 < (p0.fLooks.length:Int))))) 7 (.pointer (some ⟨b13,0,none⟩))) 8 (.bool y14)) 9 (.bool y16)) 43 (.bool y14)) 53 (.bool ((s9.2.1 == 0) || (decide ((rdL p0.fLooks s9.1).fID < s9.2.1)))))) (fun tm0 => ?_) (fun key => ?_)
     ·refine ox_y rfl (y_pick_tb (congrArg Value.bool hp18) rfl) ?_
      exact key _ _ (keep (keep (keep (keep (keep (keep (keep (keep (keep (keep (keep (keep rfl rfl) rfl) rfl) rfl) rfl) rfl) rfl) rfl) rfl) rfl) rfl) (congrArg Value.bool (and_t hp18)))
     ·rcases bool_cases (s9.2.1 == 0) with hp26 | hp26
      ·refine ox_skip (sees_f rfl rfl rfl rfl hp26) ?_
       refine ox_skip (sees_f rfl rfl rfl rfl hp26) ?_
       refine ox_skip (sees_f rfl rfl rfl rfl hp26) ?_
       refine ox_skip (sees_f rfl rfl rfl rfl hp26) ?_
       refine ox_skip (sees_f rfl rfl rfl rfl hp26) ?_
       refine ox_y (sees_t rfl rfl rfl rfl hp18) (y_pick_tb (congrArg Value.bool hp26) rfl) ?_
       exact key _ _ (keep (keep (keep (keep (keep (keep (keep (keep (keep (keep (keep (keep (keep rfl rfl) rfl) rfl) rfl) rfl) rfl) rfl) rfl) rfl) rfl) rfl) rfl) (congrArg Value.bool (or_t hp26)))
      ·refine ox_y (sees_t rfl rfl rfl rfl hp26) (y_fieldAddr fo_49_0 rfl) ?_
       refine ox_y (sees_t rfl rfl rfl rfl hp26) (y_load1 4 (v:=.int .i64 ((rdL p0.fLooks s9.1).fID)) sc_3 rfl rfl rfl) ?_
       refine ox_y (sees_t rfl rfl rfl rfl hp26) (y_fieldAddr fo_30_1 rfl) ?_
       refine ox_y (sees_t rfl rfl rfl rfl hp26) (y_load1 3 (v:=.int .i64 s9.2.1) sc_3 rfl rfl rfl) ?_
       refine ox_y (sees_t rfl rfl rfl rfl hp26) (y_lss rfl rfl) ?_
       refine ox_y (sees_t rfl rfl rfl rfl hp18) (y_pick_fb (congrArg Value.bool hp26) rfl) ?_
       exact key _ _ (keep (keep (keep (keep (keep (keep (keep (keep (keep (keep (keep (keep (keep rfl rfl) rfl) rfl) rfl) rfl) rfl) rfl) rfl) rfl) rfl) rfl) rfl) (congrArg Value.bool (or_f hp26)))
    ·refine ox_skip (sees_f rfl rfl rfl rfl hp18) ?_
     refine ox_skip (sees_f rfl rfl rfl rfl hp18) ?_
     refine ox_skip (sees_f rfl rfl rfl rfl hp18) ?_
     refine ox_skip (sees_f rfl rfl rfl rfl hp18) ?_
     refine ox_skip rfl ?_
     refine ox_skip rfl ?_
     refine ox_skip rfl ?_
     refine ox_skip rfl ?_
     refine ox_skip rfl ?_
     refine ox_skip (sees_f rfl rfl rfl rfl hp18) ?_
     refine ox_y rfl (y_pick_fb (congrArg Value.bool hp18) rfl) ?_
     exact key _ _ (keep (keep (keep (keep (keep (keep (keep (keep (keep (keep (keep (keep rfl rfl) rfl) rfl) rfl) rfl) rfl) rfl) rfl) rfl) rfl) rfl) (congrArg Value.bool (and_f hp18)))
  ·refine cx_false (congrArg Value.bool hp11) ?_
   refine cx_exit ?_
   refine ex_then_exit ?_
   obtain rfl:=Option.some.inj h
   exact ex_stop ⟨rfl,_,rfl,(keep (keep (keep (keep (keep (keep (keep rfl rfl) rfl) rfl) rfl) rfl) rfl) rfl)⟩
 ·intro e L tm hJ
  obtain ⟨rfl,tm0_u10,rfl,rfl⟩:=hJ
  refine ⟨(by intro hc; cases hc),?_⟩
  refine ex_block_here ?_
  refine ex_then (cx_seq (cx_region ?_))
  refine ox_y rfl (y_loadN 3 [.int .i64 y4.fLo,.int .i64 y4.fHi,.int .i64 u10.2.1,.int .i64 u10.2.2] ag_30 rfl rfl rfl) ?_
  refine ox_n rfl (y_storeN 2 [.int .i64 y4.fLo,.int .i64 y4.fHi,.int .i64 u10.2.1,.int .i64 u10.2.2] sz_30 rfl (Nat.le_of_ble_eq_true rfl) rfl rfl rfl) ?_
  refine ox_nil (ex_then (cx_ret ?_))
  obtain rfl:=Option.some.inj h
  exact ex_res1 (.inl rfl) rfl (resV_cellN 2 [.int .i64 y4.fLo,.int .i64 y4.fHi,.int .i64 u10.2.1,.int .i64 u10.2.2] ag_30 rfl rfl rfl) (fun W2 hW2 => ⟨rfl,hW2.none⟩)

theorem ref02_Ends_ok (p0_f:TFire) (p1_at:TSpot) (res:TBounded) (h:ref02_Ends p0_f p1_at = some res) (W:World) (A0_4:Option Addr) (n0_4 c0_4 : Nat) (hn0_4:n0_4 = p0_f.fLooks.length) (hr0_4:Rd W A0_4 n0_4 c0_4 (encL TLook_cells p0_f.fLooks)) :
  Calls Tryz.prog 9 [.agg #[.int .i64 p0_f.fRise,.int .i64 p0_f.fFall,.int .i64 p0_f.fUp,.int .i64 p0_f.fDown,.slice A0_4 n0_4 c0_4],.agg #[.int .i64 p1_at.fFoot,.int .i64 p1_at.fHour]].toArray W fun e W2 => e = .returned (.agg #[.int .i64 res.fB.fSpan.fLo,.int .i64 res.fB.fSpan.fHi,.int .i64 res.fB.fLow,.int .i64 res.fB.fHigh,.int .i64 res.fE]) ∧ Ext W W2 []:=by
 subst hn0_4
 unfold ref02_Ends at h
 refine calls_enter (m:=18) Tryz.func9 rfl rfl (Nat.le_of_ble_eq_true rfl) ?_
 refine cx_seq (cx_region ?_)
 refine ox_box [.int .i64 p0_f.fRise,.int .i64 p0_f.fFall,.int .i64 p0_f.fUp,.int .i64 p0_f.fDown,.slice A0_4 p0_f.fLooks.length c0_4] rfl rfl rfl (fun b1 => ?_)
 refine ox_box [.int .i64 p1_at.fFoot,.int .i64 p1_at.fHour] rfl rfl rfl (fun b2 => ?_)
 refine ox_alloc ze_37 rfl (fun b3 => ?_)
 refine ox_nil (ex_then (cx_seq (cx_region ?_)))
 refine ox_y rfl (y_loadN 0 [.int .i64 p0_f.fRise,.int .i64 p0_f.fFall,.int .i64 p0_f.fUp,.int .i64 p0_f.fDown,.slice A0_4 p0_f.fLooks.length c0_4] ag_24 rfl rfl rfl) ?_
 refine ox_y rfl (y_loadN 1 [.int .i64 p1_at.fFoot,.int .i64 p1_at.fHour] ag_26 rfl rfl rfl) ?_
 refine ox_buildSliceE 1 (encL TSpot_cells [p1_at]) _ mc_26_1 us_50 ze_26 by_26 (by decide) (by decide) (by kernel_rfl) (encL_len TSpot_cells_len rfl) rfl (fun b4 => ?_)
 obtain ⟨y5,hy6,h⟩:=bind_some h
 refine ox_y rfl (y_call [.agg #[.int .i64 p0_f.fRise,.int .i64 p0_f.fFall,.int .i64 p0_f.fUp,.int .i64 p0_f.fDown,.slice A0_4 p0_f.fLooks.length c0_4],.slice (some ⟨b4,0,none⟩) 1 1] go_40 rfl (fun W2 hW2 => ref02_asked_ok p0_f [p1_at] y5 hy6 W2 A0_4 p0_f.fLooks.length c0_4 rfl ((RdL.arg hr0_4) W2 hW2) (some ⟨b4,0,none⟩) 1 1 rfl ((RdL.row 3 rfl) W2 hW2)) rfl) ?_
 refine ox_y rfl (y_assign_int rfl) ?_
 refine ox_nil (ex_then (cx_seq (cx_seq (cx_region ?_))))
 refine ox_y rfl (y_move_int rfl) ?_
 refine ox_y rfl (y_neq rfl rfl) ?_
 refine ox_nil (ex_then ?_)
 rcases ite_some h with ⟨hp7,h⟩ | ⟨hp7,h⟩
 ·refine cx_true (congrArg Value.bool hp7) ?_
  refine cx_seq (cx_region ?_)
  refine ox_y rfl (y_move_int rfl) ?_
  refine ox_y rfl (y_buildS [.int .i64 0,.int .i64 0,.int .i64 0,.int .i64 0,.int .i64 y5] [(0,4),(4,1)] ust_37 ze_37 (by kernel_rfl)) ?_
  refine ox_n rfl (y_storeN 2 [.int .i64 0,.int .i64 0,.int .i64 0,.int .i64 0,.int .i64 y5] sz_37 rfl (Nat.le_of_ble_eq_true rfl) rfl rfl rfl) ?_
  refine ox_nil (ex_then (cx_ret (ex_then_ret ?_)))
  obtain rfl:=Option.some.inj h
  exact ex_res1 (.inl rfl) rfl (resV_cellN 2 [.int .i64 0,.int .i64 0,.int .i64 0,.int .i64 0,.int .i64 y5] ag_37 rfl rfl rfl) (fun W2 hW2 => ⟨rfl,hW2.none⟩)
 ·refine cx_false (congrArg Value.bool hp7) ?_
  refine cx_skip (ex_then (cx_seq (cx_region ?_)))
  refine ox_y rfl (y_loadN 0 [.int .i64 p0_f.fRise,.int .i64 p0_f.fFall,.int .i64 p0_f.fUp,.int .i64 p0_f.fDown,.slice A0_4 p0_f.fLooks.length c0_4] ag_24 rfl rfl rfl) ?_
  refine ox_y rfl (y_loadN 1 [.int .i64 p1_at.fFoot,.int .i64 p1_at.fHour] ag_26 rfl rfl rfl) ?_
  obtain ⟨y8,hy9,h⟩:=bind_some h
  refine ox_y rfl (y_call [.agg #[.int .i64 p0_f.fRise,.int .i64 p0_f.fFall,.int .i64 p0_f.fUp,.int .i64 p0_f.fDown,.slice A0_4 p0_f.fLooks.length c0_4],.agg #[.int .i64 p1_at.fFoot,.int .i64 p1_at.fHour]] go_41 rfl (fun W2 hW2 => ref02_bounds_ok p0_f p1_at y8 hy9 W2 A0_4 p0_f.fLooks.length c0_4 rfl ((RdL.arg hr0_4) W2 hW2)) rfl) ?_
  refine ox_y rfl (y_buildS [.int .i64 y8.fSpan.fLo,.int .i64 y8.fSpan.fHi,.int .i64 y8.fLow,.int .i64 y8.fHigh,.int .i64 0] [(0,4),(4,1)] ust_37 ze_37 (by kernel_rfl)) ?_
  refine ox_n rfl (y_storeN 2 [.int .i64 y8.fSpan.fLo,.int .i64 y8.fSpan.fHi,.int .i64 y8.fLow,.int .i64 y8.fHigh,.int .i64 0] sz_37 rfl (Nat.le_of_ble_eq_true rfl) rfl rfl rfl) ?_
  refine ox_nil (ex_then (cx_ret ?_))
  obtain rfl:=Option.some.inj h
  exact ex_res1 (.inl rfl) rfl (resV_cellN 2 [.int .i64 y8.fSpan.fLo,.int .i64 y8.fSpan.fHi,.int .i64 y8.fLow,.int .i64 y8.fHigh,.int .i64 0] ag_37 rfl rfl rfl) (fun W2 hW2 => ⟨rfl,hW2.none⟩)

end Go.Proofs.YtndajeiecdmhnaaGreat
