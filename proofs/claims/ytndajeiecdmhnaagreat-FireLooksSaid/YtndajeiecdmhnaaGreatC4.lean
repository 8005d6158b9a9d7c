/- The calls hand back what the plain functions say. -/
import Derived.Test.YtndajeiecdmhnaaGreatF
import Derived.Test.YtndajeiecdmhnaaGreatGy
import Derived.Test.YtndajeiecdmhnaaGreatC2
import Derived.Test.YtndajeiecdmhnaaGreatC3
set_option linter.unusedVariables false
set_option maxHeartbeats 4000000
set_option maxRecDepth 100000
namespace Go.Proofs.YtndajeiecdmhnaaGreat
open Go.RowKit (Below)
attribute [local irreducible] OX QX CX EX OpY Calls CallsIn

theorem fire_Clash_ok (p0_f:TFire) (res:(Int × Int × Bool × Int)) (h:fire_Clash p0_f = some res) (W:World) (A0_4:Option Addr) (n0_4 c0_4 : Nat) (hn0_4:n0_4 = p0_f.fLooks.length) (hr0_4:Rd W A0_4 n0_4 c0_4 (encL TLook_cells p0_f.fLooks)) :
  Calls Tryz.prog 31 [.agg #[.int .i64 p0_f.fRise,.int .i64 p0_f.fFall,.int .i64 p0_f.fUp,.int .i64 p0_f.fDown,.slice A0_4 n0_4 c0_4]].toArray W fun e W2 => e = .returned (.tuple #[.int .i64 res.1,.int .i64 res.2.1,.bool res.2.2.1,.int .i64 res.2.2.2]) ∧ Ext W W2 []:=by
 subst hn0_4
 unfold fire_Clash at h
 refine calls_enter (m:=26) Tryz.func31 rfl rfl (Nat.le_of_ble_eq_true rfl) ?_
 refine cx_seq (cx_region ?_)
 refine ox_box [.int .i64 p0_f.fRise,.int .i64 p0_f.fFall,.int .i64 p0_f.fUp,.int .i64 p0_f.fDown,.slice A0_4 p0_f.fLooks.length c0_4] rfl rfl rfl (fun b1 => ?_)
 refine ox_y rfl (y_assign_int rfl) ?_
 refine ox_y rfl (y_assign_int rfl) ?_
 refine ox_y rfl (y_assign_bool rfl) ?_
 refine ox_y rfl (y_assign_int rfl) ?_
 refine ox_nil (ex_then (cx_seq (cx_seq (cx_region ?_))))
 refine ox_y rfl (y_loadN 0 [.int .i64 p0_f.fRise,.int .i64 p0_f.fFall,.int .i64 p0_f.fUp,.int .i64 p0_f.fDown,.slice A0_4 p0_f.fLooks.length c0_4] ag_24 rfl rfl rfl) ?_
 obtain ⟨y2,hy3,h⟩:=bind_some h
 refine ox_y rfl (y_call [.agg #[.int .i64 p0_f.fRise,.int .i64 p0_f.fFall,.int .i64 p0_f.fUp,.int .i64 p0_f.fDown,.slice A0_4 p0_f.fLooks.length c0_4]] go_54 rfl (fun W2 hW2 => fire_Check_ok p0_f y2 hy3 W2 A0_4 p0_f.fLooks.length c0_4 rfl ((RdL.arg hr0_4) W2 hW2)) rfl) ?_
 refine ox_y rfl (y_assign_int rfl) ?_
 refine ox_nil (ex_then (cx_seq (cx_region ?_)))
 refine ox_y rfl (y_move_int rfl) ?_
 refine ox_y rfl (y_neq rfl rfl) ?_
 refine ox_nil (ex_then ?_)
 rcases ite_some h with ⟨hp4,h⟩ | ⟨hp4,h⟩
 ·refine cx_true (congrArg Value.bool hp4) ?_
  refine cx_seq (cx_region ?_)
  refine ox_y rfl (y_move_int rfl) ?_
  refine ox_y rfl (y_assign_int rfl) ?_
  refine ox_y rfl (y_assign_int rfl) ?_
  refine ox_y rfl (y_assign_bool rfl) ?_
  refine ox_y rfl (y_assign_int rfl) ?_
  refine ox_nil (ex_then (cx_ret (ex_then_ret ?_)))
  obtain rfl:=Option.some.inj h
  exact ex_res4 (.inl rfl) rfl (resV_tmp (v:=.int .i64 0) rfl) (resV_tmp (v:=.int .i64 0) rfl) (resV_tmp (v:=.bool false) rfl) (resV_tmp (v:=.int .i64 y2) rfl) (fun W2 hW2 => ⟨rfl,hW2.none⟩)
 ·refine cx_false (congrArg Value.bool hp4) ?_
  refine cx_skip (ex_then (cx_seq (cx_region ?_)))
  refine ox_y rfl (y_loadN 0 [.int .i64 p0_f.fRise,.int .i64 p0_f.fFall,.int .i64 p0_f.fUp,.int .i64 p0_f.fDown,.slice A0_4 p0_f.fLooks.length c0_4] ag_24 rfl rfl rfl) ?_
  obtain ⟨y5,hy6,h⟩:=bind_some h
  refine ox_y rfl (y_call [.agg #[.int .i64 p0_f.fRise,.int .i64 p0_f.fFall,.int .i64 p0_f.fUp,.int .i64 p0_f.fDown,.slice A0_4 p0_f.fLooks.length c0_4]] go_75 rfl (fun W2 hW2 => fire_clash_ok p0_f y5 hy6 W2 A0_4 p0_f.fLooks.length c0_4 rfl ((RdL.arg hr0_4) W2 hW2)) rfl) ?_
  refine ox_y rfl (y_move_tuple rfl) ?_
  refine ox_y rfl (y_extract (vs:=[.agg #[.int .i64 y5.1.fID,.int .i64 y5.1.fAt.fFoot,.int .i64 y5.1.fAt.fHour,.int .i64 y5.1.fHeat.fLo,.int .i64 y5.1.fHeat.fHi],.agg #[.int .i64 y5.2.1.fID,.int .i64 y5.2.1.fAt.fFoot,.int .i64 y5.2.1.fAt.fHour,.int .i64 y5.2.1.fHeat.fLo,.int .i64 y5.2.1.fHeat.fHi],.bool y5.2.2]) (v:=.agg #[.int .i64 y5.1.fID,.int .i64 y5.1.fAt.fFoot,.int .i64 y5.1.fAt.fHour,.int .i64 y5.1.fHeat.fLo,.int .i64 y5.1.fHeat.fHi]) rfl rfl) ?_
  refine ox_y rfl (y_extract (vs:=[.agg #[.int .i64 y5.1.fID,.int .i64 y5.1.fAt.fFoot,.int .i64 y5.1.fAt.fHour,.int .i64 y5.1.fHeat.fLo,.int .i64 y5.1.fHeat.fHi],.agg #[.int .i64 y5.2.1.fID,.int .i64 y5.2.1.fAt.fFoot,.int .i64 y5.2.1.fAt.fHour,.int .i64 y5.2.1.fHeat.fLo,.int .i64 y5.2.1.fHeat.fHi],.bool y5.2.2]) (v:=.agg #[.int .i64 y5.2.1.fID,.int .i64 y5.2.1.fAt.fFoot,.int .i64 y5.2.1.fAt.fHour,.int .i64 y5.2.1.fHeat.fLo,.int .i64 y5.2.1.fHeat.fHi]) rfl rfl) ?_
  refine ox_y rfl (y_extract (vs:=[.agg #[.int .i64 y5.1.fID,.int .i64 y5.1.fAt.fFoot,.int .i64 y5.1.fAt.fHour,.int .i64 y5.1.fHeat.fLo,.int .i64 y5.1.fHeat.fHi],.agg #[.int .i64 y5.2.1.fID,.int .i64 y5.2.1.fAt.fFoot,.int .i64 y5.2.1.fAt.fHour,.int .i64 y5.2.1.fHeat.fLo,.int .i64 y5.2.1.fHeat.fHi],.bool y5.2.2]) (v:=.bool y5.2.2) rfl rfl) ?_
  refine ox_alloc ze_49 rfl (fun b7 => ?_)
  refine ox_alloc ze_49 rfl (fun b8 => ?_)
  refine ox_n rfl (y_storeN 1 [.int .i64 y5.1.fID,.int .i64 y5.1.fAt.fFoot,.int .i64 y5.1.fAt.fHour,.int .i64 y5.1.fHeat.fLo,.int .i64 y5.1.fHeat.fHi] sz_49 rfl (Nat.le_of_ble_eq_true rfl) rfl rfl rfl) ?_
  refine ox_n rfl (y_storeN 2 [.int .i64 y5.2.1.fID,.int .i64 y5.2.1.fAt.fFoot,.int .i64 y5.2.1.fAt.fHour,.int .i64 y5.2.1.fHeat.fLo,.int .i64 y5.2.1.fHeat.fHi] sz_49 rfl (Nat.le_of_ble_eq_true rfl) rfl rfl rfl) ?_
  refine ox_y rfl (y_assign_bool rfl) ?_
  refine ox_nil (ex_then (cx_seq ?_))
  refine cx_draws 9 mixed (by kernel_rfl) (by kernel_rfl) ?_
  refine qx_y rfl (y_fieldAddr fo_49_0 rfl) ?_
  refine qx_y rfl (y_load1 1 (v:=.int .i64 y5.1.fID) sc_3 rfl rfl rfl) ?_
  refine qx_y rfl (y_fieldAddr fo_49_0 rfl) ?_
  refine qx_y rfl (y_load1 2 (v:=.int .i64 y5.2.1.fID) sc_3 rfl rfl rfl) ?_
  refine qx_y rfl (y_move_bool rfl) ?_
  refine qx_y rfl (y_assign_int rfl) ?_
  refine qx_y rfl (y_assign_int rfl) ?_
  refine qx_y rfl (y_assign_bool rfl) ?_
  refine qx_y rfl (y_assign_int rfl) ?_
  refine qx_nil ?_
  refine ox_nil (ex_then (cx_ret ?_))
  obtain rfl:=Option.some.inj h
  exact ex_res4 (.inl rfl) rfl (resV_tmp (v:=.int .i64 y5.1.fID) rfl) (resV_tmp (v:=.int .i64 y5.2.1.fID) rfl) (resV_tmp (v:=.bool y5.2.2) rfl) (resV_tmp (v:=.int .i64 0) rfl) (fun W2 hW2 => ⟨rfl,hW2.none⟩)

theorem fire_CheckPath_ok (p0_l:(List TSpot)) (res:Int) (h:fire_CheckPath p0_l = some res) (W:World) (A0_0:Option Addr) (n0_0 c0_0 : Nat) (hn0_0:n0_0 = p0_l.length) (hr0_0:Rd W A0_0 n0_0 c0_0 (encL TSpot_cells p0_l)) :
  Calls Tryz.prog 102 [.slice A0_0 n0_0 c0_0].toArray W fun e W2 => e = .returned (.int .i64 res) ∧ Ext W W2 []:=by
 subst hn0_0
 unfold fire_CheckPath at h
 refine calls_enter (m:=38) Tryz.func102 rfl rfl (Nat.le_of_ble_eq_true rfl) ?_
 refine cx_seq (cx_region ?_)
 refine ox_y rfl (y_assign_int rfl) ?_
 refine ox_nil (ex_then (cx_seq (cx_seq (cx_region ?_))))
 refine ox_y rfl (y_move_slice rfl) ?_
 refine ox_y rfl (y_len (us:=[]) us_50 rfl) ?_
 refine ox_y rfl (y_gtr rfl rfl) ?_
 refine ox_nil (ex_then ?_)
 rcases ite_some h with ⟨hp1,h⟩ | ⟨hp1,h⟩
 ·refine cx_true (congrArg Value.bool hp1) ?_
  refine cx_seq (cx_region ?_)
  refine ox_y rfl (y_assign_int rfl) ?_
  refine ox_nil (ex_then (cx_ret (ex_then_ret ?_)))
  obtain rfl:=Option.some.inj h
  exact ex_res1 (.inl rfl) rfl (resV_tmp (v:=.int .i64 2) rfl) (fun W2 hW2 => ⟨rfl,hW2.none⟩)
 ·refine cx_false (congrArg Value.bool hp1) ?_
  refine cx_skip (ex_then (cx_seq (cx_seq (cx_region ?_))))
  refine ox_y rfl (y_move_slice rfl) ?_
  refine ox_y rfl (y_len (us:=[]) us_50 rfl) ?_
  refine ox_y rfl (y_move_int rfl) ?_
  refine ox_nil (ex_then (cx_block ?_))
  obtain ⟨u4,hl18,h⟩:=bind_some h
  refine cx_loop (fun (s:(Int × Int)) L tm => ∃ (tm0:Nat → Value),L = [] ∧ tm = (upd (upd (upd (upd (upd (upd tm0 0 (.slice A0_0 p0_l.length c0_0)) 2 (.int .i64 s.1)) 7 (.bool (decide (200 < (p0_l.length:Int))))) 8 (.slice A0_0 p0_l.length c0_0)) 9 (.int .i64 (p0_l.length:Int))) 10 (.int .i64 s.2))) (fun | (.inl s),e,L,tm => e = .ret ∧ ∃ (tm0:Nat → Value),L = [] ∧ tm = (upd (upd (upd (upd (upd (upd tm0 0 (.slice A0_0 p0_l.length c0_0)) 2 (.int .i64 s.1)) 7 (.bool (decide (200 < (p0_l.length:Int))))) 8 (.slice A0_0 p0_l.length c0_0)) 9 (.int .i64 (p0_l.length:Int))) 10 (.int .i64 s.2)) | (.inr s),e,L,tm => e = .exit 0 ∧ ∃ (tm0:Nat → Value),L = [] ∧ tm = (upd (upd (upd (upd (upd (upd tm0 0 (.slice A0_0 p0_l.length c0_0)) 2 (.int .i64 s.1)) 7 (.bool (decide (200 < (p0_l.length:Int))))) 8 (.slice A0_0 p0_l.length c0_0)) 9 (.int .i64 (p0_l.length:Int))) 10 (.int .i64 s.2))) hl18 ⟨_,rfl,(keep (keep (keep (keep (keep (keep rfl rfl) rfl) rfl) rfl) rfl) rfl)⟩ ?_ ?_
  ·rintro s3 L tm st ⟨tm0_s3,rfl,rfl⟩ h
   unfold fire_CheckPath_l1 at h
   refine cx_seq (cx_region ?_)
   refine ox_y rfl (y_lss rfl rfl) ?_
   refine ox_nil (ex_then (cx_seq ?_))
   rcases ite_some h with ⟨hp5,h⟩ | ⟨hp5,h⟩
   ·refine cx_true (congrArg Value.bool hp5) ?_
    refine cx_skip (ex_then (cx_seq (cx_block (cx_seq (cx_region ?_)))))
    refine ox_y rfl (y_move_int rfl) ?_
    obtain ⟨hg6,h⟩:=guardO_some h
    refine ox_y rfl (y_indexR sl_50 (by decide) hg6.1 hg6.2 (RdL.arg hr0_0) (encL_len TSpot_cells_len rfl) rfl rfl) ?_
    refine ox_y rfl (y_loadRN (A:=A0_0) (j:=(Int.toNat s3.2 * 2)) [.int .i64 ((rdL p0_l s3.2).fFoot),.int .i64 ((rdL p0_l s3.2).fHour)] ag_26 (Nat.succ_pos _) (RdL.arg hr0_0) rfl (encL_gets TSpot_cells_len hg6.1 (lt_nat hg6.2 rfl))) ?_
    refine ox_alloc ze_26 rfl (fun b7 => ?_)
    refine ox_y rfl (y_assign_int rfl) ?_
    refine ox_n rfl (y_storeN 0 [.int .i64 ((rdL p0_l s3.2).fFoot),.int .i64 ((rdL p0_l s3.2).fHour)] sz_26 rfl (Nat.le_of_ble_eq_true rfl) rfl rfl rfl) ?_
    refine ox_nil (ex_then (cx_seq ?_))
    refine cx_draws 19 mixed (by kernel_rfl) (by kernel_rfl) ?_
    refine qx_y rfl (y_loadN 0 [.int .i64 ((rdL p0_l s3.2).fFoot),.int .i64 ((rdL p0_l s3.2).fHour)] ag_26 rfl rfl rfl) ?_
    obtain ⟨y8,hy9,h⟩:=bind_some h
    refine qx_y rfl (y_call [.agg #[.int .i64 ((rdL p0_l s3.2).fFoot),.int .i64 ((rdL p0_l s3.2).fHour)]] go_62 rfl (fun W2 hW2 => fire_right_ok (TSpot.mk ((rdL p0_l s3.2).fFoot) ((rdL p0_l s3.2).fHour)) y8 hy9 W2 ) rfl) ?_
    refine qx_y rfl (y_not rfl) ?_
    refine qx_y rfl (y_move_bool rfl) ?_
    obtain ⟨b11,hb12,h⟩:=bind_some h
    refine qx_join 15 (fun tm0 => (upd (upd (upd (upd (upd (upd (upd (upd (upd (upd tm0 0 (.slice A0_0 p0_l.length c0_0)) 2 (.int .i64 s3.1)) 7 (.bool (decide (200 < (p0_l.length:Int))))) 8 (.slice A0_0 p0_l.length c0_0)) 9 (.int .i64 (p0_l.length:Int))) 10 (.int .i64 s3.2)) 11 (.bool (decide (s3.2 < (p0_l.length:Int))))) 4 (.pointer (some ⟨b7,0,none⟩))) 3 (.int .i64 s3.2)) 33 (.bool b11))) (fun tm0 => ?_) (fun key => ?_)
    ·refine qx_nil ?_
     refine ox_nil (ex_then ?_)
     rcases ite_some h with ⟨hp13,h⟩ | ⟨hp13,h⟩
     ·refine cx_true (congrArg Value.bool hp13) ?_
      refine cx_seq (cx_region ?_)
      refine ox_y rfl (y_assign_int rfl) ?_
      refine ox_nil (ex_then (cx_ret (ex_block_ret (ex_then_ret ?_))))
      refine ex_take 0 ?_
      obtain rfl:=Option.some.inj h
      exact ex_stop ⟨rfl,_,rfl,(keep (keep (keep (keep (keep (keep rfl rfl) rfl) rfl) rfl) rfl) rfl)⟩
     ·refine cx_false (congrArg Value.bool hp13) ?_
      refine cx_skip ?_
      refine ex_block ?_
      refine ex_then (cx_region ?_)
      refine ox_y rfl (y_add rfl rfl) ?_
      refine ox_y rfl (y_move_int rfl) ?_
      refine ox_nil ?_
      refine ex_take 0 ?_
      obtain rfl:=Option.some.inj h
      exact ex_next ⟨_,rfl,(keep (keep (keep (keep (keep (keep rfl rfl) rfl) rfl) rfl) rfl) rfl)⟩
    ·clear h; rcases ite_some hb12 with ⟨hp10,h⟩ | ⟨hp10,h⟩
     ·refine qx_skip (sees_f rfl rfl rfl rfl hp10) ?_
      refine qx_skip (sees_f rfl rfl rfl rfl hp10) ?_
      refine qx_skip (sees_f rfl rfl rfl rfl hp10) ?_
      refine qx_skip rfl ?_
      refine qx_skip rfl ?_
      refine qx_skip rfl ?_
      refine qx_skip rfl ?_
      refine qx_skip rfl ?_
      refine qx_skip rfl ?_
      refine qx_skip rfl ?_
      refine qx_skip rfl ?_
      refine qx_skip rfl ?_
      refine qx_skip rfl ?_
      refine qx_skip (sees_f rfl rfl rfl rfl hp10) ?_
      refine qx_y rfl (y_pick_tb (congrArg Value.bool hp10) rfl) ?_
      obtain rfl:=Option.some.inj h
      exact key _ _ (keep (keep (keep (keep (keep (keep (keep (keep (keep (keep rfl rfl) rfl) rfl) rfl) rfl) rfl) rfl) rfl) rfl) rfl)
     ·refine qx_y (sees_t rfl rfl rfl rfl hp10) (y_move_int rfl) ?_
      refine qx_y (sees_t rfl rfl rfl rfl hp10) (y_gtr rfl rfl) ?_
      refine qx_y (sees_t rfl rfl rfl rfl hp10) (y_move_bool rfl) ?_
      obtain ⟨b15,hb16,h⟩:=bind_some h
      refine qx_join 11 (fun tm0 => (upd (upd (upd (upd (upd (upd (upd (upd (upd (upd (upd tm0 0 (.slice A0_0 p0_l.length c0_0)) 2 (.int .i64 s3.1)) 7 (.bool (decide (200 < (p0_l.length:Int))))) 8 (.slice A0_0 p0_l.length c0_0)) 9 (.int .i64 (p0_l.length:Int))) 10 (.int .i64 s3.2)) 11 (.bool (decide (s3.2 < (p0_l.length:Int))))) 4 (.pointer (some ⟨b7,0,none⟩))) 3 (.int .i64 s3.2)) 18 (.bool (!y8))) 32 (.bool b15))) (fun tm0 => ?_) (fun key => ?_)
      ·refine qx_y rfl (y_pick_fb (congrArg Value.bool hp10) rfl) ?_
       obtain rfl:=Option.some.inj h
       exact key _ _ (keep (keep (keep (keep (keep (keep (keep (keep (keep (keep rfl rfl) rfl) rfl) rfl) rfl) rfl) rfl) rfl) rfl) rfl)
      ·clear h; rcases ite_some hb16 with ⟨hp14,h⟩ | ⟨hp14,h⟩
       ·refine qx_y (sees_t rfl rfl rfl rfl hp14) (y_fieldAddr fo_26_1 rfl) ?_
        refine qx_y (sees_t rfl rfl rfl rfl hp14) (y_load1 0 (v:=.int .i64 ((rdL p0_l s3.2).fHour)) sc_3 rfl rfl rfl) ?_
        refine qx_y (sees_t rfl rfl rfl rfl hp14) (y_move_slice rfl) ?_
        refine qx_y (sees_t rfl rfl rfl rfl hp14) (y_move_int rfl) ?_
        refine qx_y (sees_t rfl rfl rfl rfl hp14) (y_sub rfl rfl) ?_
        obtain ⟨hg17,h⟩:=guardO_some h
        refine qx_y (sees_t rfl rfl rfl rfl hp14) (y_indexR sl_50 (by decide) hg17.1 hg17.2 (RdL.arg hr0_0) (encL_len TSpot_cells_len rfl) rfl rfl) ?_
        refine qx_y (sees_t rfl rfl rfl rfl hp14) (y_fieldAddrR (A:=A0_0) (j:=(Int.toNat (w64 (s3.2 - 1)) * 2)) fo_26_1 rfl) ?_
        refine qx_y (sees_t rfl rfl rfl rfl hp14) (y_loadR1 (A:=A0_0) (j:=((Int.toNat (w64 (s3.2 - 1)) * 2) + 1)) (v:=.int .i64 ((rdL p0_l (w64 (s3.2 - 1))).fHour)) sc_3 (RdL.arg hr0_0) rfl (encL_get TSpot_cells_len hg17.1 (lt_nat hg17.2 rfl) rfl)) ?_
        refine qx_y (sees_t rfl rfl rfl rfl hp14) (y_add rfl rfl) ?_
        refine qx_y (sees_t rfl rfl rfl rfl hp14) (y_neq rfl rfl) ?_
        refine qx_y (sees_t rfl rfl rfl rfl hp10) (y_pick_tb (congrArg Value.bool hp14) rfl) ?_
        obtain rfl:=Option.some.inj h
        exact key _ _ (keep (keep (keep (keep (keep (keep (keep (keep (keep (keep (keep rfl rfl) rfl) rfl) rfl) rfl) rfl) rfl) rfl) rfl) rfl) rfl)
       ·refine qx_skip (sees_f rfl rfl rfl rfl hp14) ?_
        refine qx_skip (sees_f rfl rfl rfl rfl hp14) ?_
        refine qx_skip (sees_f rfl rfl rfl rfl hp14) ?_
        refine qx_skip (sees_f rfl rfl rfl rfl hp14) ?_
        refine qx_skip (sees_f rfl rfl rfl rfl hp14) ?_
        refine qx_skip (sees_f rfl rfl rfl rfl hp14) ?_
        refine qx_skip (sees_f rfl rfl rfl rfl hp14) ?_
        refine qx_skip (sees_f rfl rfl rfl rfl hp14) ?_
        refine qx_skip (sees_f rfl rfl rfl rfl hp14) ?_
        refine qx_skip (sees_f rfl rfl rfl rfl hp14) ?_
        refine qx_y (sees_t rfl rfl rfl rfl hp10) (y_pick_fb (congrArg Value.bool hp14) rfl) ?_
        obtain rfl:=Option.some.inj h
        exact key _ _ (keep (keep (keep (keep (keep (keep (keep (keep (keep (keep (keep rfl rfl) rfl) rfl) rfl) rfl) rfl) rfl) rfl) rfl) rfl) rfl)
   ·refine cx_false (congrArg Value.bool hp5) ?_
    refine cx_exit ?_
    refine ex_then_exit ?_
    obtain rfl:=Option.some.inj h
    exact ex_stop ⟨rfl,_,rfl,(keep (keep (keep (keep (keep (keep rfl rfl) rfl) rfl) rfl) rfl) rfl)⟩
  ·intro e L tm hJ
   rcases u4 with u19 | u20
   ·dsimp only at h hJ
    obtain ⟨rfl,tm0_u19,rfl,rfl⟩:=hJ
    refine ⟨(by intro hc; cases hc),?_⟩
    refine ex_block_ret (ex_then_ret ?_)
    obtain rfl:=Option.some.inj h
    exact ex_res1 (.inl rfl) rfl (resV_tmp (v:=.int .i64 u19.1) rfl) (fun W2 hW2 => ⟨rfl,hW2.none⟩)
   ·dsimp only at h hJ
    obtain ⟨rfl,tm0_u20,rfl,rfl⟩:=hJ
    refine ⟨(by intro hc; cases hc),?_⟩
    refine ex_block_here ?_
    refine ex_then (cx_seq (cx_seq (cx_region ?_)))
    refine ox_y rfl (y_move_slice rfl) ?_
    refine ox_y rfl (y_len (us:=[]) us_50 rfl) ?_
    refine ox_y rfl (y_eql rfl rfl) ?_
    refine ox_nil (ex_then ?_)
    rcases ite_some h with ⟨hp21,h⟩ | ⟨hp21,h⟩
    ·refine cx_true (congrArg Value.bool hp21) ?_
     refine cx_seq (cx_region ?_)
     refine ox_y rfl (y_assign_int rfl) ?_
     refine ox_nil (ex_then (cx_ret (ex_then_ret ?_)))
     obtain rfl:=Option.some.inj h
     exact ex_res1 (.inl rfl) rfl (resV_tmp (v:=.int .i64 1) rfl) (fun W2 hW2 => ⟨rfl,hW2.none⟩)
    ·refine cx_false (congrArg Value.bool hp21) ?_
     refine cx_skip (ex_then (cx_seq (cx_region ?_)))
     refine ox_y rfl (y_assign_int rfl) ?_
     refine ox_nil (ex_then (cx_ret ?_))
     obtain rfl:=Option.some.inj h
     exact ex_res1 (.inl rfl) rfl (resV_tmp (v:=.int .i64 0) rfl) (fun W2 hW2 => ⟨rfl,hW2.none⟩)

theorem fire_walked_ok (p0_f:TFire) (p1_path:(List TSpot)) (p2_need:Int) (res:Int) (h:fire_walked p0_f p1_path p2_need = some res) (W:World) (A0_4:Option Addr) (n0_4 c0_4 : Nat) (hn0_4:n0_4 = p0_f.fLooks.length) (hr0_4:Rd W A0_4 n0_4 c0_4 (encL TLook_cells p0_f.fLooks)) (A1_0:Option Addr) (n1_0 c1_0 : Nat) (hn1_0:n1_0 = p1_path.length) (hr1_0:Rd W A1_0 n1_0 c1_0 (encL TSpot_cells p1_path)) :
  Calls Tryz.prog 76 [.agg #[.int .i64 p0_f.fRise,.int .i64 p0_f.fFall,.int .i64 p0_f.fUp,.int .i64 p0_f.fDown,.slice A0_4 n0_4 c0_4],.slice A1_0 n1_0 c1_0,.int .i64 p2_need].toArray W fun e W2 => e = .returned (.int .i64 res) ∧ Ext W W2 []:=by
 subst hn0_4
 subst hn1_0
 unfold fire_walked at h
 refine calls_enter (m:=24) Tryz.func76 rfl rfl (Nat.le_of_ble_eq_true rfl) ?_
 refine cx_seq (cx_region ?_)
 refine ox_box [.int .i64 p0_f.fRise,.int .i64 p0_f.fFall,.int .i64 p0_f.fUp,.int .i64 p0_f.fDown,.slice A0_4 p0_f.fLooks.length c0_4] rfl rfl rfl (fun b1 => ?_)
 refine ox_y rfl (y_assign_int rfl) ?_
 refine ox_nil (ex_then (cx_seq (cx_seq (cx_region ?_))))
 refine ox_y rfl (y_loadN 0 [.int .i64 p0_f.fRise,.int .i64 p0_f.fFall,.int .i64 p0_f.fUp,.int .i64 p0_f.fDown,.slice A0_4 p0_f.fLooks.length c0_4] ag_24 rfl rfl rfl) ?_
 obtain ⟨y2,hy3,h⟩:=bind_some h
 refine ox_y rfl (y_call [.agg #[.int .i64 p0_f.fRise,.int .i64 p0_f.fFall,.int .i64 p0_f.fUp,.int .i64 p0_f.fDown,.slice A0_4 p0_f.fLooks.length c0_4]] go_54 rfl (fun W2 hW2 => fire_Check_ok p0_f y2 hy3 W2 A0_4 p0_f.fLooks.length c0_4 rfl ((RdL.arg hr0_4) W2 hW2)) rfl) ?_
 refine ox_y rfl (y_assign_int rfl) ?_
 refine ox_nil (ex_then (cx_seq (cx_region ?_)))
 refine ox_y rfl (y_move_int rfl) ?_
 refine ox_y rfl (y_neq rfl rfl) ?_
 refine ox_nil (ex_then ?_)
 rcases ite_some h with ⟨hp4,h⟩ | ⟨hp4,h⟩
 ·refine cx_true (congrArg Value.bool hp4) ?_
  refine cx_seq (cx_region ?_)
  refine ox_y rfl (y_move_int rfl) ?_
  refine ox_y rfl (y_assign_int rfl) ?_
  refine ox_nil (ex_then (cx_ret (ex_then_ret ?_)))
  obtain rfl:=Option.some.inj h
  exact ex_res1 (.inl rfl) rfl (resV_tmp (v:=.int .i64 y2) rfl) (fun W2 hW2 => ⟨rfl,hW2.none⟩)
 ·refine cx_false (congrArg Value.bool hp4) ?_
  refine cx_skip (ex_then (cx_seq (cx_seq (cx_region ?_))))
  refine ox_y rfl (y_move_slice rfl) ?_
  obtain ⟨y5,hy6,h⟩:=bind_some h
  refine ox_y rfl (y_call [.slice A1_0 p1_path.length c1_0] go_102 rfl (fun W2 hW2 => fire_CheckPath_ok p1_path y5 hy6 W2 A1_0 p1_path.length c1_0 rfl ((RdL.arg hr1_0) W2 hW2)) rfl) ?_
  refine ox_y rfl (y_assign_int rfl) ?_
  refine ox_nil (ex_then (cx_seq (cx_region ?_)))
  refine ox_y rfl (y_move_int rfl) ?_
  refine ox_y rfl (y_neq rfl rfl) ?_
  refine ox_nil (ex_then ?_)
  rcases ite_some h with ⟨hp7,h⟩ | ⟨hp7,h⟩
  ·refine cx_true (congrArg Value.bool hp7) ?_
   refine cx_seq (cx_region ?_)
   refine ox_y rfl (y_move_int rfl) ?_
   refine ox_y rfl (y_assign_int rfl) ?_
   refine ox_nil (ex_then (cx_ret (ex_then_ret ?_)))
   obtain rfl:=Option.some.inj h
   exact ex_res1 (.inl rfl) rfl (resV_tmp (v:=.int .i64 y5) rfl) (fun W2 hW2 => ⟨rfl,hW2.none⟩)
  ·refine cx_false (congrArg Value.bool hp7) ?_
   refine cx_skip (ex_then (cx_seq (cx_seq (cx_region ?_))))
   refine ox_y rfl (y_move_int rfl) ?_
   obtain ⟨y8,hy9,h⟩:=bind_some h
   refine ox_y rfl (y_call [.int .i64 p2_need] go_57 rfl (fun W2 hW2 => fire_heat_ok p2_need y8 hy9 W2 ) rfl) ?_
   refine ox_y rfl (y_not rfl) ?_
   refine ox_nil (ex_then ?_)
   rcases ite_some h with ⟨hp10,h⟩ | ⟨hp10,h⟩
   ·refine cx_true (congrArg Value.bool hp10) ?_
    refine cx_seq (cx_region ?_)
    refine ox_y rfl (y_assign_int rfl) ?_
    refine ox_nil (ex_then (cx_ret (ex_then_ret ?_)))
    obtain rfl:=Option.some.inj h
    exact ex_res1 (.inl rfl) rfl (resV_tmp (v:=.int .i64 1) rfl) (fun W2 hW2 => ⟨rfl,hW2.none⟩)
   ·refine cx_false (congrArg Value.bool hp10) ?_
    refine cx_skip (ex_then (cx_seq (cx_region ?_)))
    refine ox_y rfl (y_loadN 0 [.int .i64 p0_f.fRise,.int .i64 p0_f.fFall,.int .i64 p0_f.fUp,.int .i64 p0_f.fDown,.slice A0_4 p0_f.fLooks.length c0_4] ag_24 rfl rfl rfl) ?_
    obtain ⟨y11,hy12,h⟩:=bind_some h
    refine ox_y rfl (y_call [.agg #[.int .i64 p0_f.fRise,.int .i64 p0_f.fFall,.int .i64 p0_f.fUp,.int .i64 p0_f.fDown,.slice A0_4 p0_f.fLooks.length c0_4],.int .i64 0] go_37 rfl (fun W2 hW2 => fire_agreed_ok p0_f 0 y11 hy12 W2 A0_4 p0_f.fLooks.length c0_4 rfl ((RdL.arg hr0_4) W2 hW2)) rfl) ?_
    refine ox_y rfl (y_assign_int rfl) ?_
    refine ox_nil (ex_then (cx_ret ?_))
    obtain rfl:=Option.some.inj h
    exact ex_res1 (.inl rfl) rfl (resV_tmp (v:=.int .i64 y11) rfl) (fun W2 hW2 => ⟨rfl,hW2.none⟩)

theorem fire_heats_ok (p0_f:TFire) (p1_path:(List TSpot)) (res:((List Int) × (List Int))) (h:fire_heats p0_f p1_path = some res) (W:World) (A0_4:Option Addr) (n0_4 c0_4 : Nat) (hn0_4:n0_4 = p0_f.fLooks.length) (hr0_4:Rd W A0_4 n0_4 c0_4 (encL TLook_cells p0_f.fLooks)) (A1_0:Option Addr) (n1_0 c1_0 : Nat) (hn1_0:n1_0 = p1_path.length) (hr1_0:Rd W A1_0 n1_0 c1_0 (encL TSpot_cells p1_path)) :
  Calls Tryz.prog 77 [.agg #[.int .i64 p0_f.fRise,.int .i64 p0_f.fFall,.int .i64 p0_f.fUp,.int .i64 p0_f.fDown,.slice A0_4 n0_4 c0_4],.slice A1_0 n1_0 c1_0].toArray W fun e W2 => ∃ x : (Option Addr × Nat × Nat) × (Option Addr × Nat × Nat),(x.1.2.1 = res.1.length ∧ x.2.2.1 = res.2.length) ∧ e = .returned (.tuple #[.slice x.1.1 x.1.2.1 x.1.2.2,.slice x.2.1 x.2.2.1 x.2.2.2]) ∧ Ext W W2 [rowR x.1.1 x.1.2.2 3 1 x.1.2.1 (encL cI res.1),rowR x.2.1 x.2.2.2 3 1 x.2.2.1 (encL cI res.2)]:=by
 subst hn0_4
 subst hn1_0
 unfold fire_heats at h
 refine calls_enter (m:=32) Tryz.func77 rfl rfl (Nat.le_of_ble_eq_true rfl) ?_
 refine cx_seq (cx_region ?_)
 refine ox_box [.int .i64 p0_f.fRise,.int .i64 p0_f.fFall,.int .i64 p0_f.fUp,.int .i64 p0_f.fDown,.slice A0_4 p0_f.fLooks.length c0_4] rfl rfl rfl (fun b1 => ?_)
 refine ox_y rfl (y_assign_slice rfl) ?_
 refine ox_y rfl (y_assign_slice rfl) ?_
 refine ox_nil (ex_then (cx_seq (cx_seq (cx_region ?_))))
 refine ox_y rfl (y_move_slice rfl) ?_
 refine ox_y rfl (y_len (us:=[]) us_50 rfl) ?_
 refine ox_y rfl (y_move_int rfl) ?_
 refine ox_nil (ex_then (cx_block ?_))
 obtain ⟨u5,hl21,h⟩:=bind_some h
 refine cx_nilrow 3 1 ?_
 refine cx_nilrow 3 1 ?_
 refine cx_loop (fun (s:(Int × (List Int) × (List Int))) L tm => ∃ (tm0:Nat → Value) (A1_s:Option Addr) (c1_s:Nat) (n1_s:Nat) (A2_s:Option Addr) (c2_s:Nat) (n2_s:Nat),n1_s = s.2.1.length ∧ n2_s = s.2.2.length ∧ L = [cellsR b1 24 [.int .i64 p0_f.fRise,.int .i64 p0_f.fFall,.int .i64 p0_f.fUp,.int .i64 p0_f.fDown,.slice A0_4 p0_f.fLooks.length c0_4],rowR A1_s c1_s 3 1 n1_s (encL cI s.2.1),rowR A2_s c2_s 3 1 n2_s (encL cI s.2.2)] ∧ tm = (upd (upd (upd (upd (upd (upd (upd (upd tm0 0 (.agg #[.int .i64 p0_f.fRise,.int .i64 p0_f.fFall,.int .i64 p0_f.fUp,.int .i64 p0_f.fDown,.slice A0_4 p0_f.fLooks.length c0_4])) 1 (.slice A1_0 p1_path.length c1_0)) 2 (.pointer (some ⟨b1,0,none⟩))) 4 (.slice A1_s n1_s c1_s)) 5 (.slice A2_s n2_s c2_s)) 9 (.slice A1_0 p1_path.length c1_0)) 10 (.int .i64 (p1_path.length:Int))) 11 (.int .i64 s.1))) (fun s e L tm => e = .exit 0 ∧ ∃ (tm0:Nat → Value) (A1_s:Option Addr) (c1_s:Nat) (n1_s:Nat) (A2_s:Option Addr) (c2_s:Nat) (n2_s:Nat),n1_s = s.2.1.length ∧ n2_s = s.2.2.length ∧ L = [cellsR b1 24 [.int .i64 p0_f.fRise,.int .i64 p0_f.fFall,.int .i64 p0_f.fUp,.int .i64 p0_f.fDown,.slice A0_4 p0_f.fLooks.length c0_4],rowR A1_s c1_s 3 1 n1_s (encL cI s.2.1),rowR A2_s c2_s 3 1 n2_s (encL cI s.2.2)] ∧ tm = (upd (upd (upd (upd (upd (upd (upd (upd tm0 0 (.agg #[.int .i64 p0_f.fRise,.int .i64 p0_f.fFall,.int .i64 p0_f.fUp,.int .i64 p0_f.fDown,.slice A0_4 p0_f.fLooks.length c0_4])) 1 (.slice A1_0 p1_path.length c1_0)) 2 (.pointer (some ⟨b1,0,none⟩))) 4 (.slice A1_s n1_s c1_s)) 5 (.slice A2_s n2_s c2_s)) 9 (.slice A1_0 p1_path.length c1_0)) 10 (.int .i64 (p1_path.length:Int))) 11 (.int .i64 s.1))) hl21 ⟨_,none,0,0,none,0,0,rfl,rfl,rfl,(keep (keep (keep (keep (keep (keep (keep (keep rfl rfl) rfl) rfl) rfl) rfl) rfl) rfl) rfl)⟩ ?_ ?_
 ·rintro s4 L tm st ⟨tm0_s4,A1_s4,c1_s4,n1_s4,A2_s4,c2_s4,n2_s4,rfl,rfl,rfl,rfl⟩ h
  unfold fire_heats_l1 at h
  refine cx_seq (cx_region ?_)
  refine ox_y rfl (y_lss rfl rfl) ?_
  refine ox_nil (ex_then (cx_seq ?_))
  rcases ite_some h with ⟨hp6,h⟩ | ⟨hp6,h⟩
  ·refine cx_true (congrArg Value.bool hp6) ?_
   refine cx_skip (ex_then (cx_seq (cx_block (cx_seq (cx_region ?_)))))
   obtain ⟨hg7,h⟩:=guardO_some h
   refine ox_y rfl (y_indexR sl_50 (by decide) hg7.1 hg7.2 (RdL.arg hr1_0) (encL_len TSpot_cells_len rfl) rfl rfl) ?_
   refine ox_y rfl (y_loadRN (A:=A1_0) (j:=(Int.toNat s4.1 * 2)) [.int .i64 ((rdL p1_path s4.1).fFoot),.int .i64 ((rdL p1_path s4.1).fHour)] ag_26 (Nat.succ_pos _) (RdL.arg hr1_0) rfl (encL_gets TSpot_cells_len hg7.1 (lt_nat hg7.2 rfl))) ?_
   refine ox_alloc ze_26 rfl (fun b8 => ?_)
   refine ox_n rfl (y_storeN 3 [.int .i64 ((rdL p1_path s4.1).fFoot),.int .i64 ((rdL p1_path s4.1).fHour)] sz_26 rfl (Nat.le_of_ble_eq_true rfl) rfl rfl rfl) ?_
   refine ox_nil (ex_then (cx_seq (cx_region ?_)))
   refine ox_y rfl (y_loadN 0 [.int .i64 p0_f.fRise,.int .i64 p0_f.fFall,.int .i64 p0_f.fUp,.int .i64 p0_f.fDown,.slice A0_4 p0_f.fLooks.length c0_4] ag_24 rfl rfl rfl) ?_
   refine ox_y rfl (y_loadN 3 [.int .i64 ((rdL p1_path s4.1).fFoot),.int .i64 ((rdL p1_path s4.1).fHour)] ag_26 rfl rfl rfl) ?_
   obtain ⟨y9,hy10,h⟩:=bind_some h
   refine ox_y rfl (y_call [.agg #[.int .i64 p0_f.fRise,.int .i64 p0_f.fFall,.int .i64 p0_f.fUp,.int .i64 p0_f.fDown,.slice A0_4 p0_f.fLooks.length c0_4],.agg #[.int .i64 ((rdL p1_path s4.1).fFoot),.int .i64 ((rdL p1_path s4.1).fHour)]] go_39 rfl (fun W2 hW2 => fire_ends_ok p0_f (TSpot.mk ((rdL p1_path s4.1).fFoot) ((rdL p1_path s4.1).fHour)) y9 hy10 W2 A0_4 p0_f.fLooks.length c0_4 rfl ((RdL.arg hr0_4) W2 hW2)) rfl) ?_
   refine ox_y rfl (y_fieldN [.int .i64 y9.fSpan.fLo,.int .i64 y9.fSpan.fHi,.int .i64 y9.fLow,.int .i64 y9.fHigh] [.int .i64 y9.fSpan.fLo,.int .i64 y9.fSpan.fHi] fd_30_0 ag_28 rfl rfl) ?_
   refine ox_alloc ze_28 rfl (fun b11 => ?_)
   refine ox_n rfl (y_storeN 4 [.int .i64 y9.fSpan.fLo,.int .i64 y9.fSpan.fHi] sz_28 rfl (Nat.le_of_ble_eq_true rfl) rfl rfl rfl) ?_
   refine ox_nil (ex_then ?_)
   obtain ⟨hg16,h⟩:=guardO_some h
   obtain ⟨hg20,h⟩:=guardO_some h
   refine cx_drawsG [[],[],[1],[1,2],[0,1,2,3],[],[],[6],[6,7],[0,1,2,3,4,5,6,7,8],[0,1,2,3,4,5,6,7,8,9],[0,1,2,3,4,5,6,7,8,9,10]] [(none,0,[true,true,true,true,true]),(none,0,[true,true,true,true,true]),(none,0,[true,true,true,true,true]),(none,1,[true,true,true,true,true]),(some 1,0,[true,true,true,true,true,true]),(none,0,[true,false,true,true,true,false]),(none,0,[true,false,true,true,true,false]),(none,0,[true,false,true,true,true,false]),(none,1,[true,false,true,true,true,false]),(some 2,0,[true,true,true,true,true,true,true]),(none,0,[true,true,true,true,true,true,true]),(none,0,[true,true,true,true,true,true,true])] [⟨fun _ => .slice A1_s4 s4.2.1.length c1_s4,fun _ => noR,fun _ => []⟩,⟨fun _ => .pointer (some ⟨b11,0 + 0,none⟩),fun _ => noR,fun _ => []⟩,⟨fun _ => .int .i64 y9.fSpan.fLo,fun _ => noR,fun _ => []⟩,⟨fun ξ12 => .slice (some ⟨(ξ12 3 0).2.1,0,none⟩) 1 1,fun _ => noR,fun ξ12 => [rowR (some ⟨(ξ12 3 0).2.1,0,none⟩) 1 3 1 1 (encL cI [y9.fSpan.fLo])]⟩,⟨fun ξ12 => .slice (ξ12 4 0).1 (s4.2.1.length + 1) (ξ12 4 0).2.2,fun ξ12 => rowR (ξ12 4 0).1 (ξ12 4 0).2.2 3 1 (s4.2.1.length + 1) (encL cI (s4.2.1 ++ [y9.fSpan.fLo])),fun _ => []⟩,⟨fun _ => .slice A2_s4 s4.2.2.length c2_s4,fun _ => noR,fun _ => []⟩,⟨fun _ => .pointer (some ⟨b11,0 + 1,none⟩),fun _ => noR,fun _ => []⟩,⟨fun _ => .int .i64 y9.fSpan.fHi,fun _ => noR,fun _ => []⟩,⟨fun ξ12 => .slice (some ⟨(ξ12 8 0).2.1,0,none⟩) 1 1,fun _ => noR,fun ξ12 => [rowR (some ⟨(ξ12 8 0).2.1,0,none⟩) 1 3 1 1 (encL cI [y9.fSpan.fHi])]⟩,⟨fun ξ12 => .slice (ξ12 9 0).1 (s4.2.2.length + 1) (ξ12 9 0).2.2,fun ξ12 => rowR (ξ12 9 0).1 (ξ12 9 0).2.2 3 1 (s4.2.2.length + 1) (encL cI (s4.2.2 ++ [y9.fSpan.fHi])),fun _ => []⟩,⟨fun ξ12 => .slice (ξ12 4 0).1 (s4.2.1.length + 1) (ξ12 4 0).2.2,fun _ => noR,fun _ => []⟩,⟨fun ξ12 => .slice (ξ12 9 0).1 (s4.2.2.length + 1) (ξ12 9 0).2.2,fun _ => noR,fun _ => []⟩] 5 mixed (by kernel_rfl) (by kernel_rfl) ⟨⟨fun ξ12 ξ12' h => ⟨rfl,rfl,rfl⟩,fun _ => rfl⟩,⟨fun ξ12 ξ12' h => ⟨rfl,rfl,rfl⟩,fun _ => rfl⟩,⟨fun ξ12 ξ12' h => ⟨rfl,rfl,rfl⟩,fun _ => rfl⟩,⟨fun ξ12 ξ12' h => ⟨by simp only [h 3 (.inl rfl)],rfl,by simp only [h 3 (.inl rfl)]⟩,fun _ => rfl⟩,⟨fun ξ12 ξ12' h => ⟨by simp only [h 4 (.inl rfl)],by simp only [h 4 (.inl rfl)],rfl⟩,fun _ => rfl⟩,⟨fun ξ12 ξ12' h => ⟨rfl,rfl,rfl⟩,fun _ => rfl⟩,⟨fun ξ12 ξ12' h => ⟨rfl,rfl,rfl⟩,fun _ => rfl⟩,⟨fun ξ12 ξ12' h => ⟨rfl,rfl,rfl⟩,fun _ => rfl⟩,⟨fun ξ12 ξ12' h => ⟨by simp only [h 8 (.inl rfl)],rfl,by simp only [h 8 (.inl rfl)]⟩,fun _ => rfl⟩,⟨fun ξ12 ξ12' h => ⟨by simp only [h 9 (.inl rfl)],by simp only [h 9 (.inl rfl)],rfl⟩,fun _ => rfl⟩,⟨fun ξ12 ξ12' h => ⟨by simp only [h 4 (.inr rfl)],rfl,rfl⟩,fun _ => rfl⟩,⟨fun ξ12 ξ12' h => ⟨by simp only [h 9 (.inr rfl)],rfl,rfl⟩,fun _ => rfl⟩,trivial⟩ rfl (fun ξ12 => ?_)
   refine gx_o rfl (fun L2 => ?_) ?_
   ·dsimp only [maskL,lca,lna]
    refine ox_y rfl (y_move_slice rfl) ?_
    refine ox_nil ?_
    exact ex_capG (fun _ => (none,0,0)) rfl (List.append_nil _)
   dsimp only [aftL,lsz,lss,lna,lca,List.append_nil]
   refine gx_o rfl (fun L2 => ?_) ?_
   ·dsimp only [maskL,lca,lna]
    refine ox_y rfl (y_fieldAddr fo_28_0 rfl) ?_
    refine ox_nil ?_
    exact ex_capG (fun _ => (none,0,0)) rfl (List.append_nil _)
   dsimp only [aftL,lsz,lss,lna,lca,List.append_nil]
   refine gx_o rfl (fun L2 => ?_) ?_
   ·dsimp only [maskL,lca,lna]
    refine ox_y rfl (y_load1 4 (v:=.int .i64 y9.fSpan.fLo) sc_3 rfl rfl rfl) ?_
    refine ox_nil ?_
    exact ex_capG (fun _ => (none,0,0)) rfl (List.append_nil _)
   dsimp only [aftL,lsz,lss,lna,lca,List.append_nil]
   refine gx_o rfl (fun L2 => ?_) ?_
   ·dsimp only [maskL,lca,lna]
    refine ox_buildSliceE 1 (encL cI [y9.fSpan.fLo]) _ mc_3_1 us_39 ze_3 by_3 (by decide) (by decide) (by kernel_rfl) (encL_len cI_len rfl) rfl (fun b13 => ?_)
    refine ox_nil ?_
    exact ex_capG (fun _ => (none,b13,0)) rfl rfl
   dsimp only [aftL,lsz,lss,lna,lca,List.append_nil]
   refine gx_o rfl (fun L2 => ?_) ?_
   ·dsimp only [maskL,lca,lna]
    refine ox_append0 1 us_39 ze_3 by_3 rfl rfl rfl (RdL.row 5 rfl) (encL_len cI_len rfl) (encL_one cI_one _) (app_room hg16 (by decide)) rfl (fun A14 c15 => ?_)
    refine ox_nil ?_
    exact ex_capG (fun _ => (A14,0,c15)) rfl (List.append_nil _)
   dsimp only [aftL,lsz,lss,lna,lca,List.append_nil]
   refine gx_o rfl (fun L2 => ?_) ?_
   ·dsimp only [maskL,lca,lna]
    refine ox_y rfl (y_move_slice rfl) ?_
    refine ox_nil ?_
    exact ex_capG (fun _ => (none,0,0)) rfl (List.append_nil _)
   dsimp only [aftL,lsz,lss,lna,lca,List.append_nil]
   refine gx_o rfl (fun L2 => ?_) ?_
   ·dsimp only [maskL,lca,lna]
    refine ox_y rfl (y_fieldAddr fo_28_1 rfl) ?_
    refine ox_nil ?_
    exact ex_capG (fun _ => (none,0,0)) rfl (List.append_nil _)
   dsimp only [aftL,lsz,lss,lna,lca,List.append_nil]
   refine gx_o rfl (fun L2 => ?_) ?_
   ·dsimp only [maskL,lca,lna]
    refine ox_y rfl (y_load1 4 (v:=.int .i64 y9.fSpan.fHi) sc_3 rfl rfl rfl) ?_
    refine ox_nil ?_
    exact ex_capG (fun _ => (none,0,0)) rfl (List.append_nil _)
   dsimp only [aftL,lsz,lss,lna,lca,List.append_nil]
   refine gx_o rfl (fun L2 => ?_) ?_
   ·dsimp only [maskL,lca,lna]
    refine ox_buildSliceE 1 (encL cI [y9.fSpan.fHi]) _ mc_3_1 us_39 ze_3 by_3 (by decide) (by decide) (by kernel_rfl) (encL_len cI_len rfl) rfl (fun b17 => ?_)
    refine ox_nil ?_
    exact ex_capG (fun _ => (none,b17,0)) rfl rfl
   dsimp only [aftL,lsz,lss,lna,lca,List.append_nil]
   refine gx_o rfl (fun L2 => ?_) ?_
   ·dsimp only [maskL,lca,lna]
    refine ox_append0 2 us_39 ze_3 by_3 rfl rfl rfl (RdL.row 6 rfl) (encL_len cI_len rfl) (encL_one cI_one _) (app_room hg20 (by decide)) rfl (fun A18 c19 => ?_)
    refine ox_nil ?_
    exact ex_capG (fun _ => (A18,0,c19)) rfl (List.append_nil _)
   dsimp only [aftL,lsz,lss,lna,lca,List.append_nil]
   refine gx_o rfl (fun L2 => ?_) ?_
   ·dsimp only [maskL,lca,lna]
    refine ox_y rfl (y_assign_slice rfl) ?_
    refine ox_nil ?_
    exact ex_capG (fun _ => (none,0,0)) rfl (List.append_nil _)
   dsimp only [aftL,lsz,lss,lna,lca,List.append_nil]
   refine gx_o rfl (fun L2 => ?_) ?_
   ·dsimp only [maskL,lca,lna]
    refine ox_y rfl (y_assign_slice rfl) ?_
    refine ox_nil ?_
    exact ex_capG (fun _ => (none,0,0)) rfl (List.append_nil _)
   dsimp only [aftL,lsz,lss,lna,lca,List.append_nil]
   refine gx_nil ?_
   refine ex_block ?_
   refine ex_then (cx_region ?_)
   try dsimp only [lna,lca,lsz,lss]
   refine ox_y rfl (y_add rfl rfl) ?_
   refine ox_y rfl (y_move_int rfl) ?_
   refine ox_nil ?_
   refine ex_take 3 ?_
   obtain rfl:=Option.some.inj h
   exact ex_next ⟨_,(ξ12 4 0).1,(ξ12 4 0).2.2,(s4.2.1.length + 1),(ξ12 9 0).1,(ξ12 9 0).2.2,(s4.2.2.length + 1),(hn_app rfl rfl),(hn_app rfl rfl),rfl,(keep (keep (keep (keep (keep (keep (keep (keep rfl rfl) rfl) rfl) rfl) rfl) rfl) rfl) rfl)⟩
  ·refine cx_false (congrArg Value.bool hp6) ?_
   refine cx_exit ?_
   refine ex_then_exit ?_
   obtain rfl:=Option.some.inj h
   exact ex_stop ⟨rfl,_,A1_s4,c1_s4,s4.2.1.length,A2_s4,c2_s4,s4.2.2.length,rfl,rfl,rfl,(keep (keep (keep (keep (keep (keep (keep (keep rfl rfl) rfl) rfl) rfl) rfl) rfl) rfl) rfl)⟩
 ·intro e L tm hJ
  obtain ⟨rfl,tm0_u5,A1_u5,c1_u5,n1_u5,A2_u5,c2_u5,n2_u5,rfl,rfl,rfl,rfl⟩:=hJ
  refine ⟨(by intro hc; cases hc),?_⟩
  refine ex_block_here ?_
  refine ex_then (cx_seq (cx_region ?_))
  refine ox_y rfl (y_move_slice rfl) ?_
  refine ox_y rfl (y_move_slice rfl) ?_
  refine ox_y rfl (y_assign_slice rfl) ?_
  refine ox_y rfl (y_assign_slice rfl) ?_
  refine ox_nil (ex_then (cx_ret ?_))
  obtain rfl:=Option.some.inj h
  exact ex_res2 (.inl rfl) rfl (resV_tmp (v:=.slice A1_u5 u5.2.1.length c1_u5) rfl) (resV_tmp (v:=.slice A2_u5 u5.2.2.length c2_u5) rfl) (fun W2 hW2 => ⟨((A1_u5,u5.2.1.length,c1_u5),(A2_u5,u5.2.2.length,c2_u5)),⟨rfl,rfl⟩,rfl,hW2.pick2 1 2 (by decide) rfl rfl⟩)

theorem fire_burnt_ok (p0_heats:(List Int)) (p1_need:Int) (res:TBurn) (h:fire_burnt p0_heats p1_need = some res) (W:World) (A0_0:Option Addr) (n0_0 c0_0 : Nat) (hn0_0:n0_0 = p0_heats.length) (hr0_0:Rd W A0_0 n0_0 c0_0 (encL cI p0_heats)) :
  Calls Tryz.prog 78 [.slice A0_0 n0_0 c0_0,.int .i64 p1_need].toArray W fun e W2 => e = .returned (.agg #[.int .i64 res.fHours,.int .i64 res.fRow,.int .i64 res.fSum]) ∧ Ext W W2 []:=by
 subst hn0_0
 unfold fire_burnt at h
 refine calls_enter (m:=38) Tryz.func78 rfl rfl (Nat.le_of_ble_eq_true rfl) ?_
 refine cx_seq (cx_region ?_)
 refine ox_alloc ze_74 rfl (fun b1 => ?_)
 refine ox_nil (ex_then (cx_seq (cx_region ?_)))
 refine ox_alloc ze_74 rfl (fun b2 => ?_)
 refine ox_nil (ex_then (cx_seq (cx_region ?_)))
 refine ox_y rfl (y_assign_int rfl) ?_
 refine ox_nil (ex_then (cx_seq (cx_seq (cx_region ?_))))
 refine ox_y rfl (y_move_slice rfl) ?_
 refine ox_y rfl (y_len (us:=[]) us_39 rfl) ?_
 refine ox_y rfl (y_move_int rfl) ?_
 refine ox_nil (ex_then (cx_block ?_))
 obtain ⟨u6,hl10,h⟩:=bind_some h
 refine cx_loop (fun (s:(Int × Int × Int × Int × Int)) L tm => ∃ (tm0:Nat → Value),L = [cellsR b1 74 [.int .i64 0,.int .i64 0,.int .i64 0],cellsR b2 74 [.int .i64 s.2.2.1,.int .i64 s.2.2.2.1,.int .i64 s.2.2.2.2]] ∧ tm = (upd (upd (upd (upd (upd (upd (upd (upd tm0 0 (.slice A0_0 p0_heats.length c0_0)) 1 (.int .i64 p1_need)) 4 (.pointer (some ⟨b1,0,none⟩))) 5 (.pointer (some ⟨b2,0,none⟩))) 6 (.int .i64 s.1)) 9 (.slice A0_0 p0_heats.length c0_0)) 10 (.int .i64 (p0_heats.length:Int))) 11 (.int .i64 s.2.1))) (fun s e L tm => e = .exit 0 ∧ ∃ (tm0:Nat → Value),L = [cellsR b1 74 [.int .i64 0,.int .i64 0,.int .i64 0],cellsR b2 74 [.int .i64 s.2.2.1,.int .i64 s.2.2.2.1,.int .i64 s.2.2.2.2]] ∧ tm = (upd (upd (upd (upd (upd (upd (upd (upd tm0 0 (.slice A0_0 p0_heats.length c0_0)) 1 (.int .i64 p1_need)) 4 (.pointer (some ⟨b1,0,none⟩))) 5 (.pointer (some ⟨b2,0,none⟩))) 6 (.int .i64 s.1)) 9 (.slice A0_0 p0_heats.length c0_0)) 10 (.int .i64 (p0_heats.length:Int))) 11 (.int .i64 s.2.1))) hl10 ⟨_,rfl,(keep (keep (keep (keep (keep (keep (keep (keep rfl rfl) rfl) rfl) rfl) rfl) rfl) rfl) rfl)⟩ ?_ ?_
 ·rintro s5 L tm st ⟨tm0_s5,rfl,rfl⟩ h
  unfold fire_burnt_l1 at h
  refine cx_seq (cx_region ?_)
  refine ox_y rfl (y_lss rfl rfl) ?_
  refine ox_nil (ex_then (cx_seq ?_))
  rcases ite_some h with ⟨hp7,h⟩ | ⟨hp7,h⟩
  ·refine cx_true (congrArg Value.bool hp7) ?_
   refine cx_skip (ex_then (cx_seq (cx_block (cx_seq (cx_region ?_)))))
   obtain ⟨hg8,h⟩:=guardO_some h
   refine ox_y rfl (y_indexR sl_39 (by decide) hg8.1 hg8.2 (RdL.arg hr0_0) (encL_len cI_len rfl) rfl rfl) ?_
   refine ox_y rfl (y_loadR1 (A:=A0_0) (j:=(Int.toNat s5.2.1 * 1)) (v:=.int .i64 (rdL p0_heats s5.2.1)) sc_3 (RdL.arg hr0_0) rfl (encL_get0 cI_len hg8.1 (lt_nat hg8.2 rfl) rfl)) ?_
   refine ox_y rfl (y_assign_int rfl) ?_
   refine ox_nil (ex_then (cx_seq (cx_seq (cx_region ?_))))
   refine ox_y rfl (y_move_int rfl) ?_
   refine ox_y rfl (y_move_int rfl) ?_
   refine ox_y rfl (y_lss rfl rfl) ?_
   refine ox_nil (ex_then ?_)
   rcases ite_some h with ⟨hp9,h⟩ | ⟨hp9,h⟩
   ·refine cx_true (congrArg Value.bool hp9) ?_
    refine cx_seq (cx_region ?_)
    refine ox_y rfl (y_assign_int rfl) ?_
    refine ox_nil (ex_then ?_)
    refine cx_exit ?_
    refine ex_then_exit ?_
    refine ex_block_here ?_
    refine ex_then (cx_region ?_)
    refine ox_y rfl (y_add rfl rfl) ?_
    refine ox_y rfl (y_move_int rfl) ?_
    refine ox_nil ?_
    obtain rfl:=Option.some.inj h
    exact ex_next ⟨_,rfl,(keep (keep (keep (keep (keep (keep (keep (keep rfl rfl) rfl) rfl) rfl) rfl) rfl) rfl) rfl)⟩
   ·refine cx_false (congrArg Value.bool hp9) ?_
    refine cx_skip (ex_then (cx_seq (cx_region ?_)))
    refine ox_y rfl (y_move_int rfl) ?_
    refine ox_y rfl (y_add rfl rfl) ?_
    refine ox_y rfl (y_assign_int rfl) ?_
    refine ox_nil (ex_then (cx_seq (cx_region ?_)))
    refine ox_y rfl (y_fieldAddr fo_74_0 rfl) ?_
    refine ox_y rfl (y_load1 1 (v:=.int .i64 s5.2.2.1) sc_3 rfl rfl rfl) ?_
    refine ox_y rfl (y_add rfl rfl) ?_
    refine ox_y rfl (y_fieldAddr fo_74_0 rfl) ?_
    refine ox_n rfl (y_store1 1 (v:=.int .i64 (w64 (s5.2.2.1 + 1))) sz_3 rfl (Nat.lt_of_lt_of_le (Nat.lt_succ_self _) (Nat.le_of_ble_eq_true rfl)) rfl rfl rfl) ?_
    refine ox_nil (ex_then (cx_seq (cx_region ?_)))
    refine ox_y rfl (y_fieldAddr fo_74_1 rfl) ?_
    refine ox_y rfl (y_load1 1 (v:=.int .i64 s5.2.2.2.1) sc_3 rfl rfl rfl) ?_
    refine ox_y rfl (y_move_int rfl) ?_
    refine ox_y rfl (y_max rfl rfl) ?_
    refine ox_y rfl (y_fieldAddr fo_74_1 rfl) ?_
    refine ox_n rfl (y_store1 1 (v:=.int .i64 (max s5.2.2.2.1 (w64 (s5.1 + 1)))) sz_3 rfl (Nat.lt_of_lt_of_le (Nat.lt_succ_self _) (Nat.le_of_ble_eq_true rfl)) rfl rfl rfl) ?_
    refine ox_nil (ex_then (cx_region ?_))
    refine ox_y rfl (y_fieldAddr fo_74_2 rfl) ?_
    refine ox_y rfl (y_load1 1 (v:=.int .i64 s5.2.2.2.2) sc_3 rfl rfl rfl) ?_
    refine ox_y rfl (y_move_int rfl) ?_
    refine ox_y rfl (y_move_int rfl) ?_
    refine ox_y rfl (y_sub rfl rfl) ?_
    refine ox_y rfl (y_add rfl rfl) ?_
    refine ox_y rfl (y_fieldAddr fo_74_2 rfl) ?_
    refine ox_n rfl (y_store1 1 (v:=.int .i64 (w64 (s5.2.2.2.2 + (w64 ((rdL p0_heats s5.2.1) - p1_need))))) sz_3 rfl (Nat.lt_of_lt_of_le (Nat.lt_succ_self _) (Nat.le_of_ble_eq_true rfl)) rfl rfl rfl) ?_
    refine ox_nil ?_
    refine ex_block ?_
    refine ex_then (cx_region ?_)
    refine ox_y rfl (y_add rfl rfl) ?_
    refine ox_y rfl (y_move_int rfl) ?_
    refine ox_nil ?_
    obtain rfl:=Option.some.inj h
    exact ex_next ⟨_,rfl,(keep (keep (keep (keep (keep (keep (keep (keep rfl rfl) rfl) rfl) rfl) rfl) rfl) rfl) rfl)⟩
  ·refine cx_false (congrArg Value.bool hp7) ?_
   refine cx_exit ?_
   refine ex_then_exit ?_
   obtain rfl:=Option.some.inj h
   exact ex_stop ⟨rfl,_,rfl,(keep (keep (keep (keep (keep (keep (keep (keep rfl rfl) rfl) rfl) rfl) rfl) rfl) rfl) rfl)⟩
 ·intro e L tm hJ
  obtain ⟨rfl,tm0_u6,rfl,rfl⟩:=hJ
  refine ⟨(by intro hc; cases hc),?_⟩
  refine ex_block_here ?_
  refine ex_then (cx_seq (cx_region ?_))
  refine ox_y rfl (y_loadN 1 [.int .i64 u6.2.2.1,.int .i64 u6.2.2.2.1,.int .i64 u6.2.2.2.2] ag_74 rfl rfl rfl) ?_
  refine ox_n rfl (y_storeN 0 [.int .i64 u6.2.2.1,.int .i64 u6.2.2.2.1,.int .i64 u6.2.2.2.2] sz_74 rfl (Nat.le_of_ble_eq_true rfl) rfl rfl rfl) ?_
  refine ox_nil (ex_then (cx_ret ?_))
  obtain rfl:=Option.some.inj h
  exact ex_res1 (.inl rfl) rfl (resV_cellN 0 [.int .i64 u6.2.2.1,.int .i64 u6.2.2.2.1,.int .i64 u6.2.2.2.2] ag_74 rfl rfl rfl) (fun W2 hW2 => ⟨rfl,hW2.none⟩)

theorem fire_Burnt_ok (p0_f:TFire) (p1_path:(List TSpot)) (p2_need:Int) (res:(TBurn × TBurn × Int)) (h:fire_Burnt p0_f p1_path p2_need = some res) (W:World) (A0_4:Option Addr) (n0_4 c0_4 : Nat) (hn0_4:n0_4 = p0_f.fLooks.length) (hr0_4:Rd W A0_4 n0_4 c0_4 (encL TLook_cells p0_f.fLooks)) (A1_0:Option Addr) (n1_0 c1_0 : Nat) (hn1_0:n1_0 = p1_path.length) (hr1_0:Rd W A1_0 n1_0 c1_0 (encL TSpot_cells p1_path)) :
  Calls Tryz.prog 32 [.agg #[.int .i64 p0_f.fRise,.int .i64 p0_f.fFall,.int .i64 p0_f.fUp,.int .i64 p0_f.fDown,.slice A0_4 n0_4 c0_4],.slice A1_0 n1_0 c1_0,.int .i64 p2_need].toArray W fun e W2 => e = .returned (.tuple #[.agg #[.int .i64 res.1.fHours,.int .i64 res.1.fRow,.int .i64 res.1.fSum],.agg #[.int .i64 res.2.1.fHours,.int .i64 res.2.1.fRow,.int .i64 res.2.1.fSum],.int .i64 res.2.2]) ∧ Ext W W2 []:=by
 subst hn0_4
 subst hn1_0
 unfold fire_Burnt at h
 refine calls_enter (m:=33) Tryz.func32 rfl rfl (Nat.le_of_ble_eq_true rfl) ?_
 refine cx_seq (cx_region ?_)
 refine ox_box [.int .i64 p0_f.fRise,.int .i64 p0_f.fFall,.int .i64 p0_f.fUp,.int .i64 p0_f.fDown,.slice A0_4 p0_f.fLooks.length c0_4] rfl rfl rfl (fun b1 => ?_)
 refine ox_alloc ze_74 rfl (fun b2 => ?_)
 refine ox_alloc ze_74 rfl (fun b3 => ?_)
 refine ox_y rfl (y_assign_int rfl) ?_
 refine ox_nil (ex_then (cx_seq (cx_seq (cx_region ?_))))
 refine ox_y rfl (y_loadN 0 [.int .i64 p0_f.fRise,.int .i64 p0_f.fFall,.int .i64 p0_f.fUp,.int .i64 p0_f.fDown,.slice A0_4 p0_f.fLooks.length c0_4] ag_24 rfl rfl rfl) ?_
 refine ox_y rfl (y_move_slice rfl) ?_
 refine ox_y rfl (y_move_int rfl) ?_
 obtain ⟨y4,hy5,h⟩:=bind_some h
 refine ox_y rfl (y_call [.agg #[.int .i64 p0_f.fRise,.int .i64 p0_f.fFall,.int .i64 p0_f.fUp,.int .i64 p0_f.fDown,.slice A0_4 p0_f.fLooks.length c0_4],.slice A1_0 p1_path.length c1_0,.int .i64 p2_need] go_76 rfl (fun W2 hW2 => fire_walked_ok p0_f p1_path p2_need y4 hy5 W2 A0_4 p0_f.fLooks.length c0_4 rfl ((RdL.arg hr0_4) W2 hW2) A1_0 p1_path.length c1_0 rfl ((RdL.arg hr1_0) W2 hW2)) rfl) ?_
 refine ox_y rfl (y_assign_int rfl) ?_
 refine ox_nil (ex_then (cx_seq (cx_region ?_)))
 refine ox_y rfl (y_move_int rfl) ?_
 refine ox_y rfl (y_neq rfl rfl) ?_
 refine ox_nil (ex_then ?_)
 rcases ite_some h with ⟨hp6,h⟩ | ⟨hp6,h⟩
 ·refine cx_true (congrArg Value.bool hp6) ?_
  refine cx_seq (cx_region ?_)
  refine ox_y rfl (y_buildS [.int .i64 0,.int .i64 0,.int .i64 0] [(0,1),(1,1),(2,1)] ust_74 ze_74 (by kernel_rfl)) ?_
  refine ox_y rfl (y_buildS [.int .i64 0,.int .i64 0,.int .i64 0] [(0,1),(1,1),(2,1)] ust_74 ze_74 (by kernel_rfl)) ?_
  refine ox_y rfl (y_move_int rfl) ?_
  refine ox_n rfl (y_storeN 1 [.int .i64 0,.int .i64 0,.int .i64 0] sz_74 rfl (Nat.le_of_ble_eq_true rfl) rfl rfl rfl) ?_
  refine ox_n rfl (y_storeN 2 [.int .i64 0,.int .i64 0,.int .i64 0] sz_74 rfl (Nat.le_of_ble_eq_true rfl) rfl rfl rfl) ?_
  refine ox_y rfl (y_assign_int rfl) ?_
  refine ox_nil (ex_then (cx_ret (ex_then_ret ?_)))
  obtain rfl:=Option.some.inj h
  exact ex_res3 (.inl rfl) rfl (resV_cellN 1 [.int .i64 0,.int .i64 0,.int .i64 0] ag_74 rfl rfl rfl) (resV_cellN 2 [.int .i64 0,.int .i64 0,.int .i64 0] ag_74 rfl rfl rfl) (resV_tmp (v:=.int .i64 y4) rfl) (fun W2 hW2 => ⟨rfl,hW2.none⟩)
 ·refine cx_false (congrArg Value.bool hp6) ?_
  refine cx_skip (ex_then (cx_seq (cx_region ?_)))
  refine ox_y rfl (y_loadN 0 [.int .i64 p0_f.fRise,.int .i64 p0_f.fFall,.int .i64 p0_f.fUp,.int .i64 p0_f.fDown,.slice A0_4 p0_f.fLooks.length c0_4] ag_24 rfl rfl rfl) ?_
  refine ox_y rfl (y_move_slice rfl) ?_
  obtain ⟨y7,hy8,h⟩:=bind_some h
  refine ox_call [.agg #[.int .i64 p0_f.fRise,.int .i64 p0_f.fFall,.int .i64 p0_f.fUp,.int .i64 p0_f.fDown,.slice A0_4 p0_f.fLooks.length c0_4],.slice A1_0 p1_path.length c1_0] _ _ _ rfl go_77 rfl (fun W2 hW2 => fire_heats_ok p0_f p1_path y7 hy8 W2 A0_4 p0_f.fLooks.length c0_4 rfl ((RdL.arg hr0_4) W2 hW2) A1_0 p1_path.length c1_0 rfl ((RdL.arg hr1_0) W2 hW2)) ?_
  rintro ⟨⟨A9,n13,c10⟩,⟨A11,n15,c12⟩⟩ ⟨hn14,hn16⟩
  replace hn14 : n13 = y7.1.length:=hn14; subst hn14
  replace hn16 : n15 = y7.2.length:=hn16; subst hn16
  refine ox_y rfl (y_move_tuple rfl) ?_
  refine ox_y rfl (y_extract (vs:=[.slice A9 y7.1.length c10,.slice A11 y7.2.length c12]) (v:=.slice A9 y7.1.length c10) rfl rfl) ?_
  refine ox_y rfl (y_extract (vs:=[.slice A9 y7.1.length c10,.slice A11 y7.2.length c12]) (v:=.slice A11 y7.2.length c12) rfl rfl) ?_
  refine ox_y rfl (y_assign_slice rfl) ?_
  refine ox_y rfl (y_assign_slice rfl) ?_
  refine ox_nil (ex_then (cx_seq (cx_region ?_)))
  refine ox_y rfl (y_move_slice rfl) ?_
  refine ox_y rfl (y_move_int rfl) ?_
  obtain ⟨y17,hy18,h⟩:=bind_some h
  refine ox_y rfl (y_call [.slice A9 y7.1.length c10,.int .i64 p2_need] go_78 rfl (fun W2 hW2 => fire_burnt_ok y7.1 p2_need y17 hy18 W2 A9 y7.1.length c10 rfl ((RdL.row 3 rfl) W2 hW2)) rfl) ?_
  refine ox_y rfl (y_move_slice rfl) ?_
  refine ox_y rfl (y_move_int rfl) ?_
  obtain ⟨y19,hy20,h⟩:=bind_some h
  refine ox_y rfl (y_call [.slice A11 y7.2.length c12,.int .i64 p2_need] go_78 rfl (fun W2 hW2 => fire_burnt_ok y7.2 p2_need y19 hy20 W2 A11 y7.2.length c12 rfl ((RdL.row 4 rfl) W2 hW2)) rfl) ?_
  refine ox_n rfl (y_storeN 1 [.int .i64 y17.fHours,.int .i64 y17.fRow,.int .i64 y17.fSum] sz_74 rfl (Nat.le_of_ble_eq_true rfl) rfl rfl rfl) ?_
  refine ox_n rfl (y_storeN 2 [.int .i64 y19.fHours,.int .i64 y19.fRow,.int .i64 y19.fSum] sz_74 rfl (Nat.le_of_ble_eq_true rfl) rfl rfl rfl) ?_
  refine ox_y rfl (y_assign_int rfl) ?_
  refine ox_nil (ex_then (cx_ret ?_))
  obtain rfl:=Option.some.inj h
  exact ex_res3 (.inl rfl) rfl (resV_cellN 1 [.int .i64 y17.fHours,.int .i64 y17.fRow,.int .i64 y17.fSum] ag_74 rfl rfl rfl) (resV_cellN 2 [.int .i64 y19.fHours,.int .i64 y19.fRow,.int .i64 y19.fSum] ag_74 rfl rfl rfl) (resV_tmp (v:=.int .i64 0) rfl) (fun W2 hW2 => ⟨rfl,hW2.none⟩)

theorem fire_hot_ok (p0_heats:(List Int)) (p1_need:Int) (res:(List TSpan)) (h:fire_hot p0_heats p1_need = some res) (W:World) (A0_0:Option Addr) (n0_0 c0_0 : Nat) (hn0_0:n0_0 = p0_heats.length) (hr0_0:Rd W A0_0 n0_0 c0_0 (encL cI p0_heats)) :
  Calls Tryz.prog 79 [.slice A0_0 n0_0 c0_0,.int .i64 p1_need].toArray W fun e W2 => ∃ x : Option Addr × Nat × Nat,x.2.1 = res.length ∧ e = .returned (.slice x.1 x.2.1 x.2.2) ∧ Ext W W2 [rowR x.1 x.2.2 28 2 x.2.1 (encL TSpan_cells res)]:=by
 subst hn0_0
 unfold fire_hot at h
 refine calls_enter (m:=48) Tryz.func79 rfl rfl (Nat.le_of_ble_eq_true rfl) ?_
 refine cx_seq (cx_region ?_)
 refine ox_y rfl (y_assign_slice rfl) ?_
 refine ox_nil (ex_then (cx_seq (cx_region ?_)))
 refine ox_y rfl (y_assign_slice rfl) ?_
 refine ox_nil (ex_then (cx_seq (cx_seq (cx_region ?_))))
 refine ox_y rfl (y_move_slice rfl) ?_
 refine ox_y rfl (y_len (us:=[]) us_39 rfl) ?_
 refine ox_y rfl (y_move_int rfl) ?_
 refine ox_nil (ex_then (cx_block ?_))
 obtain ⟨u4,hl18,h⟩:=bind_some h
 refine cx_nilrow 28 2 ?_
 refine cx_loop (fun (s:(Int × (List TSpan))) L tm => ∃ (tm0:Nat → Value) (A0_s:Option Addr) (c0_s:Nat) (n0_s:Nat),n0_s = s.2.length ∧ L = [rowR A0_s c0_s 28 2 n0_s (encL TSpan_cells s.2)] ∧ tm = (upd (upd (upd (upd (upd (upd (upd tm0 0 (.slice A0_0 p0_heats.length c0_0)) 1 (.int .i64 p1_need)) 4 (.slice none 0 0)) 5 (.slice A0_s n0_s c0_s)) 9 (.slice A0_0 p0_heats.length c0_0)) 10 (.int .i64 (p0_heats.length:Int))) 11 (.int .i64 s.1))) (fun s e L tm => e = .exit 0 ∧ ∃ (tm0:Nat → Value) (A0_s:Option Addr) (c0_s:Nat) (n0_s:Nat),n0_s = s.2.length ∧ L = [rowR A0_s c0_s 28 2 n0_s (encL TSpan_cells s.2)] ∧ tm = (upd (upd (upd (upd (upd (upd (upd tm0 0 (.slice A0_0 p0_heats.length c0_0)) 1 (.int .i64 p1_need)) 4 (.slice none 0 0)) 5 (.slice A0_s n0_s c0_s)) 9 (.slice A0_0 p0_heats.length c0_0)) 10 (.int .i64 (p0_heats.length:Int))) 11 (.int .i64 s.1))) hl18 ⟨_,none,0,0,rfl,rfl,(keep (keep (keep (keep (keep (keep (keep rfl rfl) rfl) rfl) rfl) rfl) rfl) rfl)⟩ ?_ ?_
 ·rintro s3 L tm st ⟨tm0_s3,A0_s3,c0_s3,n0_s3,rfl,rfl,rfl⟩ h
  unfold fire_hot_l1 at h
  refine cx_seq (cx_region ?_)
  refine ox_y rfl (y_lss rfl rfl) ?_
  refine ox_nil (ex_then (cx_seq ?_))
  rcases ite_some h with ⟨hp5,h⟩ | ⟨hp5,h⟩
  ·refine cx_true (congrArg Value.bool hp5) ?_
   refine cx_skip (ex_then (cx_seq (cx_block (cx_seq (cx_region ?_)))))
   refine ox_y rfl (y_move_int rfl) ?_
   obtain ⟨hg6,h⟩:=guardO_some h
   refine ox_y rfl (y_indexR sl_39 (by decide) hg6.1 hg6.2 (RdL.arg hr0_0) (encL_len cI_len rfl) rfl rfl) ?_
   refine ox_y rfl (y_loadR1 (A:=A0_0) (j:=(Int.toNat s3.1 * 1)) (v:=.int .i64 (rdL p0_heats s3.1)) sc_3 (RdL.arg hr0_0) rfl (encL_get0 cI_len hg6.1 (lt_nat hg6.2 rfl) rfl)) ?_
   refine ox_y rfl (y_assign_int rfl) ?_
   refine ox_y rfl (y_assign_int rfl) ?_
   refine ox_nil (ex_then (cx_seq (cx_seq (cx_region ?_))))
   refine ox_y rfl (y_move_int rfl) ?_
   refine ox_y rfl (y_move_int rfl) ?_
   refine ox_y rfl (y_lss rfl rfl) ?_
   refine ox_nil (ex_then ?_)
   rcases ite_some h with ⟨hp7,h⟩ | ⟨hp7,h⟩
   ·refine cx_true (congrArg Value.bool hp7) ?_
    refine cx_exit ?_
    refine ex_then_exit ?_
    refine ex_block_here ?_
    refine ex_then (cx_region ?_)
    refine ox_y rfl (y_add rfl rfl) ?_
    refine ox_y rfl (y_move_int rfl) ?_
    refine ox_nil ?_
    obtain rfl:=Option.some.inj h
    exact ex_next ⟨_,A0_s3,c0_s3,s3.2.length,rfl,rfl,(keep (keep (keep (keep (keep (keep (keep rfl rfl) rfl) rfl) rfl) rfl) rfl) rfl)⟩
   ·refine cx_false (congrArg Value.bool hp7) ?_
    refine cx_skip (ex_then (cx_seq (cx_region ?_)))
    refine ox_y rfl (y_move_slice rfl) ?_
    refine ox_y rfl (y_len (us:=[]) us_77 rfl) ?_
    refine ox_y rfl (y_assign_int rfl) ?_
    refine ox_nil (ex_then (cx_seq (cx_region ?_)))
    refine ox_y rfl (y_move_int rfl) ?_
    refine ox_y rfl (y_gtr rfl rfl) ?_
    refine ox_y rfl (y_move_bool rfl) ?_
    obtain ⟨b9,hb10,h⟩:=bind_some h
    refine ox_join 10 (fun tm0 => (upd (upd (upd (upd (upd (upd (upd (upd (upd (upd (upd (upd (upd tm0 0 (.slice A0_0 p0_heats.length c0_0)) 1 (.int .i64 p1_need)) 4 (.slice none 0 0)) 5 (.slice A0_s3 s3.2.length c0_s3)) 9 (.slice A0_0 p0_heats.length c0_0)) 10 (.int .i64 (p0_heats.length:Int))) 11 (.int .i64 s3.1)) 12 (.bool (decide (s3.1 < (p0_heats.length:Int))))) 6 (.int .i64 s3.1)) 7 (.int .i64 (rdL p0_heats s3.1))) 18 (.bool (decide ((rdL p0_heats s3.1) < p1_need)))) 8 (.int .i64 (s3.2.length:Int))) 33 (.bool b9))) (fun tm0 => ?_) (fun key => ?_)
    ·refine ox_nil (ex_then ?_)
     rcases ite_some h with ⟨hp11,h⟩ | ⟨hp11,h⟩
     ·refine cx_true (congrArg Value.bool hp11) ?_
      refine cx_region ?_
      refine ox_y rfl (y_move_slice rfl) ?_
      refine ox_y rfl (y_move_int rfl) ?_
      refine ox_y rfl (y_sub rfl rfl) ?_
      refine ox_y rfl (y_move_int rfl) ?_
      obtain ⟨hg12,h⟩:=guardO_some h
      refine ox_y rfl (y_indexR sl_77 (by decide) hg12.1 hg12.2 (RdL.row 0 rfl) (encL_len TSpan_cells_len rfl) rfl rfl) ?_
      refine ox_y rfl (y_fieldAddrR (A:=A0_s3) (j:=(Int.toNat (w64 ((s3.2.length:Int) - 1)) * 2)) fo_28_1 rfl) ?_
      refine ox_n rfl (y_storeRF 0 (xs:=s3.2) TSpan_cells_len (TSpan.mk ((rdL s3.2 (w64 ((s3.2.length:Int) - 1))).fLo) s3.1) 1 (by decide) sz_3 rfl hg12.1 (lt_nat hg12.2 rfl) rfl rfl rfl rfl) ?_
      refine ox_nil ?_
      refine ex_block ?_
      refine ex_then (cx_region ?_)
      refine ox_y rfl (y_add rfl rfl) ?_
      refine ox_y rfl (y_move_int rfl) ?_
      refine ox_nil ?_
      obtain rfl:=Option.some.inj h
      exact ex_next ⟨_,A0_s3,c0_s3,s3.2.length,(hn_set rfl),rfl,(keep (keep (keep (keep (keep (keep (keep rfl rfl) rfl) rfl) rfl) rfl) rfl) rfl)⟩
     ·refine cx_false (congrArg Value.bool hp11) ?_
      refine cx_region ?_
      refine ox_y rfl (y_move_slice rfl) ?_
      refine ox_y rfl (y_move_int rfl) ?_
      refine ox_y rfl (y_move_int rfl) ?_
      refine ox_y rfl (y_buildS [.int .i64 s3.1,.int .i64 s3.1] [(0,1),(1,1)] ust_28 ze_28 (by kernel_rfl)) ?_
      refine ox_buildSliceE 1 (encL TSpan_cells [(TSpan.mk s3.1 s3.1)]) _ mc_28_1 us_77 ze_28 by_28 (by decide) (by decide) (by kernel_rfl) (encL_len TSpan_cells_len rfl) rfl (fun b13 => ?_)
      obtain ⟨hg16,h⟩:=guardO_some h
      refine ox_append0 0 us_77 ze_28 by_28 rfl rfl rfl (RdL.row 1 rfl) (encL_len TSpan_cells_len rfl) (encL_one TSpan_cells_one _) (app_room hg16 (by decide)) rfl (fun A14 c15 => ?_)
      refine ox_y rfl (y_assign_slice rfl) ?_
      refine ox_nil ?_
      refine ex_block ?_
      refine ex_then (cx_region ?_)
      refine ox_y rfl (y_add rfl rfl) ?_
      refine ox_y rfl (y_move_int rfl) ?_
      refine ox_nil ?_
      refine ex_take 1 ?_
      obtain rfl:=Option.some.inj h
      exact ex_next ⟨_,A14,c15,(s3.2.length + 1),(hn_app rfl rfl),rfl,(keep (keep (keep (keep (keep (keep (keep rfl rfl) rfl) rfl) rfl) rfl) rfl) rfl)⟩
    ·clear h; rcases ite_some hb10 with ⟨hp8,h⟩ | ⟨hp8,h⟩
     ·refine ox_y (sees_t rfl rfl rfl rfl hp8) (y_move_slice rfl) ?_
      refine ox_y (sees_t rfl rfl rfl rfl hp8) (y_move_int rfl) ?_
      refine ox_y (sees_t rfl rfl rfl rfl hp8) (y_sub rfl rfl) ?_
      obtain ⟨hg17,h⟩:=guardO_some h
      refine ox_y (sees_t rfl rfl rfl rfl hp8) (y_indexR sl_77 (by decide) hg17.1 hg17.2 (RdL.row 0 rfl) (encL_len TSpan_cells_len rfl) rfl rfl) ?_
      refine ox_y (sees_t rfl rfl rfl rfl hp8) (y_fieldAddrR (A:=A0_s3) (j:=(Int.toNat (w64 ((s3.2.length:Int) - 1)) * 2)) fo_28_1 rfl) ?_
      refine ox_y (sees_t rfl rfl rfl rfl hp8) (y_loadR1 (A:=A0_s3) (j:=((Int.toNat (w64 ((s3.2.length:Int) - 1)) * 2) + 1)) (v:=.int .i64 ((rdL s3.2 (w64 ((s3.2.length:Int) - 1))).fHi)) sc_3 (RdL.row 0 rfl) rfl (encL_get TSpan_cells_len hg17.1 (lt_nat hg17.2 rfl) rfl)) ?_
      refine ox_y (sees_t rfl rfl rfl rfl hp8) (y_move_int rfl) ?_
      refine ox_y (sees_t rfl rfl rfl rfl hp8) (y_sub rfl rfl) ?_
      refine ox_y (sees_t rfl rfl rfl rfl hp8) (y_eql rfl rfl) ?_
      refine ox_y rfl (y_pick_tb (congrArg Value.bool hp8) rfl) ?_
      obtain rfl:=Option.some.inj h
      exact key _ _ (keep (keep (keep (keep (keep (keep (keep (keep (keep (keep (keep (keep (keep rfl rfl) rfl) rfl) rfl) rfl) rfl) rfl) rfl) rfl) rfl) rfl) rfl) rfl)
     ·refine ox_skip (sees_f rfl rfl rfl rfl hp8) ?_
      refine ox_skip (sees_f rfl rfl rfl rfl hp8) ?_
      refine ox_skip (sees_f rfl rfl rfl rfl hp8) ?_
      refine ox_skip (sees_f rfl rfl rfl rfl hp8) ?_
      refine ox_skip (sees_f rfl rfl rfl rfl hp8) ?_
      refine ox_skip (sees_f rfl rfl rfl rfl hp8) ?_
      refine ox_skip (sees_f rfl rfl rfl rfl hp8) ?_
      refine ox_skip (sees_f rfl rfl rfl rfl hp8) ?_
      refine ox_skip (sees_f rfl rfl rfl rfl hp8) ?_
      refine ox_y rfl (y_pick_fb (congrArg Value.bool hp8) rfl) ?_
      obtain rfl:=Option.some.inj h
      exact key _ _ (keep (keep (keep (keep (keep (keep (keep (keep (keep (keep (keep (keep (keep rfl rfl) rfl) rfl) rfl) rfl) rfl) rfl) rfl) rfl) rfl) rfl) rfl) rfl)
  ·refine cx_false (congrArg Value.bool hp5) ?_
   refine cx_exit ?_
   refine ex_then_exit ?_
   obtain rfl:=Option.some.inj h
   exact ex_stop ⟨rfl,_,A0_s3,c0_s3,s3.2.length,rfl,rfl,(keep (keep (keep (keep (keep (keep (keep rfl rfl) rfl) rfl) rfl) rfl) rfl) rfl)⟩
 ·intro e L tm hJ
  obtain ⟨rfl,tm0_u4,A0_u4,c0_u4,n0_u4,rfl,rfl,rfl⟩:=hJ
  refine ⟨(by intro hc; cases hc),?_⟩
  refine ex_block_here ?_
  refine ex_then (cx_seq (cx_region ?_))
  refine ox_y rfl (y_move_slice rfl) ?_
  refine ox_y rfl (y_assign_slice rfl) ?_
  refine ox_nil (ex_then (cx_ret ?_))
  obtain rfl:=Option.some.inj h
  exact ex_res1 (.inl rfl) rfl (resV_tmp (v:=.slice A0_u4 u4.2.length c0_u4) rfl) (fun W2 hW2 => ⟨(A0_u4,u4.2.length,c0_u4),rfl,rfl,(hW2.pick 0 rfl)⟩)

theorem fire_Surely_ok (p0_f:TFire) (p1_path:(List TSpot)) (p2_need:Int) (res:((List TSpan) × Int)) (h:fire_Surely p0_f p1_path p2_need = some res) (W:World) (A0_4:Option Addr) (n0_4 c0_4 : Nat) (hn0_4:n0_4 = p0_f.fLooks.length) (hr0_4:Rd W A0_4 n0_4 c0_4 (encL TLook_cells p0_f.fLooks)) (A1_0:Option Addr) (n1_0 c1_0 : Nat) (hn1_0:n1_0 = p1_path.length) (hr1_0:Rd W A1_0 n1_0 c1_0 (encL TSpot_cells p1_path)) :
  Calls Tryz.prog 33 [.agg #[.int .i64 p0_f.fRise,.int .i64 p0_f.fFall,.int .i64 p0_f.fUp,.int .i64 p0_f.fDown,.slice A0_4 n0_4 c0_4],.slice A1_0 n1_0 c1_0,.int .i64 p2_need].toArray W fun e W2 => ∃ x : Option Addr × Nat × Nat,x.2.1 = res.1.length ∧ e = .returned (.tuple #[.slice x.1 x.2.1 x.2.2,.int .i64 res.2]) ∧ Ext W W2 [rowR x.1 x.2.2 28 2 x.2.1 (encL TSpan_cells res.1)]:=by
 subst hn0_4
 subst hn1_0
 unfold fire_Surely at h
 refine calls_enter (m:=27) Tryz.func33 rfl rfl (Nat.le_of_ble_eq_true rfl) ?_
 refine cx_seq (cx_region ?_)
 refine ox_box [.int .i64 p0_f.fRise,.int .i64 p0_f.fFall,.int .i64 p0_f.fUp,.int .i64 p0_f.fDown,.slice A0_4 p0_f.fLooks.length c0_4] rfl rfl rfl (fun b1 => ?_)
 refine ox_y rfl (y_assign_slice rfl) ?_
 refine ox_y rfl (y_assign_int rfl) ?_
 refine ox_nil (ex_then (cx_seq (cx_seq (cx_region ?_))))
 refine ox_y rfl (y_loadN 0 [.int .i64 p0_f.fRise,.int .i64 p0_f.fFall,.int .i64 p0_f.fUp,.int .i64 p0_f.fDown,.slice A0_4 p0_f.fLooks.length c0_4] ag_24 rfl rfl rfl) ?_
 refine ox_y rfl (y_move_slice rfl) ?_
 refine ox_y rfl (y_move_int rfl) ?_
 obtain ⟨y2,hy3,h⟩:=bind_some h
 refine ox_y rfl (y_call [.agg #[.int .i64 p0_f.fRise,.int .i64 p0_f.fFall,.int .i64 p0_f.fUp,.int .i64 p0_f.fDown,.slice A0_4 p0_f.fLooks.length c0_4],.slice A1_0 p1_path.length c1_0,.int .i64 p2_need] go_76 rfl (fun W2 hW2 => fire_walked_ok p0_f p1_path p2_need y2 hy3 W2 A0_4 p0_f.fLooks.length c0_4 rfl ((RdL.arg hr0_4) W2 hW2) A1_0 p1_path.length c1_0 rfl ((RdL.arg hr1_0) W2 hW2)) rfl) ?_
 refine ox_y rfl (y_assign_int rfl) ?_
 refine ox_nil (ex_then (cx_seq (cx_region ?_)))
 refine ox_y rfl (y_move_int rfl) ?_
 refine ox_y rfl (y_neq rfl rfl) ?_
 refine ox_nil (ex_then ?_)
 rcases ite_some h with ⟨hp4,h⟩ | ⟨hp4,h⟩
 ·refine cx_true (congrArg Value.bool hp4) ?_
  refine cx_seq (cx_region ?_)
  refine ox_y rfl (y_move_int rfl) ?_
  refine ox_y rfl (y_assign_slice rfl) ?_
  refine ox_y rfl (y_assign_int rfl) ?_
  refine ox_nil (ex_then (cx_ret (ex_then_ret ?_)))
  obtain rfl:=Option.some.inj h
  exact ex_res2 (.inl rfl) rfl (resV_tmp (v:=.slice none 0 0) rfl) (resV_tmp (v:=.int .i64 y2) rfl) (fun W2 hW2 => ⟨(none,0,0),rfl,rfl,((hW2.nilrow 28 2).pick 1 rfl)⟩)
 ·refine cx_false (congrArg Value.bool hp4) ?_
  refine cx_skip (ex_then (cx_seq (cx_region ?_)))
  refine ox_y rfl (y_loadN 0 [.int .i64 p0_f.fRise,.int .i64 p0_f.fFall,.int .i64 p0_f.fUp,.int .i64 p0_f.fDown,.slice A0_4 p0_f.fLooks.length c0_4] ag_24 rfl rfl rfl) ?_
  refine ox_y rfl (y_move_slice rfl) ?_
  obtain ⟨y5,hy6,h⟩:=bind_some h
  refine ox_call [.agg #[.int .i64 p0_f.fRise,.int .i64 p0_f.fFall,.int .i64 p0_f.fUp,.int .i64 p0_f.fDown,.slice A0_4 p0_f.fLooks.length c0_4],.slice A1_0 p1_path.length c1_0] _ _ _ rfl go_77 rfl (fun W2 hW2 => fire_heats_ok p0_f p1_path y5 hy6 W2 A0_4 p0_f.fLooks.length c0_4 rfl ((RdL.arg hr0_4) W2 hW2) A1_0 p1_path.length c1_0 rfl ((RdL.arg hr1_0) W2 hW2)) ?_
  rintro ⟨⟨A7,n11,c8⟩,⟨A9,n13,c10⟩⟩ ⟨hn12,hn14⟩
  replace hn12 : n11 = y5.1.length:=hn12; subst hn12
  replace hn14 : n13 = y5.2.length:=hn14; subst hn14
  refine ox_y rfl (y_move_tuple rfl) ?_
  refine ox_y rfl (y_extract (vs:=[.slice A7 y5.1.length c8,.slice A9 y5.2.length c10]) (v:=.slice A7 y5.1.length c8) rfl rfl) ?_
  refine ox_y rfl (y_extract (vs:=[.slice A7 y5.1.length c8,.slice A9 y5.2.length c10]) (v:=.slice A9 y5.2.length c10) rfl rfl) ?_
  refine ox_y rfl (y_assign_slice rfl) ?_
  refine ox_y rfl (y_assign_slice rfl) ?_
  refine ox_nil (ex_then (cx_seq (cx_region ?_)))
  refine ox_y rfl (y_move_slice rfl) ?_
  refine ox_y rfl (y_move_int rfl) ?_
  obtain ⟨y15,hy16,h⟩:=bind_some h
  refine ox_call [.slice A7 y5.1.length c8,.int .i64 p2_need] _ _ _ rfl go_79 rfl (fun W2 hW2 => fire_hot_ok y5.1 p2_need y15 hy16 W2 A7 y5.1.length c8 rfl ((RdL.row 1 rfl) W2 hW2)) ?_
  rintro ⟨A17,n19,c18⟩ hn20
  replace hn20 : n19 = y15.length:=hn20; subst hn20
  refine ox_y rfl (y_assign_slice rfl) ?_
  refine ox_y rfl (y_assign_int rfl) ?_
  refine ox_nil (ex_then (cx_ret ?_))
  obtain rfl:=Option.some.inj h
  exact ex_res2 (.inl rfl) rfl (resV_tmp (v:=.slice A17 y15.length c18) rfl) (resV_tmp (v:=.int .i64 0) rfl) (fun W2 hW2 => ⟨(A17,y15.length,c18),rfl,rfl,(hW2.pick 3 rfl)⟩)

theorem fire_Possibly_ok (p0_f:TFire) (p1_path:(List TSpot)) (p2_need:Int) (res:((List TSpan) × Int)) (h:fire_Possibly p0_f p1_path p2_need = some res) (W:World) (A0_4:Option Addr) (n0_4 c0_4 : Nat) (hn0_4:n0_4 = p0_f.fLooks.length) (hr0_4:Rd W A0_4 n0_4 c0_4 (encL TLook_cells p0_f.fLooks)) (A1_0:Option Addr) (n1_0 c1_0 : Nat) (hn1_0:n1_0 = p1_path.length) (hr1_0:Rd W A1_0 n1_0 c1_0 (encL TSpot_cells p1_path)) :
  Calls Tryz.prog 34 [.agg #[.int .i64 p0_f.fRise,.int .i64 p0_f.fFall,.int .i64 p0_f.fUp,.int .i64 p0_f.fDown,.slice A0_4 n0_4 c0_4],.slice A1_0 n1_0 c1_0,.int .i64 p2_need].toArray W fun e W2 => ∃ x : Option Addr × Nat × Nat,x.2.1 = res.1.length ∧ e = .returned (.tuple #[.slice x.1 x.2.1 x.2.2,.int .i64 res.2]) ∧ Ext W W2 [rowR x.1 x.2.2 28 2 x.2.1 (encL TSpan_cells res.1)]:=by
 subst hn0_4
 subst hn1_0
 unfold fire_Possibly at h
 refine calls_enter (m:=27) Tryz.func34 rfl rfl (Nat.le_of_ble_eq_true rfl) ?_
 refine cx_seq (cx_region ?_)
 refine ox_box [.int .i64 p0_f.fRise,.int .i64 p0_f.fFall,.int .i64 p0_f.fUp,.int .i64 p0_f.fDown,.slice A0_4 p0_f.fLooks.length c0_4] rfl rfl rfl (fun b1 => ?_)
 refine ox_y rfl (y_assign_slice rfl) ?_
 refine ox_y rfl (y_assign_int rfl) ?_
 refine ox_nil (ex_then (cx_seq (cx_seq (cx_region ?_))))
 refine ox_y rfl (y_loadN 0 [.int .i64 p0_f.fRise,.int .i64 p0_f.fFall,.int .i64 p0_f.fUp,.int .i64 p0_f.fDown,.slice A0_4 p0_f.fLooks.length c0_4] ag_24 rfl rfl rfl) ?_
 refine ox_y rfl (y_move_slice rfl) ?_
 refine ox_y rfl (y_move_int rfl) ?_
 obtain ⟨y2,hy3,h⟩:=bind_some h
 refine ox_y rfl (y_call [.agg #[.int .i64 p0_f.fRise,.int .i64 p0_f.fFall,.int .i64 p0_f.fUp,.int .i64 p0_f.fDown,.slice A0_4 p0_f.fLooks.length c0_4],.slice A1_0 p1_path.length c1_0,.int .i64 p2_need] go_76 rfl (fun W2 hW2 => fire_walked_ok p0_f p1_path p2_need y2 hy3 W2 A0_4 p0_f.fLooks.length c0_4 rfl ((RdL.arg hr0_4) W2 hW2) A1_0 p1_path.length c1_0 rfl ((RdL.arg hr1_0) W2 hW2)) rfl) ?_
 refine ox_y rfl (y_assign_int rfl) ?_
 refine ox_nil (ex_then (cx_seq (cx_region ?_)))
 refine ox_y rfl (y_move_int rfl) ?_
 refine ox_y rfl (y_neq rfl rfl) ?_
 refine ox_nil (ex_then ?_)
 rcases ite_some h with ⟨hp4,h⟩ | ⟨hp4,h⟩
 ·refine cx_true (congrArg Value.bool hp4) ?_
  refine cx_seq (cx_region ?_)
  refine ox_y rfl (y_move_int rfl) ?_
  refine ox_y rfl (y_assign_slice rfl) ?_
  refine ox_y rfl (y_assign_int rfl) ?_
  refine ox_nil (ex_then (cx_ret (ex_then_ret ?_)))
  obtain rfl:=Option.some.inj h
  exact ex_res2 (.inl rfl) rfl (resV_tmp (v:=.slice none 0 0) rfl) (resV_tmp (v:=.int .i64 y2) rfl) (fun W2 hW2 => ⟨(none,0,0),rfl,rfl,((hW2.nilrow 28 2).pick 1 rfl)⟩)
 ·refine cx_false (congrArg Value.bool hp4) ?_
  refine cx_skip (ex_then (cx_seq (cx_region ?_)))
  refine ox_y rfl (y_loadN 0 [.int .i64 p0_f.fRise,.int .i64 p0_f.fFall,.int .i64 p0_f.fUp,.int .i64 p0_f.fDown,.slice A0_4 p0_f.fLooks.length c0_4] ag_24 rfl rfl rfl) ?_
  refine ox_y rfl (y_move_slice rfl) ?_
  obtain ⟨y5,hy6,h⟩:=bind_some h
  refine ox_call [.agg #[.int .i64 p0_f.fRise,.int .i64 p0_f.fFall,.int .i64 p0_f.fUp,.int .i64 p0_f.fDown,.slice A0_4 p0_f.fLooks.length c0_4],.slice A1_0 p1_path.length c1_0] _ _ _ rfl go_77 rfl (fun W2 hW2 => fire_heats_ok p0_f p1_path y5 hy6 W2 A0_4 p0_f.fLooks.length c0_4 rfl ((RdL.arg hr0_4) W2 hW2) A1_0 p1_path.length c1_0 rfl ((RdL.arg hr1_0) W2 hW2)) ?_
  rintro ⟨⟨A7,n11,c8⟩,⟨A9,n13,c10⟩⟩ ⟨hn12,hn14⟩
  replace hn12 : n11 = y5.1.length:=hn12; subst hn12
  replace hn14 : n13 = y5.2.length:=hn14; subst hn14
  refine ox_y rfl (y_move_tuple rfl) ?_
  refine ox_y rfl (y_extract (vs:=[.slice A7 y5.1.length c8,.slice A9 y5.2.length c10]) (v:=.slice A7 y5.1.length c8) rfl rfl) ?_
  refine ox_y rfl (y_extract (vs:=[.slice A7 y5.1.length c8,.slice A9 y5.2.length c10]) (v:=.slice A9 y5.2.length c10) rfl rfl) ?_
  refine ox_y rfl (y_assign_slice rfl) ?_
  refine ox_y rfl (y_assign_slice rfl) ?_
  refine ox_nil (ex_then (cx_seq (cx_region ?_)))
  refine ox_y rfl (y_move_slice rfl) ?_
  refine ox_y rfl (y_move_int rfl) ?_
  obtain ⟨y15,hy16,h⟩:=bind_some h
  refine ox_call [.slice A9 y5.2.length c10,.int .i64 p2_need] _ _ _ rfl go_79 rfl (fun W2 hW2 => fire_hot_ok y5.2 p2_need y15 hy16 W2 A9 y5.2.length c10 rfl ((RdL.row 2 rfl) W2 hW2)) ?_
  rintro ⟨A17,n19,c18⟩ hn20
  replace hn20 : n19 = y15.length:=hn20; subst hn20
  refine ox_y rfl (y_assign_slice rfl) ?_
  refine ox_y rfl (y_assign_int rfl) ?_
  refine ox_nil (ex_then (cx_ret ?_))
  obtain rfl:=Option.some.inj h
  exact ex_res2 (.inl rfl) rfl (resV_tmp (v:=.slice A17 y15.length c18) rfl) (resV_tmp (v:=.int .i64 0) rfl) (fun W2 hW2 => ⟨(A17,y15.length,c18),rfl,rfl,(hW2.pick 3 rfl)⟩)

theorem fire_Suspects_1_ok (p0_id:Int) (cap0:TFire) (res:Bool) (h:fire_Suspects_1 p0_id cap0 = some res) (W:World) (bc0:Nat) (A100_4:Option Addr) (n100_4 c100_4 : Nat) (hn100_4:n100_4 = cap0.fLooks.length) (hr100_4:Rd W A100_4 n100_4 c100_4 (encL TLook_cells cap0.fLooks)) (hcap0:Rd W (some ⟨bc0,0,none⟩) 1 1 [.int .i64 cap0.fRise,.int .i64 cap0.fFall,.int .i64 cap0.fUp,.int .i64 cap0.fDown,.slice A100_4 n100_4 c100_4]) :
  Calls Tryz.prog 80 [.int .i64 p0_id,.pointer (some ⟨bc0,0,none⟩)].toArray W fun e W2 => e = .returned (.bool res) ∧ Ext W W2 []:=by
 subst hn100_4
 unfold fire_Suspects_1 at h
 refine calls_enter (m:=9) Tryz.func80 rfl rfl (Nat.le_of_ble_eq_true rfl) ?_
 refine cx_seq (cx_region ?_)
 refine ox_y rfl (y_assign_bool rfl) ?_
 refine ox_nil (ex_then (cx_seq (cx_region ?_)))
 refine ox_y rfl (y_loadRN (A:=(some ⟨bc0,0,none⟩)) (j:=0) [.int .i64 cap0.fRise,.int .i64 cap0.fFall,.int .i64 cap0.fUp,.int .i64 cap0.fDown,.slice A100_4 cap0.fLooks.length c100_4] ag_24 (Nat.succ_pos _) (RdL.arg hcap0) rfl (gets_all rfl)) ?_
 refine ox_y rfl (y_move_int rfl) ?_
 refine ox_buildSliceE 1 (encL cI [p0_id]) _ mc_3_1 us_39 ze_3 by_3 (by decide) (by decide) (by kernel_rfl) (encL_len cI_len rfl) rfl (fun b1 => ?_)
 obtain ⟨y2,hy3,h⟩:=bind_some h
 refine ox_call [.agg #[.int .i64 cap0.fRise,.int .i64 cap0.fFall,.int .i64 cap0.fUp,.int .i64 cap0.fDown,.slice A100_4 cap0.fLooks.length c100_4],.slice (some ⟨b1,0,none⟩) 1 1] _ _ _ rfl go_44 rfl (fun W2 hW2 => fire_without_ok cap0 [p0_id] y2 hy3 W2 A100_4 cap0.fLooks.length c100_4 rfl ((RdL.arg hr100_4) W2 hW2) (some ⟨b1,0,none⟩) 1 1 rfl ((RdL.row 0 rfl) W2 hW2)) ?_
 rintro ⟨A4,n6,c5⟩ hn7
 replace hn7 : n6 = y2.fLooks.length:=hn7; subst hn7
 obtain ⟨y8,hy9,h⟩:=bind_some h
 refine ox_y rfl (y_call [.agg #[.int .i64 y2.fRise,.int .i64 y2.fFall,.int .i64 y2.fUp,.int .i64 y2.fDown,.slice A4 y2.fLooks.length c5]] go_70 rfl (fun W2 hW2 => fire_agree_ok y2 y8 hy9 W2 A4 y2.fLooks.length c5 rfl ((RdL.row 1 rfl) W2 hW2)) rfl) ?_
 refine ox_y rfl (y_assign_bool rfl) ?_
 refine ox_nil (ex_then (cx_ret ?_))
 obtain rfl:=Option.some.inj h
 exact ex_res1 (.inl rfl) rfl (resV_tmp (v:=.bool y8) rfl) (fun W2 hW2 => ⟨rfl,hW2.none⟩)

theorem fire_Suspects_ok (p0_f:TFire) (res:((List Int) × Int)) (h:fire_Suspects p0_f = some res) (W:World) (A0_4:Option Addr) (n0_4 c0_4 : Nat) (hn0_4:n0_4 = p0_f.fLooks.length) (hr0_4:Rd W A0_4 n0_4 c0_4 (encL TLook_cells p0_f.fLooks)) :
  Calls Tryz.prog 35 [.agg #[.int .i64 p0_f.fRise,.int .i64 p0_f.fFall,.int .i64 p0_f.fUp,.int .i64 p0_f.fDown,.slice A0_4 n0_4 c0_4]].toArray W fun e W2 => ∃ x : Option Addr × Nat × Nat,x.2.1 = res.1.length ∧ e = .returned (.tuple #[.slice x.1 x.2.1 x.2.2,.int .i64 res.2]) ∧ Ext W W2 [rowR x.1 x.2.2 3 1 x.2.1 (encL cI res.1)]:=by
 subst hn0_4
 unfold fire_Suspects at h
 refine calls_enter (m:=17) Tryz.func35 rfl rfl (Nat.le_of_ble_eq_true rfl) ?_
 refine cx_seq (cx_region ?_)
 refine ox_box [.int .i64 p0_f.fRise,.int .i64 p0_f.fFall,.int .i64 p0_f.fUp,.int .i64 p0_f.fDown,.slice A0_4 p0_f.fLooks.length c0_4] rfl rfl rfl (fun b1 => ?_)
 refine ox_y rfl (y_assign_slice rfl) ?_
 refine ox_y rfl (y_assign_int rfl) ?_
 refine ox_nil (ex_then (cx_seq (cx_seq (cx_region ?_))))
 refine ox_y rfl (y_loadN 0 [.int .i64 p0_f.fRise,.int .i64 p0_f.fFall,.int .i64 p0_f.fUp,.int .i64 p0_f.fDown,.slice A0_4 p0_f.fLooks.length c0_4] ag_24 rfl rfl rfl) ?_
 obtain ⟨y2,hy3,h⟩:=bind_some h
 refine ox_y rfl (y_call [.agg #[.int .i64 p0_f.fRise,.int .i64 p0_f.fFall,.int .i64 p0_f.fUp,.int .i64 p0_f.fDown,.slice A0_4 p0_f.fLooks.length c0_4]] go_54 rfl (fun W2 hW2 => fire_Check_ok p0_f y2 hy3 W2 A0_4 p0_f.fLooks.length c0_4 rfl ((RdL.arg hr0_4) W2 hW2)) rfl) ?_
 refine ox_y rfl (y_assign_int rfl) ?_
 refine ox_nil (ex_then (cx_seq (cx_region ?_)))
 refine ox_y rfl (y_move_int rfl) ?_
 refine ox_y rfl (y_neq rfl rfl) ?_
 refine ox_y rfl (y_move_bool rfl) ?_
 obtain ⟨b5,hb6,h⟩:=bind_some h
 refine ox_join 3 (fun tm0 => (upd (upd (upd (upd (upd tm0 1 (.pointer (some ⟨b1,0,none⟩))) 2 (.slice none 0 0)) 3 (.int .i64 0)) 4 (.int .i64 y2)) 12 (.bool b5))) (fun tm0 => ?_) (fun key => ?_)
 ·refine ox_nil (ex_then ?_)
  rcases ite_some h with ⟨hp7,h⟩ | ⟨hp7,h⟩
  ·refine cx_true (congrArg Value.bool hp7) ?_
   refine cx_seq (cx_region ?_)
   refine ox_y rfl (y_move_int rfl) ?_
   refine ox_y rfl (y_assign_slice rfl) ?_
   refine ox_y rfl (y_assign_int rfl) ?_
   refine ox_nil (ex_then (cx_ret (ex_then_ret ?_)))
   obtain rfl:=Option.some.inj h
   exact ex_res2 (.inl rfl) rfl (resV_tmp (v:=.slice none 0 0) rfl) (resV_tmp (v:=.int .i64 y2) rfl) (fun W2 hW2 => ⟨(none,0,0),rfl,rfl,((hW2.nilrow 3 1).pick 1 rfl)⟩)
  ·refine cx_false (congrArg Value.bool hp7) ?_
   refine cx_skip (ex_then (cx_seq (cx_region ?_)))
   refine ox_y rfl (y_loadN 0 [.int .i64 p0_f.fRise,.int .i64 p0_f.fFall,.int .i64 p0_f.fUp,.int .i64 p0_f.fDown,.slice A0_4 p0_f.fLooks.length c0_4] ag_24 rfl rfl rfl) ?_
   refine ox_y rfl (y_makeFunc [.pointer (some ⟨b1,0,none⟩)] rfl rfl) ?_
   obtain ⟨y9,hy10,h⟩:=bind_some h
   refine ox_call [.agg #[.int .i64 p0_f.fRise,.int .i64 p0_f.fFall,.int .i64 p0_f.fUp,.int .i64 p0_f.fDown,.slice A0_4 p0_f.fLooks.length c0_4],.func (.func 80) #[] #[.pointer (some ⟨b1,0,none⟩)]] _ _ _ rfl go_42 rfl (fun W2 hW2 => fire_named_ok p0_f (fun x8 => fire_Suspects_1 x8 p0_f) y9 hy10 W2 A0_4 p0_f.fLooks.length c0_4 rfl ((RdL.arg hr0_4) W2 hW2) 80 [.pointer (some ⟨b1,0,none⟩)] go_80 (fun W3 hb x y hxy => fire_Suspects_1_ok x p0_f y hxy W3 b1 A0_4 p0_f.fLooks.length c0_4 rfl (((RdL.arg hr0_4) W2 hW2).later hb) (((RdL.cells 0 rfl) W2 hW2).later hb))) ?_
   rintro ⟨A11,n13,c12⟩ hn14
   replace hn14 : n13 = y9.length:=hn14; subst hn14
   refine ox_y rfl (y_assign_slice rfl) ?_
   refine ox_y rfl (y_assign_int rfl) ?_
   refine ox_nil (ex_then (cx_ret ?_))
   obtain rfl:=Option.some.inj h
   exact ex_res2 (.inl rfl) rfl (resV_tmp (v:=.slice A11 y9.length c12) rfl) (resV_tmp (v:=.int .i64 0) rfl) (fun W2 hW2 => ⟨(A11,y9.length,c12),rfl,rfl,(hW2.pick 1 rfl)⟩)
 ·clear h; rcases ite_some hb6 with ⟨hp4,h⟩ | ⟨hp4,h⟩
  ·refine ox_skip (sees_f rfl rfl rfl rfl hp4) ?_
   refine ox_skip (sees_f rfl rfl rfl rfl hp4) ?_
   refine ox_y rfl (y_pick_tb (congrArg Value.bool hp4) rfl) ?_
   obtain rfl:=Option.some.inj h
   exact key _ _ (keep (keep (keep (keep (keep rfl rfl) rfl) rfl) rfl) rfl)
  ·refine ox_y (sees_t rfl rfl rfl rfl hp4) (y_loadN 0 [.int .i64 p0_f.fRise,.int .i64 p0_f.fFall,.int .i64 p0_f.fUp,.int .i64 p0_f.fDown,.slice A0_4 p0_f.fLooks.length c0_4] ag_24 rfl rfl rfl) ?_
   obtain ⟨y15,hy16,h⟩:=bind_some h
   refine ox_y (sees_t rfl rfl rfl rfl hp4) (y_call [.agg #[.int .i64 p0_f.fRise,.int .i64 p0_f.fFall,.int .i64 p0_f.fUp,.int .i64 p0_f.fDown,.slice A0_4 p0_f.fLooks.length c0_4]] go_70 rfl (fun W2 hW2 => fire_agree_ok p0_f y15 hy16 W2 A0_4 p0_f.fLooks.length c0_4 rfl ((RdL.arg hr0_4) W2 hW2)) rfl) ?_
   refine ox_y rfl (y_pick_fb (congrArg Value.bool hp4) rfl) ?_
   obtain rfl:=Option.some.inj h
   exact key _ _ (keep (keep (keep (keep (keep rfl rfl) rfl) rfl) rfl) rfl)

theorem ref02_SameSpans_ok (p0_a:(List TSpan)) (p1_b:(List TSpan)) (res:Bool) (h:ref02_SameSpans p0_a p1_b = some res) (W:World) (A0_0:Option Addr) (n0_0 c0_0 : Nat) (hn0_0:n0_0 = p0_a.length) (hr0_0:Rd W A0_0 n0_0 c0_0 (encL TSpan_cells p0_a)) (A1_0:Option Addr) (n1_0 c1_0 : Nat) (hn1_0:n1_0 = p1_b.length) (hr1_0:Rd W A1_0 n1_0 c1_0 (encL TSpan_cells p1_b)) :
  Calls Tryz.prog 36 [.slice A0_0 n0_0 c0_0,.slice A1_0 n1_0 c1_0].toArray W fun e W2 => e = .returned (.bool res) ∧ Ext W W2 []:=by
 subst hn0_0
 subst hn1_0
 unfold ref02_SameSpans at h
 refine calls_enter (m:=26) Tryz.func36 rfl rfl (Nat.le_of_ble_eq_true rfl) ?_
 refine cx_seq (cx_region ?_)
 refine ox_y rfl (y_assign_bool rfl) ?_
 refine ox_nil (ex_then (cx_seq (cx_seq (cx_region ?_))))
 refine ox_y rfl (y_move_slice rfl) ?_
 refine ox_y rfl (y_len (us:=[]) us_77 rfl) ?_
 refine ox_y rfl (y_move_slice rfl) ?_
 refine ox_y rfl (y_len (us:=[]) us_77 rfl) ?_
 refine ox_y rfl (y_neq rfl rfl) ?_
 refine ox_nil (ex_then ?_)
 rcases ite_some h with ⟨hp1,h⟩ | ⟨hp1,h⟩
 ·refine cx_true (congrArg Value.bool hp1) ?_
  refine cx_seq (cx_region ?_)
  refine ox_y rfl (y_assign_bool rfl) ?_
  refine ox_nil (ex_then (cx_ret (ex_then_ret ?_)))
  obtain rfl:=Option.some.inj h
  exact ex_res1 (.inl rfl) rfl (resV_tmp (v:=.bool false) rfl) (fun W2 hW2 => ⟨rfl,hW2.none⟩)
 ·refine cx_false (congrArg Value.bool hp1) ?_
  refine cx_skip (ex_then (cx_seq (cx_seq (cx_region ?_))))
  refine ox_y rfl (y_assign_int rfl) ?_
  refine ox_nil (ex_then (cx_block ?_))
  obtain ⟨u4,hl9,h⟩:=bind_some h
  refine cx_loop (fun (s:(Bool × Int)) L tm => ∃ (tm0:Nat → Value),L = [] ∧ tm = (upd (upd (upd (upd (upd tm0 0 (.slice A0_0 p0_a.length c0_0)) 1 (.slice A1_0 p1_b.length c1_0)) 4 (.bool s.1)) 10 (.bool ((p0_a.length:Int) != (p1_b.length:Int)))) 5 (.int .i64 s.2))) (fun | (.inl s),e,L,tm => e = .ret ∧ ∃ (tm0:Nat → Value),L = [] ∧ tm = (upd (upd (upd (upd (upd tm0 0 (.slice A0_0 p0_a.length c0_0)) 1 (.slice A1_0 p1_b.length c1_0)) 4 (.bool s.1)) 10 (.bool ((p0_a.length:Int) != (p1_b.length:Int)))) 5 (.int .i64 s.2)) | (.inr s),e,L,tm => e = .exit 0 ∧ ∃ (tm0:Nat → Value),L = [] ∧ tm = (upd (upd (upd (upd (upd tm0 0 (.slice A0_0 p0_a.length c0_0)) 1 (.slice A1_0 p1_b.length c1_0)) 4 (.bool s.1)) 10 (.bool ((p0_a.length:Int) != (p1_b.length:Int)))) 5 (.int .i64 s.2))) hl9 ⟨_,rfl,(keep (keep (keep (keep (keep rfl rfl) rfl) rfl) rfl) rfl)⟩ ?_ ?_
  ·rintro s3 L tm st ⟨tm0_s3,rfl,rfl⟩ h
   unfold ref02_SameSpans_l1 at h
   refine cx_seq (cx_seq (cx_region ?_))
   refine ox_y rfl (y_move_int rfl) ?_
   refine ox_y rfl (y_move_slice rfl) ?_
   refine ox_y rfl (y_len (us:=[]) us_77 rfl) ?_
   refine ox_y rfl (y_lss rfl rfl) ?_
   refine ox_nil (ex_then ?_)
   rcases ite_some h with ⟨hp5,h⟩ | ⟨hp5,h⟩
   ·refine cx_true (congrArg Value.bool hp5) ?_
    refine cx_skip (ex_then (cx_seq (cx_block (cx_seq ?_))))
    refine cx_draws 9 mixed (by kernel_rfl) (by kernel_rfl) ?_
    refine qx_y rfl (y_move_slice rfl) ?_
    refine qx_y rfl (y_move_int rfl) ?_
    obtain ⟨hg6,h⟩:=guardO_some h
    refine qx_y rfl (y_indexR sl_77 (by decide) hg6.1 hg6.2 (RdL.arg hr0_0) (encL_len TSpan_cells_len rfl) rfl rfl) ?_
    refine qx_y rfl (y_loadRN (A:=A0_0) (j:=(Int.toNat s3.2 * 2)) [.int .i64 ((rdL p0_a s3.2).fLo),.int .i64 ((rdL p0_a s3.2).fHi)] ag_28 (Nat.succ_pos _) (RdL.arg hr0_0) rfl (encL_gets TSpan_cells_len hg6.1 (lt_nat hg6.2 rfl))) ?_
    refine qx_y rfl (y_move_slice rfl) ?_
    refine qx_y rfl (y_move_int rfl) ?_
    obtain ⟨hg7,h⟩:=guardO_some h
    refine qx_y rfl (y_indexR sl_77 (by decide) hg7.1 hg7.2 (RdL.arg hr1_0) (encL_len TSpan_cells_len rfl) rfl rfl) ?_
    refine qx_y rfl (y_loadRN (A:=A1_0) (j:=(Int.toNat s3.2 * 2)) [.int .i64 ((rdL p1_b s3.2).fLo),.int .i64 ((rdL p1_b s3.2).fHi)] ag_28 (Nat.succ_pos _) (RdL.arg hr1_0) rfl (encL_gets TSpan_cells_len hg7.1 (lt_nat hg7.2 rfl))) ?_
    refine qx_y rfl (y_neqa (b:=(((rdL p0_a s3.2).fLo == (rdL p1_b s3.2).fLo) && ((rdL p0_a s3.2).fHi == (rdL p1_b s3.2).fHi))) eg_28 rfl rfl (fun _ => (eqS2 fl_28 (part1 sc_3 rfl) (part1 sc_3 rfl) (part1 sc_3 rfl) (part1 sc_3 rfl) (run_equalIn_int _ _ _ _ _ _ _ ui_3) (run_equalIn_int _ _ _ _ _ _ _ ui_3)))) ?_
    refine qx_nil ?_
    refine ox_nil (ex_then ?_)
    rcases ite_some h with ⟨hp8,h⟩ | ⟨hp8,h⟩
    ·refine cx_true (congrArg Value.bool hp8) ?_
     refine cx_seq (cx_region ?_)
     refine ox_y rfl (y_assign_bool rfl) ?_
     refine ox_nil (ex_then (cx_ret (ex_block_ret (ex_then_ret ?_))))
     obtain rfl:=Option.some.inj h
     exact ex_stop ⟨rfl,_,rfl,(keep (keep (keep (keep (keep rfl rfl) rfl) rfl) rfl) rfl)⟩
    ·refine cx_false (congrArg Value.bool hp8) ?_
     refine cx_skip ?_
     refine ex_block ?_
     refine ex_then (cx_region ?_)
     refine ox_y rfl (y_move_int rfl) ?_
     refine ox_y rfl (y_add rfl rfl) ?_
     refine ox_y rfl (y_assign_int rfl) ?_
     refine ox_nil ?_
     obtain rfl:=Option.some.inj h
     exact ex_next ⟨_,rfl,(keep (keep (keep (keep (keep rfl rfl) rfl) rfl) rfl) rfl)⟩
   ·refine cx_false (congrArg Value.bool hp5) ?_
    refine cx_exit ?_
    refine ex_then_exit ?_
    obtain rfl:=Option.some.inj h
    exact ex_stop ⟨rfl,_,rfl,(keep (keep (keep (keep (keep rfl rfl) rfl) rfl) rfl) rfl)⟩
  ·intro e L tm hJ
   rcases u4 with u10 | u11
   ·dsimp only at h hJ
    obtain ⟨rfl,tm0_u10,rfl,rfl⟩:=hJ
    refine ⟨(by intro hc; cases hc),?_⟩
    refine ex_block_ret (ex_then_ret ?_)
    obtain rfl:=Option.some.inj h
    exact ex_res1 (.inl rfl) rfl (resV_tmp (v:=.bool u10.1) rfl) (fun W2 hW2 => ⟨rfl,hW2.none⟩)
   ·dsimp only at h hJ
    obtain ⟨rfl,tm0_u11,rfl,rfl⟩:=hJ
    refine ⟨(by intro hc; cases hc),?_⟩
    refine ex_block_here ?_
    refine ex_then (cx_seq (cx_region ?_))
    refine ox_y rfl (y_assign_bool rfl) ?_
    refine ox_nil (ex_then (cx_ret ?_))
    obtain rfl:=Option.some.inj h
    exact ex_res1 (.inl rfl) rfl (resV_tmp (v:=.bool true) rfl) (fun W2 hW2 => ⟨rfl,hW2.none⟩)

end Go.Proofs.YtndajeiecdmhnaaGreat
