/- The calls hand back what the plain functions say. -/
import Derived.Test.YtndajeiecdmhnaaGreatF
import Derived.Test.YtndajeiecdmhnaaGreatC0
import Derived.Test.YtndajeiecdmhnaaGreatC3
import Derived.Test.YtndajeiecdmhnaaGreatC5
import Derived.Test.YtndajeiecdmhnaaGreatC8
import Derived.Test.YtndajeiecdmhnaaGreatC11
set_option linter.unusedVariables false
set_option maxHeartbeats 4000000
set_option maxRecDepth 100000
namespace Go.Proofs.YtndajeiecdmhnaaGreat
open Go.RowKit (Below)
attribute [local irreducible] OX QX CX EX OpY Calls CallsIn

theorem calxlaw02_FireLooks_ok (p0:TFire) (p1:TLook) (p2:TSpot) (p3:Int) (p4:TSpot) (p5:(List TSpot)) (res:Bool) (h:calxlaw02_FireLooks p0 p1 p2 p3 p4 p5 = some res) (W:World) (A0_4:Option Addr) (n0_4 c0_4 : Nat) (hn0_4:n0_4 = p0.fLooks.length) (hr0_4:Rd W A0_4 n0_4 c0_4 (encL TLook_cells p0.fLooks)) (A5_0:Option Addr) (n5_0 c5_0 : Nat) (hn5_0:n5_0 = p5.length) (hr5_0:Rd W A5_0 n5_0 c5_0 (encL TSpot_cells p5)) :
  Calls Tryz.prog 4 [.agg #[.int .i64 p0.fRise,.int .i64 p0.fFall,.int .i64 p0.fUp,.int .i64 p0.fDown,.slice A0_4 n0_4 c0_4],.agg #[.int .i64 p1.fID,.int .i64 p1.fAt.fFoot,.int .i64 p1.fAt.fHour,.int .i64 p1.fHeat.fLo,.int .i64 p1.fHeat.fHi],.agg #[.int .i64 p2.fFoot,.int .i64 p2.fHour],.int .i64 p3,.agg #[.int .i64 p4.fFoot,.int .i64 p4.fHour],.slice A5_0 n5_0 c5_0].toArray W fun e W2 => e = .returned (.bool res) ∧ Ext W W2 []:=by
 subst hn0_4
 subst hn5_0
 unfold calxlaw02_FireLooks at h
 refine calls_enter (m:=113) Tryz.func4 rfl rfl (Nat.le_of_ble_eq_true rfl) ?_
 refine cx_seq (cx_region ?_)
 refine ox_box [.int .i64 p0.fRise,.int .i64 p0.fFall,.int .i64 p0.fUp,.int .i64 p0.fDown,.slice A0_4 p0.fLooks.length c0_4] rfl rfl rfl (fun b1 => ?_)
 refine ox_box [.int .i64 p1.fID,.int .i64 p1.fAt.fFoot,.int .i64 p1.fAt.fHour,.int .i64 p1.fHeat.fLo,.int .i64 p1.fHeat.fHi] rfl rfl rfl (fun b2 => ?_)
 refine ox_box [.int .i64 p2.fFoot,.int .i64 p2.fHour] rfl rfl rfl (fun b3 => ?_)
 refine ox_box [.int .i64 p4.fFoot,.int .i64 p4.fHour] rfl rfl rfl (fun b4 => ?_)
 refine ox_y rfl (y_assign_bool rfl) ?_
 refine ox_nil (ex_then (cx_seq (cx_seq (cx_region ?_))))
 refine ox_y rfl (y_loadN 0 [.int .i64 p0.fRise,.int .i64 p0.fFall,.int .i64 p0.fUp,.int .i64 p0.fDown,.slice A0_4 p0.fLooks.length c0_4] ag_24 rfl rfl rfl) ?_
 obtain ⟨y5,hy6,h⟩:=bind_some h
 refine ox_y rfl (y_call [.agg #[.int .i64 p0.fRise,.int .i64 p0.fFall,.int .i64 p0.fUp,.int .i64 p0.fDown,.slice A0_4 p0.fLooks.length c0_4]] go_6 rfl (fun W2 hW2 => calxlaw02_few_ok p0 y5 hy6 W2 A0_4 p0.fLooks.length c0_4 rfl ((RdL.arg hr0_4) W2 hW2)) rfl) ?_
 refine ox_y rfl (y_not rfl) ?_
 refine ox_y rfl (y_move_bool rfl) ?_
 obtain ⟨b8,hb9,h⟩:=bind_some h
 refine ox_join 4 (fun tm0 => (upd (upd (upd (upd (upd (upd (upd (upd tm0 3 (.int .i64 p3)) 5 (.slice A5_0 p5.length c5_0)) 6 (.pointer (some ⟨b1,0,none⟩))) 7 (.pointer (some ⟨b2,0,none⟩))) 8 (.pointer (some ⟨b3,0,none⟩))) 10 (.pointer (some ⟨b4,0,none⟩))) 12 (.bool false)) 30 (.bool b8))) (fun tm0 => ?_) (fun key => ?_)
 ·refine ox_nil (ex_then ?_)
  rcases ite_some h with ⟨hp10,h⟩ | ⟨hp10,h⟩
  ·refine cx_true (congrArg Value.bool hp10) ?_
   refine cx_seq (cx_region ?_)
   obtain ⟨y11,hy12,h⟩:=bind_some h
   refine ox_y rfl (y_call [] go_7 rfl (fun W2 hW2 => calxlaw02_sanity_ok  y11 hy12 W2 ) rfl) ?_
   refine ox_y rfl (y_assign_bool rfl) ?_
   refine ox_nil (ex_then (cx_ret (ex_then_ret ?_)))
   obtain rfl:=Option.some.inj h
   exact ex_res1 (.inl rfl) rfl (resV_tmp (v:=.bool y11) rfl) (fun W2 hW2 => ⟨rfl,hW2.none⟩)
  ·refine cx_false (congrArg Value.bool hp10) ?_
   refine cx_skip (ex_then (cx_seq (cx_region ?_)))
   refine ox_y rfl (y_loadN 0 [.int .i64 p0.fRise,.int .i64 p0.fFall,.int .i64 p0.fUp,.int .i64 p0.fDown,.slice A0_4 p0.fLooks.length c0_4] ag_24 rfl rfl rfl) ?_
   refine ox_y rfl (y_loadN 1 [.int .i64 p1.fID,.int .i64 p1.fAt.fFoot,.int .i64 p1.fAt.fHour,.int .i64 p1.fHeat.fLo,.int .i64 p1.fHeat.fHi] ag_49 rfl rfl rfl) ?_
   refine ox_y rfl (y_loadN 2 [.int .i64 p2.fFoot,.int .i64 p2.fHour] ag_26 rfl rfl rfl) ?_
   obtain ⟨y13,hy14,h⟩:=bind_some h
   refine ox_y rfl (y_call [.agg #[.int .i64 p0.fRise,.int .i64 p0.fFall,.int .i64 p0.fUp,.int .i64 p0.fDown,.slice A0_4 p0.fLooks.length c0_4],.agg #[.int .i64 p1.fID,.int .i64 p1.fAt.fFoot,.int .i64 p1.fAt.fHour,.int .i64 p1.fHeat.fLo,.int .i64 p1.fHeat.fHi],.agg #[.int .i64 p2.fFoot,.int .i64 p2.fHour]] go_16 rfl (fun W2 hW2 => fire_Would_ok p0 p1 p2 y13 hy14 W2 A0_4 p0.fLooks.length c0_4 rfl ((RdL.arg hr0_4) W2 hW2)) rfl) ?_
   refine ox_y rfl (y_move_tuple rfl) ?_
   refine ox_y rfl (y_extract (vs:=[.agg #[.int .i64 y13.1.fSpan.fLo,.int .i64 y13.1.fSpan.fHi,.int .i64 y13.1.fLow,.int .i64 y13.1.fHigh],.int .i64 y13.2]) (v:=.agg #[.int .i64 y13.1.fSpan.fLo,.int .i64 y13.1.fSpan.fHi,.int .i64 y13.1.fLow,.int .i64 y13.1.fHigh]) rfl rfl) ?_
   refine ox_y rfl (y_extract (vs:=[.agg #[.int .i64 y13.1.fSpan.fLo,.int .i64 y13.1.fSpan.fHi,.int .i64 y13.1.fLow,.int .i64 y13.1.fHigh],.int .i64 y13.2]) (v:=.int .i64 y13.2) rfl rfl) ?_
   refine ox_alloc ze_30 rfl (fun b15 => ?_)
   refine ox_n rfl (y_storeN 4 [.int .i64 y13.1.fSpan.fLo,.int .i64 y13.1.fSpan.fHi,.int .i64 y13.1.fLow,.int .i64 y13.1.fHigh] sz_30 rfl (Nat.le_of_ble_eq_true rfl) rfl rfl rfl) ?_
   refine ox_y rfl (y_assign_int rfl) ?_
   refine ox_nil (ex_then (cx_seq (cx_region ?_)))
   refine ox_y rfl (y_loadN 0 [.int .i64 p0.fRise,.int .i64 p0.fFall,.int .i64 p0.fUp,.int .i64 p0.fDown,.slice A0_4 p0.fLooks.length c0_4] ag_24 rfl rfl rfl) ?_
   refine ox_y rfl (y_loadN 1 [.int .i64 p1.fID,.int .i64 p1.fAt.fFoot,.int .i64 p1.fAt.fHour,.int .i64 p1.fHeat.fLo,.int .i64 p1.fHeat.fHi] ag_49 rfl rfl rfl) ?_
   refine ox_y rfl (y_loadN 2 [.int .i64 p2.fFoot,.int .i64 p2.fHour] ag_26 rfl rfl rfl) ?_
   obtain ⟨y16,hy17,h⟩:=bind_some h
   refine ox_y rfl (y_call [.agg #[.int .i64 p0.fRise,.int .i64 p0.fFall,.int .i64 p0.fUp,.int .i64 p0.fDown,.slice A0_4 p0.fLooks.length c0_4],.agg #[.int .i64 p1.fID,.int .i64 p1.fAt.fFoot,.int .i64 p1.fAt.fHour,.int .i64 p1.fHeat.fLo,.int .i64 p1.fHeat.fHi],.agg #[.int .i64 p2.fFoot,.int .i64 p2.fHour]] go_17 rfl (fun W2 hW2 => ref02_Would_ok p0 p1 p2 y16 hy17 W2 A0_4 p0.fLooks.length c0_4 rfl ((RdL.arg hr0_4) W2 hW2)) rfl) ?_
   refine ox_alloc ze_37 rfl (fun b18 => ?_)
   try dsimp only [lna,lca,lsz,lss]
   refine ox_n rfl (y_storeN 5 [.int .i64 y16.fB.fSpan.fLo,.int .i64 y16.fB.fSpan.fHi,.int .i64 y16.fB.fLow,.int .i64 y16.fB.fHigh,.int .i64 y16.fE] sz_37 rfl (Nat.le_of_ble_eq_true rfl) rfl rfl rfl) ?_
   refine ox_nil (ex_then (cx_seq (cx_region ?_)))
   refine ox_y rfl (y_loadN 0 [.int .i64 p0.fRise,.int .i64 p0.fFall,.int .i64 p0.fUp,.int .i64 p0.fDown,.slice A0_4 p0.fLooks.length c0_4] ag_24 rfl rfl rfl) ?_
   refine ox_y rfl (y_loadN 3 [.int .i64 p4.fFoot,.int .i64 p4.fHour] ag_26 rfl rfl rfl) ?_
   refine ox_y rfl (y_loadN 2 [.int .i64 p2.fFoot,.int .i64 p2.fHour] ag_26 rfl rfl rfl) ?_
   refine ox_y rfl (y_move_int rfl) ?_
   obtain ⟨y19,hy20,h⟩:=bind_some h
   refine ox_y rfl (y_call [.agg #[.int .i64 p0.fRise,.int .i64 p0.fFall,.int .i64 p0.fUp,.int .i64 p0.fDown,.slice A0_4 p0.fLooks.length c0_4],.agg #[.int .i64 p4.fFoot,.int .i64 p4.fHour],.agg #[.int .i64 p2.fFoot,.int .i64 p2.fHour],.int .i64 p3] go_18 rfl (fun W2 hW2 => fire_Needed_ok p0 p4 p2 p3 y19 hy20 W2 A0_4 p0.fLooks.length c0_4 rfl ((RdL.arg hr0_4) W2 hW2)) rfl) ?_
   refine ox_y rfl (y_move_tuple rfl) ?_
   refine ox_y rfl (y_extract (vs:=[.int .i64 y19.1,.bool y19.2.1,.int .i64 y19.2.2]) (v:=.int .i64 y19.1) rfl rfl) ?_
   refine ox_y rfl (y_extract (vs:=[.int .i64 y19.1,.bool y19.2.1,.int .i64 y19.2.2]) (v:=.bool y19.2.1) rfl rfl) ?_
   refine ox_y rfl (y_extract (vs:=[.int .i64 y19.1,.bool y19.2.1,.int .i64 y19.2.2]) (v:=.int .i64 y19.2.2) rfl rfl) ?_
   refine ox_y rfl (y_assign_int rfl) ?_
   refine ox_y rfl (y_assign_bool rfl) ?_
   refine ox_y rfl (y_assign_int rfl) ?_
   refine ox_nil (ex_then (cx_seq (cx_region ?_)))
   refine ox_y rfl (y_loadN 0 [.int .i64 p0.fRise,.int .i64 p0.fFall,.int .i64 p0.fUp,.int .i64 p0.fDown,.slice A0_4 p0.fLooks.length c0_4] ag_24 rfl rfl rfl) ?_
   refine ox_y rfl (y_loadN 3 [.int .i64 p4.fFoot,.int .i64 p4.fHour] ag_26 rfl rfl rfl) ?_
   refine ox_y rfl (y_loadN 2 [.int .i64 p2.fFoot,.int .i64 p2.fHour] ag_26 rfl rfl rfl) ?_
   refine ox_y rfl (y_move_int rfl) ?_
   obtain ⟨y21,hy22,h⟩:=bind_some h
   refine ox_y rfl (y_call [.agg #[.int .i64 p0.fRise,.int .i64 p0.fFall,.int .i64 p0.fUp,.int .i64 p0.fDown,.slice A0_4 p0.fLooks.length c0_4],.agg #[.int .i64 p4.fFoot,.int .i64 p4.fHour],.agg #[.int .i64 p2.fFoot,.int .i64 p2.fHour],.int .i64 p3] go_19 rfl (fun W2 hW2 => ref02_Needed_ok p0 p4 p2 p3 y21 hy22 W2 A0_4 p0.fLooks.length c0_4 rfl ((RdL.arg hr0_4) W2 hW2)) rfl) ?_
   refine ox_alloc ze_57 rfl (fun b23 => ?_)
   try dsimp only [lna,lca,lsz,lss]
   refine ox_n rfl (y_storeN 6 [.int .i64 y21.fN,.bool y21.fIs,.int .i64 y21.fE] sz_57 rfl (Nat.le_of_ble_eq_true rfl) rfl rfl rfl) ?_
   refine ox_nil (ex_then (cx_seq (cx_region ?_)))
   refine ox_y rfl (y_loadN 0 [.int .i64 p0.fRise,.int .i64 p0.fFall,.int .i64 p0.fUp,.int .i64 p0.fDown,.slice A0_4 p0.fLooks.length c0_4] ag_24 rfl rfl rfl) ?_
   refine ox_y rfl (y_move_slice rfl) ?_
   refine ox_y rfl (y_loadN 2 [.int .i64 p2.fFoot,.int .i64 p2.fHour] ag_26 rfl rfl rfl) ?_
   refine ox_y rfl (y_move_int rfl) ?_
   obtain ⟨y24,hy25,h⟩:=bind_some h
   refine ox_call [.agg #[.int .i64 p0.fRise,.int .i64 p0.fFall,.int .i64 p0.fUp,.int .i64 p0.fDown,.slice A0_4 p0.fLooks.length c0_4],.slice A5_0 p5.length c5_0,.agg #[.int .i64 p2.fFoot,.int .i64 p2.fHour],.int .i64 p3] _ _ _ rfl go_20 rfl (fun W2 hW2 => fire_Decides_ok p0 p5 p2 p3 y24 hy25 W2 A0_4 p0.fLooks.length c0_4 rfl ((RdL.arg hr0_4) W2 hW2) A5_0 p5.length c5_0 rfl ((RdL.arg hr5_0) W2 hW2)) ?_
   rintro ⟨A26,n28,c27⟩ hn29
   replace hn29 : n28 = y24.1.length:=hn29; subst hn29
   try dsimp only [lna,lca,lsz,lss]
   refine ox_y rfl (y_move_tuple rfl) ?_
   refine ox_y rfl (y_extract (vs:=[.slice A26 y24.1.length c27,.int .i64 y24.2]) (v:=.slice A26 y24.1.length c27) rfl rfl) ?_
   refine ox_y rfl (y_extract (vs:=[.slice A26 y24.1.length c27,.int .i64 y24.2]) (v:=.int .i64 y24.2) rfl rfl) ?_
   refine ox_y rfl (y_assign_slice rfl) ?_
   refine ox_y rfl (y_assign_int rfl) ?_
   refine ox_nil (ex_then (cx_seq (cx_region ?_)))
   refine ox_y rfl (y_loadN 0 [.int .i64 p0.fRise,.int .i64 p0.fFall,.int .i64 p0.fUp,.int .i64 p0.fDown,.slice A0_4 p0.fLooks.length c0_4] ag_24 rfl rfl rfl) ?_
   refine ox_y rfl (y_move_slice rfl) ?_
   refine ox_y rfl (y_loadN 2 [.int .i64 p2.fFoot,.int .i64 p2.fHour] ag_26 rfl rfl rfl) ?_
   refine ox_y rfl (y_move_int rfl) ?_
   obtain ⟨y30,hy31,h⟩:=bind_some h
   refine ox_call [.agg #[.int .i64 p0.fRise,.int .i64 p0.fFall,.int .i64 p0.fUp,.int .i64 p0.fDown,.slice A0_4 p0.fLooks.length c0_4],.slice A5_0 p5.length c5_0,.agg #[.int .i64 p2.fFoot,.int .i64 p2.fHour],.int .i64 p3] _ _ _ rfl go_21 rfl (fun W2 hW2 => ref02_Decides_ok p0 p5 p2 p3 y30 hy31 W2 A0_4 p0.fLooks.length c0_4 rfl ((RdL.arg hr0_4) W2 hW2) A5_0 p5.length c5_0 rfl ((RdL.arg hr5_0) W2 hW2)) ?_
   rintro ⟨A32,n34,c33⟩ hn35
   replace hn35 : n34 = y30.fL.length:=hn35; subst hn35
   try dsimp only [lna,lca,lsz,lss]
   refine ox_alloc ze_43 rfl (fun b36 => ?_)
   try dsimp only [lna,lca,lsz,lss]
   refine ox_n rfl (y_storeN 9 [.slice A32 y30.fL.length c33,.int .i64 y30.fE] sz_43 rfl (Nat.le_of_ble_eq_true rfl) rfl rfl rfl) ?_
   refine ox_nil (ex_then (cx_seq (cx_region ?_)))
   obtain ⟨y37,hy38,h⟩:=bind_some h
   refine ox_y rfl (y_call [] go_7 rfl (fun W2 hW2 => calxlaw02_sanity_ok  y37 hy38 W2 ) rfl) ?_
   refine ox_y rfl (y_move_bool rfl) ?_
   refine ox_join 5 (fun tm0 => (upd (upd (upd (upd (upd (upd (upd (upd (upd (upd (upd tm0 12 (.bool false)) 14 (.int .i64 y13.2)) 15 (.pointer (some ⟨b18,0,none⟩))) 16 (.int .i64 y19.1)) 17 (.bool y19.2.1)) 18 (.int .i64 y19.2.2)) 19 (.pointer (some ⟨b23,0,none⟩))) 20 (.slice A26 y24.1.length c27)) 21 (.int .i64 y24.2)) 22 (.pointer (some ⟨b36,0,none⟩))) 76 (.bool (y37 && (((y13.1.fSpan.fLo == y16.fB.fSpan.fLo) && (y13.1.fSpan.fHi == y16.fB.fSpan.fHi)) && ((y13.1.fLow == y16.fB.fLow) && (y13.1.fHigh == y16.fB.fHigh))))))) (fun tm0 => ?_) (fun key => ?_)
   ·refine ox_y rfl (y_move_bool rfl) ?_
    refine ox_join 5 (fun tm0 => (upd (upd (upd (upd (upd (upd (upd (upd (upd tm0 12 (.bool false)) 16 (.int .i64 y19.1)) 17 (.bool y19.2.1)) 18 (.int .i64 y19.2.2)) 19 (.pointer (some ⟨b23,0,none⟩))) 20 (.slice A26 y24.1.length c27)) 21 (.int .i64 y24.2)) 22 (.pointer (some ⟨b36,0,none⟩))) 82 (.bool ((y37 && (((y13.1.fSpan.fLo == y16.fB.fSpan.fLo) && (y13.1.fSpan.fHi == y16.fB.fSpan.fHi)) && ((y13.1.fLow == y16.fB.fLow) && (y13.1.fHigh == y16.fB.fHigh)))) && (y13.2 == y16.fE))))) (fun tm0 => ?_) (fun key => ?_)
    ·refine ox_y rfl (y_move_bool rfl) ?_
     refine ox_join 5 (fun tm0 => (upd (upd (upd (upd (upd (upd (upd (upd tm0 12 (.bool false)) 17 (.bool y19.2.1)) 18 (.int .i64 y19.2.2)) 19 (.pointer (some ⟨b23,0,none⟩))) 20 (.slice A26 y24.1.length c27)) 21 (.int .i64 y24.2)) 22 (.pointer (some ⟨b36,0,none⟩))) 88 (.bool (((y37 && (((y13.1.fSpan.fLo == y16.fB.fSpan.fLo) && (y13.1.fSpan.fHi == y16.fB.fSpan.fHi)) && ((y13.1.fLow == y16.fB.fLow) && (y13.1.fHigh == y16.fB.fHigh)))) && (y13.2 == y16.fE)) && (y19.1 == y21.fN))))) (fun tm0 => ?_) (fun key => ?_)
     ·refine ox_y rfl (y_move_bool rfl) ?_
      refine ox_join 5 (fun tm0 => (upd (upd (upd (upd (upd (upd (upd tm0 12 (.bool false)) 18 (.int .i64 y19.2.2)) 19 (.pointer (some ⟨b23,0,none⟩))) 20 (.slice A26 y24.1.length c27)) 21 (.int .i64 y24.2)) 22 (.pointer (some ⟨b36,0,none⟩))) 94 (.bool ((((y37 && (((y13.1.fSpan.fLo == y16.fB.fSpan.fLo) && (y13.1.fSpan.fHi == y16.fB.fSpan.fHi)) && ((y13.1.fLow == y16.fB.fLow) && (y13.1.fHigh == y16.fB.fHigh)))) && (y13.2 == y16.fE)) && (y19.1 == y21.fN)) && (y19.2.1 == y21.fIs))))) (fun tm0 => ?_) (fun key => ?_)
      ·refine ox_y rfl (y_move_bool rfl) ?_
       refine ox_join 5 (fun tm0 => (upd (upd (upd (upd (upd tm0 12 (.bool false)) 20 (.slice A26 y24.1.length c27)) 21 (.int .i64 y24.2)) 22 (.pointer (some ⟨b36,0,none⟩))) 100 (.bool (((((y37 && (((y13.1.fSpan.fLo == y16.fB.fSpan.fLo) && (y13.1.fSpan.fHi == y16.fB.fSpan.fHi)) && ((y13.1.fLow == y16.fB.fLow) && (y13.1.fHigh == y16.fB.fHigh)))) && (y13.2 == y16.fE)) && (y19.1 == y21.fN)) && (y19.2.1 == y21.fIs)) && (y19.2.2 == y21.fE))))) (fun tm0 => ?_) (fun key => ?_)
       ·refine ox_y rfl (y_move_bool rfl) ?_
        obtain ⟨b45,hb46,h⟩:=bind_some h
        refine ox_join 5 (fun tm0 => (upd (upd (upd (upd tm0 12 (.bool false)) 21 (.int .i64 y24.2)) 22 (.pointer (some ⟨b36,0,none⟩))) 106 (.bool b45))) (fun tm0 => ?_) (fun key => ?_)
        ·refine ox_y rfl (y_move_bool rfl) ?_
         refine ox_join 5 (fun tm0 => (upd (upd tm0 12 (.bool false)) 112 (.bool (b45 && (y24.2 == y30.fE))))) (fun tm0 => ?_) (fun key => ?_)
         ·refine ox_y rfl (y_assign_bool rfl) ?_
          refine ox_nil (ex_then (cx_ret ?_))
          obtain rfl:=Option.some.inj h
          exact ex_res1 (.inl rfl) rfl (resV_tmp (v:=.bool (b45 && (y24.2 == y30.fE))) rfl) (fun W2 hW2 => ⟨rfl,hW2.none⟩)
         ·rcases bool_cases b45 with hp47 | hp47
          ·refine ox_y (sees_t rfl rfl rfl rfl hp47) (y_move_int rfl) ?_
           refine ox_y (sees_t rfl rfl rfl rfl hp47) (y_fieldAddr fo_43_1 rfl) ?_
           refine ox_y (sees_t rfl rfl rfl rfl hp47) (y_load1 9 (v:=.int .i64 y30.fE) sc_33 rfl rfl rfl) ?_
           refine ox_y (sees_t rfl rfl rfl rfl hp47) (y_eql rfl rfl) ?_
           refine ox_y rfl (y_pick_tb (congrArg Value.bool hp47) rfl) ?_
           exact key _ _ (keep (keep rfl rfl) (congrArg Value.bool (and_t hp47)))
          ·refine ox_skip (sees_f rfl rfl rfl rfl hp47) ?_
           refine ox_skip (sees_f rfl rfl rfl rfl hp47) ?_
           refine ox_skip (sees_f rfl rfl rfl rfl hp47) ?_
           refine ox_skip (sees_f rfl rfl rfl rfl hp47) ?_
           refine ox_y rfl (y_pick_fb (congrArg Value.bool hp47) rfl) ?_
           exact key _ _ (keep (keep rfl rfl) (congrArg Value.bool (and_f hp47)))
        ·clear h; rcases ite_some hb46 with ⟨hp44,h⟩ | ⟨hp44,h⟩
         ·refine ox_y (sees_t rfl rfl rfl rfl hp44) (y_move_slice rfl) ?_
          refine ox_y (sees_t rfl rfl rfl rfl hp44) (y_fieldAddr fo_43_0 rfl) ?_
          refine ox_y (sees_t rfl rfl rfl rfl hp44) (y_load1 9 (v:=.slice A32 y30.fL.length c33) sc_39 rfl rfl rfl) ?_
          obtain ⟨y48,hy49,h⟩:=bind_some h
          refine ox_y (sees_t rfl rfl rfl rfl hp44) (y_call [.slice A26 y24.1.length c27,.slice A32 y30.fL.length c33] go_14 rfl (fun W2 hW2 => ref02_SameInts_ok y24.1 y30.fL y48 hy49 W2 A26 y24.1.length c27 rfl ((RdL.row 7 rfl) W2 hW2) A32 y30.fL.length c33 rfl ((RdL.row 8 rfl) W2 hW2)) rfl) ?_
          refine ox_y rfl (y_pick_tb (congrArg Value.bool hp44) rfl) ?_
          obtain rfl:=Option.some.inj h
          exact key _ _ (keep (keep (keep (keep rfl rfl) rfl) rfl) rfl)
         ·refine ox_skip (sees_f rfl rfl rfl rfl hp44) ?_
          refine ox_skip (sees_f rfl rfl rfl rfl hp44) ?_
          refine ox_skip (sees_f rfl rfl rfl rfl hp44) ?_
          refine ox_skip (sees_f rfl rfl rfl rfl hp44) ?_
          refine ox_y rfl (y_pick_fb (congrArg Value.bool hp44) rfl) ?_
          obtain rfl:=Option.some.inj h
          exact key _ _ (keep (keep (keep (keep rfl rfl) rfl) rfl) rfl)
       ·rcases bool_cases ((((y37 && (((y13.1.fSpan.fLo == y16.fB.fSpan.fLo) && (y13.1.fSpan.fHi == y16.fB.fSpan.fHi)) && ((y13.1.fLow == y16.fB.fLow) && (y13.1.fHigh == y16.fB.fHigh)))) && (y13.2 == y16.fE)) && (y19.1 == y21.fN)) && (y19.2.1 == y21.fIs)) with hp43 | hp43
        ·refine ox_y (sees_t rfl rfl rfl rfl hp43) (y_move_int rfl) ?_
         refine ox_y (sees_t rfl rfl rfl rfl hp43) (y_fieldAddr fo_57_2 rfl) ?_
         refine ox_y (sees_t rfl rfl rfl rfl hp43) (y_load1 6 (v:=.int .i64 y21.fE) sc_33 rfl rfl rfl) ?_
         refine ox_y (sees_t rfl rfl rfl rfl hp43) (y_eql rfl rfl) ?_
         refine ox_y rfl (y_pick_tb (congrArg Value.bool hp43) rfl) ?_
         exact key _ _ (keep (keep (keep (keep (keep rfl rfl) rfl) rfl) rfl) (congrArg Value.bool (and_t hp43)))
        ·refine ox_skip (sees_f rfl rfl rfl rfl hp43) ?_
         refine ox_skip (sees_f rfl rfl rfl rfl hp43) ?_
         refine ox_skip (sees_f rfl rfl rfl rfl hp43) ?_
         refine ox_skip (sees_f rfl rfl rfl rfl hp43) ?_
         refine ox_y rfl (y_pick_fb (congrArg Value.bool hp43) rfl) ?_
         exact key _ _ (keep (keep (keep (keep (keep rfl rfl) rfl) rfl) rfl) (congrArg Value.bool (and_f hp43)))
      ·rcases bool_cases (((y37 && (((y13.1.fSpan.fLo == y16.fB.fSpan.fLo) && (y13.1.fSpan.fHi == y16.fB.fSpan.fHi)) && ((y13.1.fLow == y16.fB.fLow) && (y13.1.fHigh == y16.fB.fHigh)))) && (y13.2 == y16.fE)) && (y19.1 == y21.fN)) with hp42 | hp42
       ·refine ox_y (sees_t rfl rfl rfl rfl hp42) (y_move_bool rfl) ?_
        refine ox_y (sees_t rfl rfl rfl rfl hp42) (y_fieldAddr fo_57_1 rfl) ?_
        refine ox_y (sees_t rfl rfl rfl rfl hp42) (y_load1 6 (v:=.bool y21.fIs) sc_4 rfl rfl rfl) ?_
        refine ox_y (sees_t rfl rfl rfl rfl hp42) (y_eqlb ub_4 rfl rfl) ?_
        refine ox_y rfl (y_pick_tb (congrArg Value.bool hp42) rfl) ?_
        exact key _ _ (keep (keep (keep (keep (keep (keep (keep rfl rfl) rfl) rfl) rfl) rfl) rfl) (congrArg Value.bool (and_t hp42)))
       ·refine ox_skip (sees_f rfl rfl rfl rfl hp42) ?_
        refine ox_skip (sees_f rfl rfl rfl rfl hp42) ?_
        refine ox_skip (sees_f rfl rfl rfl rfl hp42) ?_
        refine ox_skip (sees_f rfl rfl rfl rfl hp42) ?_
        refine ox_y rfl (y_pick_fb (congrArg Value.bool hp42) rfl) ?_
        exact key _ _ (keep (keep (keep (keep (keep (keep (keep rfl rfl) rfl) rfl) rfl) rfl) rfl) (congrArg Value.bool (and_f hp42)))
     ·rcases bool_cases ((y37 && (((y13.1.fSpan.fLo == y16.fB.fSpan.fLo) && (y13.1.fSpan.fHi == y16.fB.fSpan.fHi)) && ((y13.1.fLow == y16.fB.fLow) && (y13.1.fHigh == y16.fB.fHigh)))) && (y13.2 == y16.fE)) with hp41 | hp41
      ·refine ox_y (sees_t rfl rfl rfl rfl hp41) (y_move_int rfl) ?_
       refine ox_y (sees_t rfl rfl rfl rfl hp41) (y_fieldAddr fo_57_0 rfl) ?_
       refine ox_y (sees_t rfl rfl rfl rfl hp41) (y_load1 6 (v:=.int .i64 y21.fN) sc_3 rfl rfl rfl) ?_
       refine ox_y (sees_t rfl rfl rfl rfl hp41) (y_eql rfl rfl) ?_
       refine ox_y rfl (y_pick_tb (congrArg Value.bool hp41) rfl) ?_
       exact key _ _ (keep (keep (keep (keep (keep (keep (keep (keep rfl rfl) rfl) rfl) rfl) rfl) rfl) rfl) (congrArg Value.bool (and_t hp41)))
      ·refine ox_skip (sees_f rfl rfl rfl rfl hp41) ?_
       refine ox_skip (sees_f rfl rfl rfl rfl hp41) ?_
       refine ox_skip (sees_f rfl rfl rfl rfl hp41) ?_
       refine ox_skip (sees_f rfl rfl rfl rfl hp41) ?_
       refine ox_y rfl (y_pick_fb (congrArg Value.bool hp41) rfl) ?_
       exact key _ _ (keep (keep (keep (keep (keep (keep (keep (keep rfl rfl) rfl) rfl) rfl) rfl) rfl) rfl) (congrArg Value.bool (and_f hp41)))
    ·rcases bool_cases (y37 && (((y13.1.fSpan.fLo == y16.fB.fSpan.fLo) && (y13.1.fSpan.fHi == y16.fB.fSpan.fHi)) && ((y13.1.fLow == y16.fB.fLow) && (y13.1.fHigh == y16.fB.fHigh)))) with hp40 | hp40
     ·refine ox_y (sees_t rfl rfl rfl rfl hp40) (y_move_int rfl) ?_
      refine ox_y (sees_t rfl rfl rfl rfl hp40) (y_fieldAddr fo_37_1 rfl) ?_
      refine ox_y (sees_t rfl rfl rfl rfl hp40) (y_load1 5 (v:=.int .i64 y16.fE) sc_33 rfl rfl rfl) ?_
      refine ox_y (sees_t rfl rfl rfl rfl hp40) (y_eql rfl rfl) ?_
      refine ox_y rfl (y_pick_tb (congrArg Value.bool hp40) rfl) ?_
      exact key _ _ (keep (keep (keep (keep (keep (keep (keep (keep (keep rfl rfl) rfl) rfl) rfl) rfl) rfl) rfl) rfl) (congrArg Value.bool (and_t hp40)))
     ·refine ox_skip (sees_f rfl rfl rfl rfl hp40) ?_
      refine ox_skip (sees_f rfl rfl rfl rfl hp40) ?_
      refine ox_skip (sees_f rfl rfl rfl rfl hp40) ?_
      refine ox_skip (sees_f rfl rfl rfl rfl hp40) ?_
      refine ox_y rfl (y_pick_fb (congrArg Value.bool hp40) rfl) ?_
      exact key _ _ (keep (keep (keep (keep (keep (keep (keep (keep (keep rfl rfl) rfl) rfl) rfl) rfl) rfl) rfl) rfl) (congrArg Value.bool (and_f hp40)))
   ·rcases bool_cases y37 with hp39 | hp39
    ·refine ox_y (sees_t rfl rfl rfl rfl hp39) (y_loadN 4 [.int .i64 y13.1.fSpan.fLo,.int .i64 y13.1.fSpan.fHi,.int .i64 y13.1.fLow,.int .i64 y13.1.fHigh] ag_30 rfl rfl rfl) ?_
     refine ox_y (sees_t rfl rfl rfl rfl hp39) (y_fieldAddr fo_37_0 rfl) ?_
     refine ox_y (sees_t rfl rfl rfl rfl hp39) (y_loadN 5 [.int .i64 y16.fB.fSpan.fLo,.int .i64 y16.fB.fSpan.fHi,.int .i64 y16.fB.fLow,.int .i64 y16.fB.fHigh] ag_30 rfl rfl rfl) ?_
     refine ox_y (sees_t rfl rfl rfl rfl hp39) (y_eqla (b:=(((y13.1.fSpan.fLo == y16.fB.fSpan.fLo) && (y13.1.fSpan.fHi == y16.fB.fSpan.fHi)) && ((y13.1.fLow == y16.fB.fLow) && (y13.1.fHigh == y16.fB.fHigh)))) eg_30 rfl rfl (fun _ => (eqS3 fl_30 (partN (cs:=#[.int .i64 y13.1.fSpan.fLo,.int .i64 y13.1.fSpan.fHi]) ag_28 (by kernel_rfl)) (part1 sc_3 rfl) (part1 sc_3 rfl) (partN (cs:=#[.int .i64 y16.fB.fSpan.fLo,.int .i64 y16.fB.fSpan.fHi]) ag_28 (by kernel_rfl)) (part1 sc_3 rfl) (part1 sc_3 rfl) (eqS2 fl_28 (part1 sc_3 rfl) (part1 sc_3 rfl) (part1 sc_3 rfl) (part1 sc_3 rfl) (run_equalIn_int _ _ _ _ _ _ _ ui_3) (run_equalIn_int _ _ _ _ _ _ _ ui_3)) (run_equalIn_int _ _ _ _ _ _ _ ui_3) (run_equalIn_int _ _ _ _ _ _ _ ui_3)))) ?_
     refine ox_y rfl (y_pick_tb (congrArg Value.bool hp39) rfl) ?_
     exact key _ _ (keep (keep (keep (keep (keep (keep (keep (keep (keep (keep (keep rfl rfl) rfl) rfl) rfl) rfl) rfl) rfl) rfl) rfl) rfl) (congrArg Value.bool (and_t hp39)))
    ·refine ox_skip (sees_f rfl rfl rfl rfl hp39) ?_
     refine ox_skip (sees_f rfl rfl rfl rfl hp39) ?_
     refine ox_skip (sees_f rfl rfl rfl rfl hp39) ?_
     refine ox_skip (sees_f rfl rfl rfl rfl hp39) ?_
     refine ox_y rfl (y_pick_fb (congrArg Value.bool hp39) rfl) ?_
     exact key _ _ (keep (keep (keep (keep (keep (keep (keep (keep (keep (keep (keep rfl rfl) rfl) rfl) rfl) rfl) rfl) rfl) rfl) rfl) rfl) (congrArg Value.bool (and_f hp39)))
 ·clear h; rcases ite_some hb9 with ⟨hp7,h⟩ | ⟨hp7,h⟩
  ·refine ox_skip (sees_f rfl rfl rfl rfl hp7) ?_
   refine ox_skip (sees_f rfl rfl rfl rfl hp7) ?_
   refine ox_skip (sees_f rfl rfl rfl rfl hp7) ?_
   refine ox_y rfl (y_pick_tb (congrArg Value.bool hp7) rfl) ?_
   obtain rfl:=Option.some.inj h
   exact key _ _ (keep (keep (keep (keep (keep (keep (keep (keep rfl rfl) rfl) rfl) rfl) rfl) rfl) rfl) rfl)
  ·refine ox_y (sees_t rfl rfl rfl rfl hp7) (y_move_slice rfl) ?_
   obtain ⟨y50,hy51,h⟩:=bind_some h
   refine ox_y (sees_t rfl rfl rfl rfl hp7) (y_call [.slice A5_0 p5.length c5_0] go_15 rfl (fun W2 hW2 => calxlaw02_short_ok p5 y50 hy51 W2 A5_0 p5.length c5_0 rfl ((RdL.arg hr5_0) W2 hW2)) rfl) ?_
   refine ox_y (sees_t rfl rfl rfl rfl hp7) (y_not rfl) ?_
   refine ox_y rfl (y_pick_fb (congrArg Value.bool hp7) rfl) ?_
   obtain rfl:=Option.some.inj h
   exact key _ _ (keep (keep (keep (keep (keep (keep (keep (keep rfl rfl) rfl) rfl) rfl) rfl) rfl) rfl) rfl)

end Go.Proofs.YtndajeiecdmhnaaGreat
