/- The calls hand back what the plain functions say. -/
import Derived.Test.YtndajeiecdmhnaaGreatF
import Derived.Test.YtndajeiecdmhnaaGreatGy
import Derived.Test.YtndajeiecdmhnaaGreatC1
import Derived.Test.YtndajeiecdmhnaaGreatC2
import Derived.Test.YtndajeiecdmhnaaGreatC3
import Derived.Test.YtndajeiecdmhnaaGreatC5
import Derived.Test.YtndajeiecdmhnaaGreatC6
import Derived.Test.YtndajeiecdmhnaaGreatC7
import Derived.Test.YtndajeiecdmhnaaGreatC8
set_option linter.unusedVariables false
set_option maxHeartbeats 4000000
set_option maxRecDepth 100000
namespace Go.Proofs.YtndajeiecdmhnaaGreat
open Go.RowKit (Below)
attribute [local irreducible] OX QX CX EX OpY Calls CallsIn

theorem fire_with_ok (p0_f:TFire) (p1_x:TLook) (res:TFire) (h:fire_with p0_f p1_x = some res) (W:World) (A0_4:Option Addr) (n0_4 c0_4 : Nat) (hn0_4:n0_4 = p0_f.fLooks.length) (hr0_4:Rd W A0_4 n0_4 c0_4 (encL TLook_cells p0_f.fLooks)) :
  Calls Tryz.prog 53 [.agg #[.int .i64 p0_f.fRise,.int .i64 p0_f.fFall,.int .i64 p0_f.fUp,.int .i64 p0_f.fDown,.slice A0_4 n0_4 c0_4],.agg #[.int .i64 p1_x.fID,.int .i64 p1_x.fAt.fFoot,.int .i64 p1_x.fAt.fHour,.int .i64 p1_x.fHeat.fLo,.int .i64 p1_x.fHeat.fHi]].toArray W fun e W2 => ∃ x : Option Addr × Nat × Nat,x.2.1 = res.fLooks.length ∧ e = .returned (.agg #[.int .i64 res.fRise,.int .i64 res.fFall,.int .i64 res.fUp,.int .i64 res.fDown,.slice x.1 x.2.1 x.2.2]) ∧ Ext W W2 [rowR x.1 x.2.2 49 5 x.2.1 (encL TLook_cells res.fLooks)]:=by
 subst hn0_4
 unfold fire_with at h
 refine calls_enter (m:=13) Tryz.func53 rfl rfl (Nat.le_of_ble_eq_true rfl) ?_
 refine cx_seq (cx_region ?_)
 refine ox_box [.int .i64 p0_f.fRise,.int .i64 p0_f.fFall,.int .i64 p0_f.fUp,.int .i64 p0_f.fDown,.slice A0_4 p0_f.fLooks.length c0_4] rfl rfl rfl (fun b1 => ?_)
 refine ox_box [.int .i64 p1_x.fID,.int .i64 p1_x.fAt.fFoot,.int .i64 p1_x.fAt.fHour,.int .i64 p1_x.fHeat.fLo,.int .i64 p1_x.fHeat.fHi] rfl rfl rfl (fun b2 => ?_)
 refine ox_alloc ze_24 rfl (fun b3 => ?_)
 refine ox_nil (ex_then (cx_seq ?_))
 obtain ⟨y5,hy6,h⟩:=bind_some h
 obtain ⟨hg14,h⟩:=guardO_some h
 refine cx_drawsG [[],[0],[0,1],[],[3],[0,1,2,3,4],[0,1,2,3,4,5],[0,1,2,3,4,5,6]] [(none,0,[true,true,true]),(none,0,[true,true,true]),(none,1,[true,true,true]),(none,0,[true,true,true,false]),(none,1,[true,true,true,false]),(some 3,0,[true,true,true,true,true]),(none,0,[true,true,true,true,true]),(some 0,0,[true,true,true,true,true])] [⟨fun _ => .pointer (some ⟨b1,0 + 4,none⟩),fun _ => noR,fun _ => []⟩,⟨fun _ => .slice A0_4 p0_f.fLooks.length c0_4,fun _ => noR,fun _ => []⟩,⟨fun ξ4 => .slice (ξ4 2 0).1 y5.length (ξ4 2 0).2.2,fun _ => noR,fun ξ4 => [rowR (ξ4 2 0).1 (ξ4 2 0).2.2 49 5 y5.length (encL TLook_cells y5)]⟩,⟨fun _ => .agg #[.int .i64 p1_x.fID,.int .i64 p1_x.fAt.fFoot,.int .i64 p1_x.fAt.fHour,.int .i64 p1_x.fHeat.fLo,.int .i64 p1_x.fHeat.fHi],fun _ => noR,fun _ => []⟩,⟨fun ξ4 => .slice (some ⟨(ξ4 4 0).2.1,0,none⟩) 1 1,fun _ => noR,fun ξ4 => [rowR (some ⟨(ξ4 4 0).2.1,0,none⟩) 1 49 5 1 (encL TLook_cells [p1_x])]⟩,⟨fun ξ4 => .slice (ξ4 5 0).1 (y5.length + 1) (ξ4 5 0).2.2,fun ξ4 => rowR (ξ4 5 0).1 (ξ4 5 0).2.2 49 5 (y5.length + 1) (encL TLook_cells (y5 ++ [p1_x])),fun _ => []⟩,⟨fun _ => .pointer (some ⟨b1,0 + 4,none⟩),fun _ => noR,fun _ => []⟩,⟨fun _ => undef,fun ξ4 => cellsR b1 24 [.int .i64 p0_f.fRise,.int .i64 p0_f.fFall,.int .i64 p0_f.fUp,.int .i64 p0_f.fDown,.slice (ξ4 5 0).1 (y5.length + 1) (ξ4 5 0).2.2],fun _ => []⟩] 3 mixed (by kernel_rfl) (by kernel_rfl) ⟨⟨fun ξ4 ξ4' h => ⟨rfl,rfl,rfl⟩,fun _ => rfl⟩,⟨fun ξ4 ξ4' h => ⟨rfl,rfl,rfl⟩,fun _ => rfl⟩,⟨fun ξ4 ξ4' h => ⟨by simp only [h 2 (.inl rfl)],rfl,by simp only [h 2 (.inl rfl)]⟩,fun _ => rfl⟩,⟨fun ξ4 ξ4' h => ⟨rfl,rfl,rfl⟩,fun _ => rfl⟩,⟨fun ξ4 ξ4' h => ⟨by simp only [h 4 (.inl rfl)],rfl,by simp only [h 4 (.inl rfl)]⟩,fun _ => rfl⟩,⟨fun ξ4 ξ4' h => ⟨by simp only [h 5 (.inl rfl)],by simp only [h 5 (.inl rfl)],rfl⟩,fun _ => rfl⟩,⟨fun ξ4 ξ4' h => ⟨rfl,rfl,rfl⟩,fun _ => rfl⟩,⟨fun ξ4 ξ4' h => ⟨rfl,by simp only [h 5 (.inr rfl)],rfl⟩,fun _ => rfl⟩,trivial⟩ rfl (fun ξ4 => ?_)
 refine gx_o rfl (fun L2 => ?_) ?_
 ·dsimp only [maskL,lca,lna]
  refine ox_y rfl (y_fieldAddr fo_24_4 rfl) ?_
  refine ox_nil ?_
  exact ex_capG (fun _ => (none,0,0)) rfl (List.append_nil _)
 dsimp only [aftL,lsz,lss,lna,lca,List.append_nil]
 refine gx_o rfl (fun L2 => ?_) ?_
 ·dsimp only [maskL,lca,lna]
  refine ox_y rfl (y_load1 0 (v:=.slice A0_4 p0_f.fLooks.length c0_4) sc_22 rfl rfl rfl) ?_
  refine ox_nil ?_
  exact ex_capG (fun _ => (none,0,0)) rfl (List.append_nil _)
 dsimp only [aftL,lsz,lss,lna,lca,List.append_nil]
 refine gx_o rfl (fun L2 => ?_) ?_
 ·dsimp only [maskL,lca,lna]
  refine ox_call [.slice A0_4 p0_f.fLooks.length c0_4] _ _ _ rfl go_88 rfl (fun W2 hW2 => slices_Clone_Look_Look_ok p0_f.fLooks y5 hy6 W2 A0_4 p0_f.fLooks.length c0_4 rfl ((RdL.arg hr0_4) W2 hW2)) ?_
  rintro ⟨A7,n9,c8⟩ hn10
  replace hn10 : n9 = y5.length:=hn10; subst hn10
  refine ox_nil ?_
  exact ex_capG (fun _ => (A7,0,c8)) rfl rfl
 dsimp only [aftL,lsz,lss,lna,lca,List.append_nil]
 refine gx_o rfl (fun L2 => ?_) ?_
 ·dsimp only [maskL,lca,lna]
  refine ox_y rfl (y_loadN 1 [.int .i64 p1_x.fID,.int .i64 p1_x.fAt.fFoot,.int .i64 p1_x.fAt.fHour,.int .i64 p1_x.fHeat.fLo,.int .i64 p1_x.fHeat.fHi] ag_49 rfl rfl rfl) ?_
  refine ox_nil ?_
  exact ex_capG (fun _ => (none,0,0)) rfl (List.append_nil _)
 dsimp only [aftL,lsz,lss,lna,lca,List.append_nil]
 refine gx_o rfl (fun L2 => ?_) ?_
 ·dsimp only [maskL,lca,lna]
  refine ox_buildSliceE 1 (encL TLook_cells [p1_x]) _ mc_49_1 us_22 ze_49 by_49 (by decide) (by decide) (by kernel_rfl) (encL_len TLook_cells_len rfl) rfl (fun b11 => ?_)
  refine ox_nil ?_
  exact ex_capG (fun _ => (none,b11,0)) rfl rfl
 dsimp only [aftL,lsz,lss,lna,lca,List.append_nil]
 refine gx_o rfl (fun L2 => ?_) ?_
 ·dsimp only [maskL,lca,lna]
  refine ox_append0 3 us_22 ze_49 by_49 rfl rfl rfl (RdL.row 4 rfl) (encL_len TLook_cells_len rfl) (encL_one TLook_cells_one _) (app_room hg14 (by decide)) rfl (fun A12 c13 => ?_)
  refine ox_nil ?_
  exact ex_capG (fun _ => (A12,0,c13)) rfl (List.append_nil _)
 dsimp only [aftL,lsz,lss,lna,lca,List.append_nil]
 refine gx_o rfl (fun L2 => ?_) ?_
 ·dsimp only [maskL,lca,lna]
  refine ox_y rfl (y_fieldAddr fo_24_4 rfl) ?_
  refine ox_nil ?_
  exact ex_capG (fun _ => (none,0,0)) rfl (List.append_nil _)
 dsimp only [aftL,lsz,lss,lna,lca,List.append_nil]
 refine gx_n rfl (fun L2 => ?_) ?_
 ·dsimp only [maskL,lca,lna]
  refine ox_n rfl (y_store1 0 (v:=.slice (ξ4 5 0).1 (y5.length + 1) (ξ4 5 0).2.2) sz_22 rfl (Nat.lt_of_lt_of_le (Nat.lt_succ_self _) (Nat.le_of_ble_eq_true rfl)) rfl rfl rfl) ?_
  refine ox_nil ?_
  exact ex_capGn (fun _ => (none,0,0)) (List.append_nil _)
 dsimp only [aftL,lsz,lss,lna,lca,List.append_nil]
 refine gx_nil ?_
 refine ex_then (cx_seq (cx_region ?_))
 refine ox_y rfl (y_loadN 0 [.int .i64 p0_f.fRise,.int .i64 p0_f.fFall,.int .i64 p0_f.fUp,.int .i64 p0_f.fDown,.slice (ξ4 5 0).1 (y5.length + 1) (ξ4 5 0).2.2] ag_24 rfl rfl rfl) ?_
 refine ox_n rfl (y_storeN 2 [.int .i64 p0_f.fRise,.int .i64 p0_f.fFall,.int .i64 p0_f.fUp,.int .i64 p0_f.fDown,.slice (ξ4 5 0).1 (y5.length + 1) (ξ4 5 0).2.2] sz_24 rfl (Nat.le_of_ble_eq_true rfl) rfl rfl rfl) ?_
 refine ox_nil (ex_then (cx_ret ?_))
 obtain rfl:=Option.some.inj h
 exact ex_res1 (.inl rfl) rfl (resV_cellN 2 [.int .i64 p0_f.fRise,.int .i64 p0_f.fFall,.int .i64 p0_f.fUp,.int .i64 p0_f.fDown,.slice (ξ4 5 0).1 (y5.length + 1) (ξ4 5 0).2.2] ag_24 rfl rfl rfl) (fun W2 hW2 => ⟨((ξ4 5 0).1,(y5.length + 1),(ξ4 5 0).2.2),(hn_app rfl rfl),rfl,(hW2.pick 3 rfl)⟩)

theorem fire_Would_ok (p0_f:TFire) (p1_x:TLook) (p2_at:TSpot) (res:(TBounds × Int)) (h:fire_Would p0_f p1_x p2_at = some res) (W:World) (A0_4:Option Addr) (n0_4 c0_4 : Nat) (hn0_4:n0_4 = p0_f.fLooks.length) (hr0_4:Rd W A0_4 n0_4 c0_4 (encL TLook_cells p0_f.fLooks)) :
  Calls Tryz.prog 16 [.agg #[.int .i64 p0_f.fRise,.int .i64 p0_f.fFall,.int .i64 p0_f.fUp,.int .i64 p0_f.fDown,.slice A0_4 n0_4 c0_4],.agg #[.int .i64 p1_x.fID,.int .i64 p1_x.fAt.fFoot,.int .i64 p1_x.fAt.fHour,.int .i64 p1_x.fHeat.fLo,.int .i64 p1_x.fHeat.fHi],.agg #[.int .i64 p2_at.fFoot,.int .i64 p2_at.fHour]].toArray W fun e W2 => e = .returned (.tuple #[.agg #[.int .i64 res.1.fSpan.fLo,.int .i64 res.1.fSpan.fHi,.int .i64 res.1.fLow,.int .i64 res.1.fHigh],.int .i64 res.2]) ∧ Ext W W2 []:=by
 subst hn0_4
 unfold fire_Would at h
 refine calls_enter (m:=32) Tryz.func16 rfl rfl (Nat.le_of_ble_eq_true rfl) ?_
 refine cx_seq (cx_region ?_)
 refine ox_box [.int .i64 p0_f.fRise,.int .i64 p0_f.fFall,.int .i64 p0_f.fUp,.int .i64 p0_f.fDown,.slice A0_4 p0_f.fLooks.length c0_4] rfl rfl rfl (fun b1 => ?_)
 refine ox_box [.int .i64 p1_x.fID,.int .i64 p1_x.fAt.fFoot,.int .i64 p1_x.fAt.fHour,.int .i64 p1_x.fHeat.fLo,.int .i64 p1_x.fHeat.fHi] rfl rfl rfl (fun b2 => ?_)
 refine ox_box [.int .i64 p2_at.fFoot,.int .i64 p2_at.fHour] rfl rfl rfl (fun b3 => ?_)
 refine ox_alloc ze_30 rfl (fun b4 => ?_)
 refine ox_y rfl (y_assign_int rfl) ?_
 refine ox_nil (ex_then (cx_seq (cx_seq (cx_region ?_))))
 refine ox_y rfl (y_loadN 0 [.int .i64 p0_f.fRise,.int .i64 p0_f.fFall,.int .i64 p0_f.fUp,.int .i64 p0_f.fDown,.slice A0_4 p0_f.fLooks.length c0_4] ag_24 rfl rfl rfl) ?_
 refine ox_y rfl (y_loadN 2 [.int .i64 p2_at.fFoot,.int .i64 p2_at.fHour] ag_26 rfl rfl rfl) ?_
 refine ox_buildSliceE 1 (encL TSpot_cells [p2_at]) _ mc_26_1 us_50 ze_26 by_26 (by decide) (by decide) (by kernel_rfl) (encL_len TSpot_cells_len rfl) rfl (fun b5 => ?_)
 obtain ⟨y6,hy7,h⟩:=bind_some h
 refine ox_y rfl (y_call [.agg #[.int .i64 p0_f.fRise,.int .i64 p0_f.fFall,.int .i64 p0_f.fUp,.int .i64 p0_f.fDown,.slice A0_4 p0_f.fLooks.length c0_4],.slice (some ⟨b5,0,none⟩) 1 1] go_38 rfl (fun W2 hW2 => fire_spots_ok p0_f [p2_at] y6 hy7 W2 A0_4 p0_f.fLooks.length c0_4 rfl ((RdL.arg hr0_4) W2 hW2) (some ⟨b5,0,none⟩) 1 1 rfl ((RdL.row 4 rfl) W2 hW2)) rfl) ?_
 refine ox_y rfl (y_assign_int rfl) ?_
 refine ox_nil (ex_then (cx_seq (cx_region ?_)))
 refine ox_y rfl (y_move_int rfl) ?_
 refine ox_y rfl (y_neq rfl rfl) ?_
 refine ox_nil (ex_then ?_)
 rcases ite_some h with ⟨hp8,h⟩ | ⟨hp8,h⟩
 ·refine cx_true (congrArg Value.bool hp8) ?_
  refine cx_seq (cx_region ?_)
  refine ox_y rfl (y_buildS [.int .i64 0,.int .i64 0,.int .i64 0,.int .i64 0] [(0,2),(2,1),(3,1)] ust_30 ze_30 (by kernel_rfl)) ?_
  refine ox_y rfl (y_move_int rfl) ?_
  refine ox_n rfl (y_storeN 3 [.int .i64 0,.int .i64 0,.int .i64 0,.int .i64 0] sz_30 rfl (Nat.le_of_ble_eq_true rfl) rfl rfl rfl) ?_
  refine ox_y rfl (y_assign_int rfl) ?_
  refine ox_nil (ex_then (cx_ret (ex_then_ret ?_)))
  obtain rfl:=Option.some.inj h
  exact ex_res2 (.inl rfl) rfl (resV_cellN 3 [.int .i64 0,.int .i64 0,.int .i64 0,.int .i64 0] ag_30 rfl rfl rfl) (resV_tmp (v:=.int .i64 y6) rfl) (fun W2 hW2 => ⟨rfl,hW2.none⟩)
 ·refine cx_false (congrArg Value.bool hp8) ?_
  refine cx_skip (ex_then (cx_seq (cx_region ?_)))
  refine ox_y rfl (y_loadN 0 [.int .i64 p0_f.fRise,.int .i64 p0_f.fFall,.int .i64 p0_f.fUp,.int .i64 p0_f.fDown,.slice A0_4 p0_f.fLooks.length c0_4] ag_24 rfl rfl rfl) ?_
  refine ox_y rfl (y_loadN 1 [.int .i64 p1_x.fID,.int .i64 p1_x.fAt.fFoot,.int .i64 p1_x.fAt.fHour,.int .i64 p1_x.fHeat.fLo,.int .i64 p1_x.fHeat.fHi] ag_49 rfl rfl rfl) ?_
  obtain ⟨y9,hy10,h⟩:=bind_some h
  refine ox_call [.agg #[.int .i64 p0_f.fRise,.int .i64 p0_f.fFall,.int .i64 p0_f.fUp,.int .i64 p0_f.fDown,.slice A0_4 p0_f.fLooks.length c0_4],.agg #[.int .i64 p1_x.fID,.int .i64 p1_x.fAt.fFoot,.int .i64 p1_x.fAt.fHour,.int .i64 p1_x.fHeat.fLo,.int .i64 p1_x.fHeat.fHi]] _ _ _ rfl go_53 rfl (fun W2 hW2 => fire_with_ok p0_f p1_x y9 hy10 W2 A0_4 p0_f.fLooks.length c0_4 rfl ((RdL.arg hr0_4) W2 hW2)) ?_
  rintro ⟨A11,n13,c12⟩ hn14
  replace hn14 : n13 = y9.fLooks.length:=hn14; subst hn14
  try dsimp only [lna,lca,lsz,lss]
  refine ox_n rfl (y_storeN 0 [.int .i64 y9.fRise,.int .i64 y9.fFall,.int .i64 y9.fUp,.int .i64 y9.fDown,.slice A11 y9.fLooks.length c12] sz_24 rfl (Nat.le_of_ble_eq_true rfl) rfl rfl rfl) ?_
  refine ox_nil (ex_then (cx_seq (cx_seq ?_)))
  refine cx_draws 5 mixed (by kernel_rfl) (by kernel_rfl) ?_
  refine qx_y rfl (y_loadN 0 [.int .i64 y9.fRise,.int .i64 y9.fFall,.int .i64 y9.fUp,.int .i64 y9.fDown,.slice A11 y9.fLooks.length c12] ag_24 rfl rfl rfl) ?_
  refine qx_y rfl (y_loadN 0 [.int .i64 y9.fRise,.int .i64 y9.fFall,.int .i64 y9.fUp,.int .i64 y9.fDown,.slice A11 y9.fLooks.length c12] ag_24 rfl rfl rfl) ?_
  obtain ⟨y15,hy16,h⟩:=bind_some h
  refine qx_y rfl (y_call [.agg #[.int .i64 y9.fRise,.int .i64 y9.fFall,.int .i64 y9.fUp,.int .i64 y9.fDown,.slice A11 y9.fLooks.length c12]] go_54 rfl (fun W2 hW2 => fire_Check_ok y9 y15 hy16 W2 A11 y9.fLooks.length c12 rfl ((RdL.row 5 rfl) W2 hW2)) rfl) ?_
  obtain ⟨y17,hy18,h⟩:=bind_some h
  refine qx_y rfl (y_call [.agg #[.int .i64 y9.fRise,.int .i64 y9.fFall,.int .i64 y9.fUp,.int .i64 y9.fDown,.slice A11 y9.fLooks.length c12],.int .i64 y15] go_37 rfl (fun W2 hW2 => fire_agreed_ok y9 y15 y17 hy18 W2 A11 y9.fLooks.length c12 rfl ((RdL.row 5 rfl) W2 hW2)) rfl) ?_
  refine qx_y rfl (y_assign_int rfl) ?_
  refine qx_nil ?_
  refine ox_nil (ex_then (cx_seq (cx_region ?_)))
  refine ox_y rfl (y_move_int rfl) ?_
  refine ox_y rfl (y_neq rfl rfl) ?_
  refine ox_nil (ex_then ?_)
  rcases ite_some h with ⟨hp19,h⟩ | ⟨hp19,h⟩
  ·refine cx_true (congrArg Value.bool hp19) ?_
   refine cx_seq (cx_region ?_)
   refine ox_y rfl (y_buildS [.int .i64 0,.int .i64 0,.int .i64 0,.int .i64 0] [(0,2),(2,1),(3,1)] ust_30 ze_30 (by kernel_rfl)) ?_
   refine ox_y rfl (y_move_int rfl) ?_
   refine ox_n rfl (y_storeN 3 [.int .i64 0,.int .i64 0,.int .i64 0,.int .i64 0] sz_30 rfl (Nat.le_of_ble_eq_true rfl) rfl rfl rfl) ?_
   refine ox_y rfl (y_assign_int rfl) ?_
   refine ox_nil (ex_then (cx_ret (ex_then_ret ?_)))
   obtain rfl:=Option.some.inj h
   exact ex_res2 (.inl rfl) rfl (resV_cellN 3 [.int .i64 0,.int .i64 0,.int .i64 0,.int .i64 0] ag_30 rfl rfl rfl) (resV_tmp (v:=.int .i64 y17) rfl) (fun W2 hW2 => ⟨rfl,hW2.none⟩)
  ·refine cx_false (congrArg Value.bool hp19) ?_
   refine cx_skip (ex_then (cx_seq (cx_region ?_)))
   refine ox_y rfl (y_loadN 0 [.int .i64 y9.fRise,.int .i64 y9.fFall,.int .i64 y9.fUp,.int .i64 y9.fDown,.slice A11 y9.fLooks.length c12] ag_24 rfl rfl rfl) ?_
   refine ox_y rfl (y_loadN 2 [.int .i64 p2_at.fFoot,.int .i64 p2_at.fHour] ag_26 rfl rfl rfl) ?_
   obtain ⟨y20,hy21,h⟩:=bind_some h
   refine ox_y rfl (y_call [.agg #[.int .i64 y9.fRise,.int .i64 y9.fFall,.int .i64 y9.fUp,.int .i64 y9.fDown,.slice A11 y9.fLooks.length c12],.agg #[.int .i64 p2_at.fFoot,.int .i64 p2_at.fHour]] go_39 rfl (fun W2 hW2 => fire_ends_ok y9 p2_at y20 hy21 W2 A11 y9.fLooks.length c12 rfl ((RdL.row 5 rfl) W2 hW2)) rfl) ?_
   refine ox_n rfl (y_storeN 3 [.int .i64 y20.fSpan.fLo,.int .i64 y20.fSpan.fHi,.int .i64 y20.fLow,.int .i64 y20.fHigh] sz_30 rfl (Nat.le_of_ble_eq_true rfl) rfl rfl rfl) ?_
   refine ox_y rfl (y_assign_int rfl) ?_
   refine ox_nil (ex_then (cx_ret ?_))
   obtain rfl:=Option.some.inj h
   exact ex_res2 (.inl rfl) rfl (resV_cellN 3 [.int .i64 y20.fSpan.fLo,.int .i64 y20.fSpan.fHi,.int .i64 y20.fLow,.int .i64 y20.fHigh] ag_30 rfl rfl rfl) (resV_tmp (v:=.int .i64 0) rfl) (fun W2 hW2 => ⟨rfl,hW2.none⟩)

theorem ref02_Would_ok (p0_f:TFire) (p1_x:TLook) (p2_at:TSpot) (res:TBounded) (h:ref02_Would p0_f p1_x p2_at = some res) (W:World) (A0_4:Option Addr) (n0_4 c0_4 : Nat) (hn0_4:n0_4 = p0_f.fLooks.length) (hr0_4:Rd W A0_4 n0_4 c0_4 (encL TLook_cells p0_f.fLooks)) :
  Calls Tryz.prog 17 [.agg #[.int .i64 p0_f.fRise,.int .i64 p0_f.fFall,.int .i64 p0_f.fUp,.int .i64 p0_f.fDown,.slice A0_4 n0_4 c0_4],.agg #[.int .i64 p1_x.fID,.int .i64 p1_x.fAt.fFoot,.int .i64 p1_x.fAt.fHour,.int .i64 p1_x.fHeat.fLo,.int .i64 p1_x.fHeat.fHi],.agg #[.int .i64 p2_at.fFoot,.int .i64 p2_at.fHour]].toArray W fun e W2 => e = .returned (.agg #[.int .i64 res.fB.fSpan.fLo,.int .i64 res.fB.fSpan.fHi,.int .i64 res.fB.fLow,.int .i64 res.fB.fHigh,.int .i64 res.fE]) ∧ Ext W W2 []:=by
 subst hn0_4
 unfold ref02_Would at h
 refine calls_enter (m:=33) Tryz.func17 rfl rfl (Nat.le_of_ble_eq_true rfl) ?_
 refine cx_seq (cx_region ?_)
 refine ox_box [.int .i64 p0_f.fRise,.int .i64 p0_f.fFall,.int .i64 p0_f.fUp,.int .i64 p0_f.fDown,.slice A0_4 p0_f.fLooks.length c0_4] rfl rfl rfl (fun b1 => ?_)
 refine ox_box [.int .i64 p1_x.fID,.int .i64 p1_x.fAt.fFoot,.int .i64 p1_x.fAt.fHour,.int .i64 p1_x.fHeat.fLo,.int .i64 p1_x.fHeat.fHi] rfl rfl rfl (fun b2 => ?_)
 refine ox_box [.int .i64 p2_at.fFoot,.int .i64 p2_at.fHour] rfl rfl rfl (fun b3 => ?_)
 refine ox_alloc ze_37 rfl (fun b4 => ?_)
 refine ox_nil (ex_then (cx_seq (cx_region ?_)))
 refine ox_y rfl (y_loadN 0 [.int .i64 p0_f.fRise,.int .i64 p0_f.fFall,.int .i64 p0_f.fUp,.int .i64 p0_f.fDown,.slice A0_4 p0_f.fLooks.length c0_4] ag_24 rfl rfl rfl) ?_
 obtain ⟨y5,hy6,h⟩:=bind_some h
 refine ox_y rfl (y_call [.agg #[.int .i64 p0_f.fRise,.int .i64 p0_f.fFall,.int .i64 p0_f.fUp,.int .i64 p0_f.fDown,.slice A0_4 p0_f.fLooks.length c0_4]] go_55 rfl (fun W2 hW2 => ref02_Check_ok p0_f y5 hy6 W2 A0_4 p0_f.fLooks.length c0_4 rfl ((RdL.arg hr0_4) W2 hW2)) rfl) ?_
 refine ox_y rfl (y_assign_int rfl) ?_
 refine ox_nil (ex_then (cx_seq (cx_seq (cx_region ?_))))
 refine ox_y rfl (y_move_int rfl) ?_
 refine ox_y rfl (y_neq rfl rfl) ?_
 refine ox_nil (ex_then ?_)
 rcases ite_some h with ⟨hp7,h⟩ | ⟨hp7,h⟩
 ·refine cx_true (congrArg Value.bool hp7) ?_
  refine cx_seq (cx_region ?_)
  refine ox_y rfl (y_move_int rfl) ?_
  refine ox_y rfl (y_buildS [.int .i64 0,.int .i64 0,.int .i64 0,.int .i64 0,.int .i64 y5] [(0,4),(4,1)] ust_37 ze_37 (by kernel_rfl)) ?_
  refine ox_n rfl (y_storeN 3 [.int .i64 0,.int .i64 0,.int .i64 0,.int .i64 0,.int .i64 y5] sz_37 rfl (Nat.le_of_ble_eq_true rfl) rfl rfl rfl) ?_
  refine ox_nil (ex_then (cx_ret (ex_then_ret ?_)))
  obtain rfl:=Option.some.inj h
  exact ex_res1 (.inl rfl) rfl (resV_cellN 3 [.int .i64 0,.int .i64 0,.int .i64 0,.int .i64 0,.int .i64 y5] ag_37 rfl rfl rfl) (fun W2 hW2 => ⟨rfl,hW2.none⟩)
 ·refine cx_false (congrArg Value.bool hp7) ?_
  refine cx_skip (ex_then (cx_seq (cx_region ?_)))
  refine ox_y rfl (y_loadN 2 [.int .i64 p2_at.fFoot,.int .i64 p2_at.fHour] ag_26 rfl rfl rfl) ?_
  obtain ⟨y8,hy9,h⟩:=bind_some h
  refine ox_y rfl (y_call [.agg #[.int .i64 p2_at.fFoot,.int .i64 p2_at.fHour]] go_56 rfl (fun W2 hW2 => ref02_Spot_ok p2_at y8 hy9 W2 ) rfl) ?_
  refine ox_y rfl (y_assign_bool rfl) ?_
  refine ox_nil (ex_then (cx_seq (cx_seq (cx_region ?_))))
  refine ox_y rfl (y_move_bool rfl) ?_
  refine ox_y rfl (y_not rfl) ?_
  refine ox_nil (ex_then ?_)
  rcases ite_some h with ⟨hp10,h⟩ | ⟨hp10,h⟩
  ·refine cx_true (congrArg Value.bool hp10) ?_
   refine cx_seq (cx_region ?_)
   refine ox_y rfl (y_buildS [.int .i64 0,.int .i64 0,.int .i64 0,.int .i64 0,.int .i64 1] [(0,4),(4,1)] ust_37 ze_37 (by kernel_rfl)) ?_
   refine ox_n rfl (y_storeN 3 [.int .i64 0,.int .i64 0,.int .i64 0,.int .i64 0,.int .i64 1] sz_37 rfl (Nat.le_of_ble_eq_true rfl) rfl rfl rfl) ?_
   refine ox_nil (ex_then (cx_ret (ex_then_ret ?_)))
   obtain rfl:=Option.some.inj h
   exact ex_res1 (.inl rfl) rfl (resV_cellN 3 [.int .i64 0,.int .i64 0,.int .i64 0,.int .i64 0,.int .i64 1] ag_37 rfl rfl rfl) (fun W2 hW2 => ⟨rfl,hW2.none⟩)
  ·refine cx_false (congrArg Value.bool hp10) ?_
   refine cx_skip (ex_then (cx_seq (cx_region ?_)))
   refine ox_y rfl (y_loadN 0 [.int .i64 p0_f.fRise,.int .i64 p0_f.fFall,.int .i64 p0_f.fUp,.int .i64 p0_f.fDown,.slice A0_4 p0_f.fLooks.length c0_4] ag_24 rfl rfl rfl) ?_
   refine ox_alloc ze_24 rfl (fun b11 => ?_)
   refine ox_n rfl (y_storeN 4 [.int .i64 p0_f.fRise,.int .i64 p0_f.fFall,.int .i64 p0_f.fUp,.int .i64 p0_f.fDown,.slice A0_4 p0_f.fLooks.length c0_4] sz_24 rfl (Nat.le_of_ble_eq_true rfl) rfl rfl rfl) ?_
   refine ox_nil (ex_then (cx_seq ?_))
   obtain ⟨hg16,h⟩:=guardO_some h
   obtain ⟨hg20,h⟩:=guardO_some h
   refine cx_drawsG [[],[],[1],[0,1,2],[],[4],[0,1,2,3,4,5],[0,1,2,3,4,5,6],[0,1,2,3,4,5,6,7]] [(none,1,[true,true,true,true,true]),(none,0,[true,true,true,true,true,false]),(none,0,[true,true,true,true,true,false]),(some 5,0,[true,true,true,true,true,true]),(none,0,[true,true,true,true,true,false]),(none,1,[true,true,true,true,true,false]),(some 5,0,[true,true,true,true,true,true,true]),(none,0,[true,true,true,true,true,true,true]),(some 4,0,[true,true,true,true,true,true,true])] [⟨fun ξ12 => .slice (some ⟨(ξ12 0 0).2.1,0,none⟩) 0 0,fun _ => noR,fun ξ12 => [rowR (some ⟨(ξ12 0 0).2.1,0,none⟩) 0 49 5 0 (encL TLook_cells ([]:List TLook))]⟩,⟨fun _ => .pointer (some ⟨b1,0 + 4,none⟩),fun _ => noR,fun _ => []⟩,⟨fun _ => .slice A0_4 p0_f.fLooks.length c0_4,fun _ => noR,fun _ => []⟩,⟨fun ξ12 => .slice (ξ12 3 0).1 (0 + p0_f.fLooks.length) (ξ12 3 0).2.2,fun ξ12 => rowR (ξ12 3 0).1 (ξ12 3 0).2.2 49 5 (0 + p0_f.fLooks.length) (encL TLook_cells (([]:List TLook) ++ p0_f.fLooks)),fun _ => []⟩,⟨fun _ => .agg #[.int .i64 p1_x.fID,.int .i64 p1_x.fAt.fFoot,.int .i64 p1_x.fAt.fHour,.int .i64 p1_x.fHeat.fLo,.int .i64 p1_x.fHeat.fHi],fun _ => noR,fun _ => []⟩,⟨fun ξ12 => .slice (some ⟨(ξ12 5 0).2.1,0,none⟩) 1 1,fun _ => noR,fun ξ12 => [rowR (some ⟨(ξ12 5 0).2.1,0,none⟩) 1 49 5 1 (encL TLook_cells [p1_x])]⟩,⟨fun ξ12 => .slice (ξ12 6 0).1 ((0 + p0_f.fLooks.length) + 1) (ξ12 6 0).2.2,fun ξ12 => rowR (ξ12 6 0).1 (ξ12 6 0).2.2 49 5 ((0 + p0_f.fLooks.length) + 1) (encL TLook_cells ((([]:List TLook) ++ p0_f.fLooks) ++ [p1_x])),fun _ => []⟩,⟨fun _ => .pointer (some ⟨b11,0 + 4,none⟩),fun _ => noR,fun _ => []⟩,⟨fun _ => undef,fun ξ12 => cellsR b11 24 [.int .i64 p0_f.fRise,.int .i64 p0_f.fFall,.int .i64 p0_f.fUp,.int .i64 p0_f.fDown,.slice (ξ12 6 0).1 ((0 + p0_f.fLooks.length) + 1) (ξ12 6 0).2.2],fun _ => []⟩] 5 mixed (by kernel_rfl) (by kernel_rfl) ⟨⟨fun ξ12 ξ12' h => ⟨by simp only [h 0 (.inl rfl)],rfl,by simp only [h 0 (.inl rfl)]⟩,fun _ => rfl⟩,⟨fun ξ12 ξ12' h => ⟨rfl,rfl,rfl⟩,fun _ => rfl⟩,⟨fun ξ12 ξ12' h => ⟨rfl,rfl,rfl⟩,fun _ => rfl⟩,⟨fun ξ12 ξ12' h => ⟨by simp only [h 3 (.inl rfl)],by simp only [h 3 (.inl rfl)],rfl⟩,fun _ => rfl⟩,⟨fun ξ12 ξ12' h => ⟨rfl,rfl,rfl⟩,fun _ => rfl⟩,⟨fun ξ12 ξ12' h => ⟨by simp only [h 5 (.inl rfl)],rfl,by simp only [h 5 (.inl rfl)]⟩,fun _ => rfl⟩,⟨fun ξ12 ξ12' h => ⟨by simp only [h 6 (.inl rfl)],by simp only [h 6 (.inl rfl)],rfl⟩,fun _ => rfl⟩,⟨fun ξ12 ξ12' h => ⟨rfl,rfl,rfl⟩,fun _ => rfl⟩,⟨fun ξ12 ξ12' h => ⟨rfl,by simp only [h 6 (.inr rfl)],rfl⟩,fun _ => rfl⟩,trivial⟩ rfl (fun ξ12 => ?_)
   refine gx_o rfl (fun L2 => ?_) ?_
   ·dsimp only [maskL,lca,lna]
    refine ox_buildSlice0 TLook_cells us_22 ze_49 by_49 rfl (fun b13 => ?_)
    refine ox_nil ?_
    exact ex_capG (fun _ => (none,b13,0)) rfl rfl
   dsimp only [aftL,lsz,lss,lna,lca,List.append_nil]
   refine gx_o rfl (fun L2 => ?_) ?_
   ·dsimp only [maskL,lca,lna]
    refine ox_y rfl (y_fieldAddr fo_24_4 rfl) ?_
    refine ox_nil ?_
    exact ex_capG (fun _ => (none,0,0)) rfl (List.append_nil _)
   dsimp only [aftL,lsz,lss,lna,lca,List.append_nil]
   refine gx_o rfl (fun L2 => ?_) ?_
   ·dsimp only [maskL,lca,lna]
    refine ox_y rfl (y_load1 0 (v:=.slice A0_4 p0_f.fLooks.length c0_4) sc_22 rfl rfl rfl) ?_
    refine ox_nil ?_
    exact ex_capG (fun _ => (none,0,0)) rfl (List.append_nil _)
   dsimp only [aftL,lsz,lss,lna,lca,List.append_nil]
   refine gx_o rfl (fun L2 => ?_) ?_
   ·dsimp only [maskL,lca,lna]
    refine ox_append0 5 us_22 ze_49 by_49 rfl rfl rfl (RdL.arg hr0_4) (encL_len TLook_cells_len rfl) (encL_one TLook_cells_one _) (app_room hg16 (by decide)) rfl (fun A14 c15 => ?_)
    refine ox_nil ?_
    exact ex_capG (fun _ => (A14,0,c15)) rfl (List.append_nil _)
   dsimp only [aftL,lsz,lss,lna,lca,List.append_nil]
   refine gx_o rfl (fun L2 => ?_) ?_
   ·dsimp only [maskL,lca,lna]
    refine ox_y rfl (y_loadN 1 [.int .i64 p1_x.fID,.int .i64 p1_x.fAt.fFoot,.int .i64 p1_x.fAt.fHour,.int .i64 p1_x.fHeat.fLo,.int .i64 p1_x.fHeat.fHi] ag_49 rfl rfl rfl) ?_
    refine ox_nil ?_
    exact ex_capG (fun _ => (none,0,0)) rfl (List.append_nil _)
   dsimp only [aftL,lsz,lss,lna,lca,List.append_nil]
   refine gx_o rfl (fun L2 => ?_) ?_
   ·dsimp only [maskL,lca,lna]
    refine ox_buildSliceE 1 (encL TLook_cells [p1_x]) _ mc_49_1 us_22 ze_49 by_49 (by decide) (by decide) (by kernel_rfl) (encL_len TLook_cells_len rfl) rfl (fun b17 => ?_)
    refine ox_nil ?_
    exact ex_capG (fun _ => (none,b17,0)) rfl rfl
   dsimp only [aftL,lsz,lss,lna,lca,List.append_nil]
   refine gx_o rfl (fun L2 => ?_) ?_
   ·dsimp only [maskL,lca,lna]
    refine ox_append0 5 us_22 ze_49 by_49 rfl rfl rfl (RdL.row 6 rfl) (encL_len TLook_cells_len rfl) (encL_one TLook_cells_one _) (app_room hg20 (by decide)) rfl (fun A18 c19 => ?_)
    refine ox_nil ?_
    exact ex_capG (fun _ => (A18,0,c19)) rfl (List.append_nil _)
   dsimp only [aftL,lsz,lss,lna,lca,List.append_nil]
   refine gx_o rfl (fun L2 => ?_) ?_
   ·dsimp only [maskL,lca,lna]
    refine ox_y rfl (y_fieldAddr fo_24_4 rfl) ?_
    refine ox_nil ?_
    exact ex_capG (fun _ => (none,0,0)) rfl (List.append_nil _)
   dsimp only [aftL,lsz,lss,lna,lca,List.append_nil]
   refine gx_n rfl (fun L2 => ?_) ?_
   ·dsimp only [maskL,lca,lna]
    refine ox_n rfl (y_store1 4 (v:=.slice (ξ12 6 0).1 ((0 + p0_f.fLooks.length) + 1) (ξ12 6 0).2.2) sz_22 rfl (Nat.lt_of_lt_of_le (Nat.lt_succ_self _) (Nat.le_of_ble_eq_true rfl)) rfl rfl rfl) ?_
    refine ox_nil ?_
    exact ex_capGn (fun _ => (none,0,0)) (List.append_nil _)
   dsimp only [aftL,lsz,lss,lna,lca,List.append_nil]
   refine gx_nil ?_
   refine ex_then (cx_seq (cx_region ?_))
   try dsimp only [lna,lca,lsz,lss]
   refine ox_y rfl (y_loadN 4 [.int .i64 p0_f.fRise,.int .i64 p0_f.fFall,.int .i64 p0_f.fUp,.int .i64 p0_f.fDown,.slice (ξ12 6 0).1 ((0 + p0_f.fLooks.length) + 1) (ξ12 6 0).2.2] ag_24 rfl rfl rfl) ?_
   refine ox_y rfl (y_loadN 2 [.int .i64 p2_at.fFoot,.int .i64 p2_at.fHour] ag_26 rfl rfl rfl) ?_
   obtain ⟨y21,hy22,h⟩:=bind_some h
   refine ox_y rfl (y_call [.agg #[.int .i64 p0_f.fRise,.int .i64 p0_f.fFall,.int .i64 p0_f.fUp,.int .i64 p0_f.fDown,.slice (ξ12 6 0).1 ((0 + p0_f.fLooks.length) + 1) (ξ12 6 0).2.2],.agg #[.int .i64 p2_at.fFoot,.int .i64 p2_at.fHour]] go_9 rfl (fun W2 hW2 => ref02_Ends_ok (TFire.mk p0_f.fRise p0_f.fFall p0_f.fUp p0_f.fDown ((([]:List TLook) ++ p0_f.fLooks) ++ [p1_x])) p2_at y21 hy22 W2 (ξ12 6 0).1 ((0 + p0_f.fLooks.length) + 1) (ξ12 6 0).2.2 (hn_app (hn_app rfl rfl) rfl) ((RdL.row 5 rfl) W2 hW2)) rfl) ?_
   refine ox_n rfl (y_storeN 3 [.int .i64 y21.fB.fSpan.fLo,.int .i64 y21.fB.fSpan.fHi,.int .i64 y21.fB.fLow,.int .i64 y21.fB.fHigh,.int .i64 y21.fE] sz_37 rfl (Nat.le_of_ble_eq_true rfl) rfl rfl rfl) ?_
   refine ox_nil (ex_then (cx_ret ?_))
   obtain rfl:=Option.some.inj h
   exact ex_res1 (.inl rfl) rfl (resV_cellN 3 [.int .i64 y21.fB.fSpan.fLo,.int .i64 y21.fB.fSpan.fHi,.int .i64 y21.fB.fLow,.int .i64 y21.fB.fHigh,.int .i64 y21.fE] ag_37 rfl rfl rfl) (fun W2 hW2 => ⟨rfl,hW2.none⟩)

theorem ref02_hot_ok (p0_f:TFire) (p1_l:(List TSpot)) (p2_at:TSpot) (p3_need:Int) (res:Int) (h:ref02_hot p0_f p1_l p2_at p3_need = some res) (W:World) (A0_4:Option Addr) (n0_4 c0_4 : Nat) (hn0_4:n0_4 = p0_f.fLooks.length) (hr0_4:Rd W A0_4 n0_4 c0_4 (encL TLook_cells p0_f.fLooks)) (A1_0:Option Addr) (n1_0 c1_0 : Nat) (hn1_0:n1_0 = p1_l.length) (hr1_0:Rd W A1_0 n1_0 c1_0 (encL TSpot_cells p1_l)) :
  Calls Tryz.prog 59 [.agg #[.int .i64 p0_f.fRise,.int .i64 p0_f.fFall,.int .i64 p0_f.fUp,.int .i64 p0_f.fDown,.slice A0_4 n0_4 c0_4],.slice A1_0 n1_0 c1_0,.agg #[.int .i64 p2_at.fFoot,.int .i64 p2_at.fHour],.int .i64 p3_need].toArray W fun e W2 => e = .returned (.int .i64 res) ∧ Ext W W2 []:=by
 subst hn0_4
 subst hn1_0
 unfold ref02_hot at h
 refine calls_enter (m:=38) Tryz.func59 rfl rfl (Nat.le_of_ble_eq_true rfl) ?_
 refine cx_seq (cx_region ?_)
 refine ox_box [.int .i64 p0_f.fRise,.int .i64 p0_f.fFall,.int .i64 p0_f.fUp,.int .i64 p0_f.fDown,.slice A0_4 p0_f.fLooks.length c0_4] rfl rfl rfl (fun b1 => ?_)
 refine ox_box [.int .i64 p2_at.fFoot,.int .i64 p2_at.fHour] rfl rfl rfl (fun b2 => ?_)
 refine ox_y rfl (y_assign_int rfl) ?_
 refine ox_nil (ex_then (cx_seq (cx_region ?_)))
 refine ox_y rfl (y_loadN 0 [.int .i64 p0_f.fRise,.int .i64 p0_f.fFall,.int .i64 p0_f.fUp,.int .i64 p0_f.fDown,.slice A0_4 p0_f.fLooks.length c0_4] ag_24 rfl rfl rfl) ?_
 obtain ⟨y3,hy4,h⟩:=bind_some h
 refine ox_y rfl (y_call [.agg #[.int .i64 p0_f.fRise,.int .i64 p0_f.fFall,.int .i64 p0_f.fUp,.int .i64 p0_f.fDown,.slice A0_4 p0_f.fLooks.length c0_4]] go_55 rfl (fun W2 hW2 => ref02_Check_ok p0_f y3 hy4 W2 A0_4 p0_f.fLooks.length c0_4 rfl ((RdL.arg hr0_4) W2 hW2)) rfl) ?_
 refine ox_y rfl (y_assign_int rfl) ?_
 refine ox_nil (ex_then (cx_seq (cx_seq (cx_region ?_))))
 refine ox_y rfl (y_move_int rfl) ?_
 refine ox_y rfl (y_neq rfl rfl) ?_
 refine ox_nil (ex_then ?_)
 rcases ite_some h with ⟨hp5,h⟩ | ⟨hp5,h⟩
 ·refine cx_true (congrArg Value.bool hp5) ?_
  refine cx_seq (cx_region ?_)
  refine ox_y rfl (y_move_int rfl) ?_
  refine ox_y rfl (y_assign_int rfl) ?_
  refine ox_nil (ex_then (cx_ret (ex_then_ret ?_)))
  obtain rfl:=Option.some.inj h
  exact ex_res1 (.inl rfl) rfl (resV_tmp (v:=.int .i64 y3) rfl) (fun W2 hW2 => ⟨rfl,hW2.none⟩)
 ·refine cx_false (congrArg Value.bool hp5) ?_
  refine cx_skip (ex_then (cx_seq (cx_region ?_)))
  refine ox_y rfl (y_move_slice rfl) ?_
  obtain ⟨y6,hy7,h⟩:=bind_some h
  refine ox_y rfl (y_call [.slice A1_0 p1_l.length c1_0] go_72 rfl (fun W2 hW2 => ref02_spots_ok p1_l y6 hy7 W2 A1_0 p1_l.length c1_0 rfl ((RdL.arg hr1_0) W2 hW2)) rfl) ?_
  refine ox_y rfl (y_assign_int rfl) ?_
  refine ox_nil (ex_then (cx_seq (cx_seq (cx_region ?_))))
  refine ox_y rfl (y_move_int rfl) ?_
  refine ox_y rfl (y_neq rfl rfl) ?_
  refine ox_nil (ex_then ?_)
  rcases ite_some h with ⟨hp8,h⟩ | ⟨hp8,h⟩
  ·refine cx_true (congrArg Value.bool hp8) ?_
   refine cx_seq (cx_region ?_)
   refine ox_y rfl (y_move_int rfl) ?_
   refine ox_y rfl (y_assign_int rfl) ?_
   refine ox_nil (ex_then (cx_ret (ex_then_ret ?_)))
   obtain rfl:=Option.some.inj h
   exact ex_res1 (.inl rfl) rfl (resV_tmp (v:=.int .i64 y6) rfl) (fun W2 hW2 => ⟨rfl,hW2.none⟩)
  ·refine cx_false (congrArg Value.bool hp8) ?_
   refine cx_skip (ex_then (cx_seq (cx_region ?_)))
   refine ox_y rfl (y_loadN 1 [.int .i64 p2_at.fFoot,.int .i64 p2_at.fHour] ag_26 rfl rfl rfl) ?_
   obtain ⟨y9,hy10,h⟩:=bind_some h
   refine ox_y rfl (y_call [.agg #[.int .i64 p2_at.fFoot,.int .i64 p2_at.fHour]] go_56 rfl (fun W2 hW2 => ref02_Spot_ok p2_at y9 hy10 W2 ) rfl) ?_
   refine ox_y rfl (y_assign_bool rfl) ?_
   refine ox_nil (ex_then (cx_seq (cx_region ?_)))
   refine ox_y rfl (y_move_int rfl) ?_
   obtain ⟨y11,hy12,h⟩:=bind_some h
   refine ox_y rfl (y_call [.int .i64 p3_need] go_73 rfl (fun W2 hW2 => ref02_Heat_ok p3_need y11 hy12 W2 ) rfl) ?_
   refine ox_y rfl (y_assign_bool rfl) ?_
   refine ox_nil (ex_then (cx_seq (cx_seq (cx_region ?_))))
   refine ox_y rfl (y_move_bool rfl) ?_
   refine ox_y rfl (y_not rfl) ?_
   refine ox_y rfl (y_move_bool rfl) ?_
   refine ox_join 3 (fun tm0 => (upd (upd (upd tm0 4 (.pointer (some ⟨b1,0,none⟩))) 8 (.int .i64 0)) 33 (.bool ((!y9) || (!y11))))) (fun tm0 => ?_) (fun key => ?_)
   ·refine ox_nil (ex_then ?_)
    rcases ite_some h with ⟨hp14,h⟩ | ⟨hp14,h⟩
    ·refine cx_true (congrArg Value.bool hp14) ?_
     refine cx_seq (cx_region ?_)
     refine ox_y rfl (y_assign_int rfl) ?_
     refine ox_nil (ex_then (cx_ret (ex_then_ret ?_)))
     obtain rfl:=Option.some.inj h
     exact ex_res1 (.inl rfl) rfl (resV_tmp (v:=.int .i64 1) rfl) (fun W2 hW2 => ⟨rfl,hW2.none⟩)
    ·refine cx_false (congrArg Value.bool hp14) ?_
     refine cx_skip (ex_then (cx_seq (cx_region ?_)))
     refine ox_y rfl (y_loadN 0 [.int .i64 p0_f.fRise,.int .i64 p0_f.fFall,.int .i64 p0_f.fUp,.int .i64 p0_f.fDown,.slice A0_4 p0_f.fLooks.length c0_4] ag_24 rfl rfl rfl) ?_
     obtain ⟨y15,hy16,h⟩:=bind_some h
     refine ox_y rfl (y_call [.agg #[.int .i64 p0_f.fRise,.int .i64 p0_f.fFall,.int .i64 p0_f.fUp,.int .i64 p0_f.fDown,.slice A0_4 p0_f.fLooks.length c0_4]] go_74 rfl (fun W2 hW2 => ref02_agree_ok p0_f y15 hy16 W2 A0_4 p0_f.fLooks.length c0_4 rfl ((RdL.arg hr0_4) W2 hW2)) rfl) ?_
     refine ox_y rfl (y_assign_bool rfl) ?_
     refine ox_nil (ex_then (cx_seq (cx_seq (cx_region ?_))))
     refine ox_y rfl (y_move_bool rfl) ?_
     refine ox_y rfl (y_not rfl) ?_
     refine ox_nil (ex_then ?_)
     rcases ite_some h with ⟨hp17,h⟩ | ⟨hp17,h⟩
     ·refine cx_true (congrArg Value.bool hp17) ?_
      refine cx_seq (cx_region ?_)
      refine ox_y rfl (y_assign_int rfl) ?_
      refine ox_nil (ex_then (cx_ret (ex_then_ret ?_)))
      obtain rfl:=Option.some.inj h
      exact ex_res1 (.inl rfl) rfl (resV_tmp (v:=.int .i64 9) rfl) (fun W2 hW2 => ⟨rfl,hW2.none⟩)
     ·refine cx_false (congrArg Value.bool hp17) ?_
      refine cx_skip (ex_then (cx_seq (cx_region ?_)))
      refine ox_y rfl (y_assign_int rfl) ?_
      refine ox_nil (ex_then (cx_ret ?_))
      obtain rfl:=Option.some.inj h
      exact ex_res1 (.inl rfl) rfl (resV_tmp (v:=.int .i64 0) rfl) (fun W2 hW2 => ⟨rfl,hW2.none⟩)
   ·rcases bool_cases (!y9) with hp13 | hp13
    ·refine ox_skip (sees_f rfl rfl rfl rfl hp13) ?_
     refine ox_skip (sees_f rfl rfl rfl rfl hp13) ?_
     refine ox_y rfl (y_pick_tb (congrArg Value.bool hp13) rfl) ?_
     exact key _ _ (keep (keep (keep rfl rfl) rfl) (congrArg Value.bool (or_t hp13)))
    ·refine ox_y (sees_t rfl rfl rfl rfl hp13) (y_move_bool rfl) ?_
     refine ox_y (sees_t rfl rfl rfl rfl hp13) (y_not rfl) ?_
     refine ox_y rfl (y_pick_fb (congrArg Value.bool hp13) rfl) ?_
     exact key _ _ (keep (keep (keep rfl rfl) rfl) (congrArg Value.bool (or_f hp13)))

theorem ref02_needed_ok (p0_f:TFire) (p1_look:TSpot) (p2_at:TSpot) (p3_need:Int) (res:Int) (h:ref02_needed p0_f p1_look p2_at p3_need = some res) (W:World) (A0_4:Option Addr) (n0_4 c0_4 : Nat) (hn0_4:n0_4 = p0_f.fLooks.length) (hr0_4:Rd W A0_4 n0_4 c0_4 (encL TLook_cells p0_f.fLooks)) :
  Calls Tryz.prog 60 [.agg #[.int .i64 p0_f.fRise,.int .i64 p0_f.fFall,.int .i64 p0_f.fUp,.int .i64 p0_f.fDown,.slice A0_4 n0_4 c0_4],.agg #[.int .i64 p1_look.fFoot,.int .i64 p1_look.fHour],.agg #[.int .i64 p2_at.fFoot,.int .i64 p2_at.fHour],.int .i64 p3_need].toArray W fun e W2 => e = .returned (.int .i64 res) ∧ Ext W W2 []:=by
 subst hn0_4
 unfold ref02_needed at h
 refine calls_enter (m:=36) Tryz.func60 rfl rfl (Nat.le_of_ble_eq_true rfl) ?_
 refine cx_seq (cx_region ?_)
 refine ox_box [.int .i64 p0_f.fRise,.int .i64 p0_f.fFall,.int .i64 p0_f.fUp,.int .i64 p0_f.fDown,.slice A0_4 p0_f.fLooks.length c0_4] rfl rfl rfl (fun b1 => ?_)
 refine ox_box [.int .i64 p1_look.fFoot,.int .i64 p1_look.fHour] rfl rfl rfl (fun b2 => ?_)
 refine ox_box [.int .i64 p2_at.fFoot,.int .i64 p2_at.fHour] rfl rfl rfl (fun b3 => ?_)
 refine ox_y rfl (y_assign_int rfl) ?_
 refine ox_nil (ex_then (cx_seq (cx_region ?_)))
 refine ox_y rfl (y_loadN 0 [.int .i64 p0_f.fRise,.int .i64 p0_f.fFall,.int .i64 p0_f.fUp,.int .i64 p0_f.fDown,.slice A0_4 p0_f.fLooks.length c0_4] ag_24 rfl rfl rfl) ?_
 refine ox_y rfl (y_loadN 1 [.int .i64 p1_look.fFoot,.int .i64 p1_look.fHour] ag_26 rfl rfl rfl) ?_
 obtain ⟨y4,hy5,h⟩:=bind_some h
 refine ox_y rfl (y_call [.agg #[.int .i64 p0_f.fRise,.int .i64 p0_f.fFall,.int .i64 p0_f.fUp,.int .i64 p0_f.fDown,.slice A0_4 p0_f.fLooks.length c0_4],.agg #[.int .i64 p1_look.fFoot,.int .i64 p1_look.fHour]] go_45 rfl (fun W2 hW2 => ref02_ends_ok p0_f p1_look y4 hy5 W2 A0_4 p0_f.fLooks.length c0_4 rfl ((RdL.arg hr0_4) W2 hW2)) rfl) ?_
 refine ox_alloc ze_28 rfl (fun b6 => ?_)
 refine ox_n rfl (y_storeN 3 [.int .i64 y4.fLo,.int .i64 y4.fHi] sz_28 rfl (Nat.le_of_ble_eq_true rfl) rfl rfl rfl) ?_
 refine ox_nil (ex_then (cx_seq (cx_seq (cx_region ?_))))
 refine ox_y rfl (y_loadN 0 [.int .i64 p0_f.fRise,.int .i64 p0_f.fFall,.int .i64 p0_f.fUp,.int .i64 p0_f.fDown,.slice A0_4 p0_f.fLooks.length c0_4] ag_24 rfl rfl rfl) ?_
 refine ox_y rfl (y_loadN 2 [.int .i64 p2_at.fFoot,.int .i64 p2_at.fHour] ag_26 rfl rfl rfl) ?_
 obtain ⟨y7,hy8,h⟩:=bind_some h
 refine ox_y rfl (y_call [.agg #[.int .i64 p0_f.fRise,.int .i64 p0_f.fFall,.int .i64 p0_f.fUp,.int .i64 p0_f.fDown,.slice A0_4 p0_f.fLooks.length c0_4],.agg #[.int .i64 p2_at.fFoot,.int .i64 p2_at.fHour]] go_45 rfl (fun W2 hW2 => ref02_ends_ok p0_f p2_at y7 hy8 W2 A0_4 p0_f.fLooks.length c0_4 rfl ((RdL.arg hr0_4) W2 hW2)) rfl) ?_
 refine ox_y rfl (y_field1 [.int .i64 y7.fLo,.int .i64 y7.fHi] (v:=.int .i64 y7.fLo) fd_28_0 sc_3 rfl rfl) ?_
 refine ox_y rfl (y_move_int rfl) ?_
 refine ox_y rfl (y_geq rfl rfl) ?_
 refine ox_nil (ex_then ?_)
 rcases ite_some h with ⟨hp9,h⟩ | ⟨hp9,h⟩
 ·refine cx_true (congrArg Value.bool hp9) ?_
  refine cx_seq (cx_region ?_)
  refine ox_y rfl (y_fieldAddr fo_28_0 rfl) ?_
  refine ox_y rfl (y_load1 3 (v:=.int .i64 y4.fLo) sc_3 rfl rfl rfl) ?_
  refine ox_y rfl (y_assign_int rfl) ?_
  refine ox_nil (ex_then (cx_ret (ex_then_ret ?_)))
  obtain rfl:=Option.some.inj h
  exact ex_res1 (.inl rfl) rfl (resV_tmp (v:=.int .i64 y4.fLo) rfl) (fun W2 hW2 => ⟨rfl,hW2.none⟩)
 ·refine cx_false (congrArg Value.bool hp9) ?_
  refine cx_skip (ex_then (cx_seq ?_))
  refine cx_draws 10 mixed (by kernel_rfl) (by kernel_rfl) ?_
  refine qx_y rfl (y_fieldAddr fo_28_0 rfl) ?_
  refine qx_y rfl (y_load1 3 (v:=.int .i64 y4.fLo) sc_3 rfl rfl rfl) ?_
  refine qx_y rfl (y_move_int rfl) ?_
  refine qx_y rfl (y_loadN 0 [.int .i64 p0_f.fRise,.int .i64 p0_f.fFall,.int .i64 p0_f.fUp,.int .i64 p0_f.fDown,.slice A0_4 p0_f.fLooks.length c0_4] ag_24 rfl rfl rfl) ?_
  refine qx_y rfl (y_loadN 2 [.int .i64 p2_at.fFoot,.int .i64 p2_at.fHour] ag_26 rfl rfl rfl) ?_
  refine qx_y rfl (y_loadN 1 [.int .i64 p1_look.fFoot,.int .i64 p1_look.fHour] ag_26 rfl rfl rfl) ?_
  obtain ⟨y10,hy11,h⟩:=bind_some h
  refine qx_y rfl (y_call [.agg #[.int .i64 p0_f.fRise,.int .i64 p0_f.fFall,.int .i64 p0_f.fUp,.int .i64 p0_f.fDown,.slice A0_4 p0_f.fLooks.length c0_4],.agg #[.int .i64 p2_at.fFoot,.int .i64 p2_at.fHour],.agg #[.int .i64 p1_look.fFoot,.int .i64 p1_look.fHour]] go_64 rfl (fun W2 hW2 => ref02_far_ok p0_f p2_at p1_look y10 hy11 W2 A0_4 p0_f.fLooks.length c0_4 rfl ((RdL.arg hr0_4) W2 hW2)) rfl) ?_
  refine qx_y rfl (y_add rfl rfl) ?_
  refine qx_y rfl (y_max rfl rfl) ?_
  refine qx_y rfl (y_assign_int rfl) ?_
  refine qx_nil ?_
  refine ox_nil (ex_then (cx_seq (cx_seq (cx_region ?_))))
  refine ox_y rfl (y_move_int rfl) ?_
  refine ox_y rfl (y_fieldAddr fo_28_1 rfl) ?_
  refine ox_y rfl (y_load1 3 (v:=.int .i64 y4.fHi) sc_3 rfl rfl rfl) ?_
  refine ox_y rfl (y_gtr rfl rfl) ?_
  refine ox_nil (ex_then ?_)
  rcases ite_some h with ⟨hp12,h⟩ | ⟨hp12,h⟩
  ·refine cx_true (congrArg Value.bool hp12) ?_
   refine cx_seq (cx_region ?_)
   refine ox_y rfl (y_assign_int rfl) ?_
   refine ox_nil (ex_then (cx_ret (ex_then_ret ?_)))
   obtain rfl:=Option.some.inj h
   exact ex_res1 (.inl rfl) rfl (resV_tmp (v:=.int .i64 (-1)) rfl) (fun W2 hW2 => ⟨rfl,hW2.none⟩)
  ·refine cx_false (congrArg Value.bool hp12) ?_
   refine cx_skip (ex_then (cx_seq (cx_region ?_)))
   refine ox_y rfl (y_move_int rfl) ?_
   refine ox_y rfl (y_assign_int rfl) ?_
   refine ox_nil (ex_then (cx_ret ?_))
   obtain rfl:=Option.some.inj h
   exact ex_res1 (.inl rfl) rfl (resV_tmp (v:=.int .i64 (max y4.fLo (w64 (p3_need + y10)))) rfl) (fun W2 hW2 => ⟨rfl,hW2.none⟩)

theorem ref02_Needed_ok (p0_f:TFire) (p1_look:TSpot) (p2_at:TSpot) (p3_need:Int) (res:TNeeds) (h:ref02_Needed p0_f p1_look p2_at p3_need = some res) (W:World) (A0_4:Option Addr) (n0_4 c0_4 : Nat) (hn0_4:n0_4 = p0_f.fLooks.length) (hr0_4:Rd W A0_4 n0_4 c0_4 (encL TLook_cells p0_f.fLooks)) :
  Calls Tryz.prog 19 [.agg #[.int .i64 p0_f.fRise,.int .i64 p0_f.fFall,.int .i64 p0_f.fUp,.int .i64 p0_f.fDown,.slice A0_4 n0_4 c0_4],.agg #[.int .i64 p1_look.fFoot,.int .i64 p1_look.fHour],.agg #[.int .i64 p2_at.fFoot,.int .i64 p2_at.fHour],.int .i64 p3_need].toArray W fun e W2 => e = .returned (.agg #[.int .i64 res.fN,.bool res.fIs,.int .i64 res.fE]) ∧ Ext W W2 []:=by
 subst hn0_4
 unfold ref02_Needed at h
 refine calls_enter (m:=31) Tryz.func19 rfl rfl (Nat.le_of_ble_eq_true rfl) ?_
 refine cx_seq (cx_region ?_)
 refine ox_box [.int .i64 p0_f.fRise,.int .i64 p0_f.fFall,.int .i64 p0_f.fUp,.int .i64 p0_f.fDown,.slice A0_4 p0_f.fLooks.length c0_4] rfl rfl rfl (fun b1 => ?_)
 refine ox_box [.int .i64 p1_look.fFoot,.int .i64 p1_look.fHour] rfl rfl rfl (fun b2 => ?_)
 refine ox_box [.int .i64 p2_at.fFoot,.int .i64 p2_at.fHour] rfl rfl rfl (fun b3 => ?_)
 refine ox_alloc ze_57 rfl (fun b4 => ?_)
 refine ox_nil (ex_then (cx_seq (cx_region ?_)))
 refine ox_y rfl (y_loadN 0 [.int .i64 p0_f.fRise,.int .i64 p0_f.fFall,.int .i64 p0_f.fUp,.int .i64 p0_f.fDown,.slice A0_4 p0_f.fLooks.length c0_4] ag_24 rfl rfl rfl) ?_
 refine ox_y rfl (y_loadN 1 [.int .i64 p1_look.fFoot,.int .i64 p1_look.fHour] ag_26 rfl rfl rfl) ?_
 refine ox_buildSliceE 1 (encL TSpot_cells [p1_look]) _ mc_26_1 us_50 ze_26 by_26 (by decide) (by decide) (by kernel_rfl) (encL_len TSpot_cells_len rfl) rfl (fun b5 => ?_)
 refine ox_y rfl (y_loadN 2 [.int .i64 p2_at.fFoot,.int .i64 p2_at.fHour] ag_26 rfl rfl rfl) ?_
 refine ox_y rfl (y_move_int rfl) ?_
 obtain ⟨y6,hy7,h⟩:=bind_some h
 refine ox_y rfl (y_call [.agg #[.int .i64 p0_f.fRise,.int .i64 p0_f.fFall,.int .i64 p0_f.fUp,.int .i64 p0_f.fDown,.slice A0_4 p0_f.fLooks.length c0_4],.slice (some ⟨b5,0,none⟩) 1 1,.agg #[.int .i64 p2_at.fFoot,.int .i64 p2_at.fHour],.int .i64 p3_need] go_59 rfl (fun W2 hW2 => ref02_hot_ok p0_f [p1_look] p2_at p3_need y6 hy7 W2 A0_4 p0_f.fLooks.length c0_4 rfl ((RdL.arg hr0_4) W2 hW2) (some ⟨b5,0,none⟩) 1 1 rfl ((RdL.row 4 rfl) W2 hW2)) rfl) ?_
 refine ox_y rfl (y_assign_int rfl) ?_
 refine ox_nil (ex_then (cx_seq (cx_seq (cx_region ?_))))
 refine ox_y rfl (y_move_int rfl) ?_
 refine ox_y rfl (y_neq rfl rfl) ?_
 refine ox_nil (ex_then ?_)
 rcases ite_some h with ⟨hp8,h⟩ | ⟨hp8,h⟩
 ·refine cx_true (congrArg Value.bool hp8) ?_
  refine cx_seq (cx_region ?_)
  refine ox_y rfl (y_move_int rfl) ?_
  refine ox_y rfl (y_buildS [.int .i64 0,.bool false,.int .i64 y6] [(0,1),(1,1),(2,1)] ust_57 ze_57 (by kernel_rfl)) ?_
  refine ox_n rfl (y_storeN 3 [.int .i64 0,.bool false,.int .i64 y6] sz_57 rfl (Nat.le_of_ble_eq_true rfl) rfl rfl rfl) ?_
  refine ox_nil (ex_then (cx_ret (ex_then_ret ?_)))
  obtain rfl:=Option.some.inj h
  exact ex_res1 (.inl rfl) rfl (resV_cellN 3 [.int .i64 0,.bool false,.int .i64 y6] ag_57 rfl rfl rfl) (fun W2 hW2 => ⟨rfl,hW2.none⟩)
 ·refine cx_false (congrArg Value.bool hp8) ?_
  refine cx_skip (ex_then (cx_seq (cx_region ?_)))
  refine ox_y rfl (y_loadN 0 [.int .i64 p0_f.fRise,.int .i64 p0_f.fFall,.int .i64 p0_f.fUp,.int .i64 p0_f.fDown,.slice A0_4 p0_f.fLooks.length c0_4] ag_24 rfl rfl rfl) ?_
  refine ox_y rfl (y_loadN 1 [.int .i64 p1_look.fFoot,.int .i64 p1_look.fHour] ag_26 rfl rfl rfl) ?_
  refine ox_y rfl (y_loadN 2 [.int .i64 p2_at.fFoot,.int .i64 p2_at.fHour] ag_26 rfl rfl rfl) ?_
  refine ox_y rfl (y_move_int rfl) ?_
  obtain ⟨y9,hy10,h⟩:=bind_some h
  refine ox_y rfl (y_call [.agg #[.int .i64 p0_f.fRise,.int .i64 p0_f.fFall,.int .i64 p0_f.fUp,.int .i64 p0_f.fDown,.slice A0_4 p0_f.fLooks.length c0_4],.agg #[.int .i64 p1_look.fFoot,.int .i64 p1_look.fHour],.agg #[.int .i64 p2_at.fFoot,.int .i64 p2_at.fHour],.int .i64 p3_need] go_60 rfl (fun W2 hW2 => ref02_needed_ok p0_f p1_look p2_at p3_need y9 hy10 W2 A0_4 p0_f.fLooks.length c0_4 rfl ((RdL.arg hr0_4) W2 hW2)) rfl) ?_
  refine ox_y rfl (y_assign_int rfl) ?_
  refine ox_nil (ex_then (cx_seq (cx_seq (cx_region ?_))))
  refine ox_y rfl (y_move_int rfl) ?_
  refine ox_y rfl (y_lss rfl rfl) ?_
  refine ox_nil (ex_then ?_)
  rcases ite_some h with ⟨hp11,h⟩ | ⟨hp11,h⟩
  ·refine cx_true (congrArg Value.bool hp11) ?_
   refine cx_seq (cx_region ?_)
   refine ox_y rfl (y_buildS [.int .i64 0,.bool false,.int .i64 0] [(0,1),(1,1),(2,1)] ust_57 ze_57 (by kernel_rfl)) ?_
   refine ox_n rfl (y_storeN 3 [.int .i64 0,.bool false,.int .i64 0] sz_57 rfl (Nat.le_of_ble_eq_true rfl) rfl rfl rfl) ?_
   refine ox_nil (ex_then (cx_ret (ex_then_ret ?_)))
   obtain rfl:=Option.some.inj h
   exact ex_res1 (.inl rfl) rfl (resV_cellN 3 [.int .i64 0,.bool false,.int .i64 0] ag_57 rfl rfl rfl) (fun W2 hW2 => ⟨rfl,hW2.none⟩)
  ·refine cx_false (congrArg Value.bool hp11) ?_
   refine cx_skip (ex_then (cx_seq (cx_region ?_)))
   refine ox_y rfl (y_move_int rfl) ?_
   refine ox_y rfl (y_buildS [.int .i64 y9,.bool true,.int .i64 0] [(0,1),(1,1),(2,1)] ust_57 ze_57 (by kernel_rfl)) ?_
   refine ox_n rfl (y_storeN 3 [.int .i64 y9,.bool true,.int .i64 0] sz_57 rfl (Nat.le_of_ble_eq_true rfl) rfl rfl rfl) ?_
   refine ox_nil (ex_then (cx_ret ?_))
   obtain rfl:=Option.some.inj h
   exact ex_res1 (.inl rfl) rfl (resV_cellN 3 [.int .i64 y9,.bool true,.int .i64 0] ag_57 rfl rfl rfl) (fun W2 hW2 => ⟨rfl,hW2.none⟩)

theorem fire_Decides_ok (p0:TFire) (p1:(List TSpot)) (p2:TSpot) (p3:Int) (res:((List Int) × Int)) (h:fire_Decides p0 p1 p2 p3 = some res) (W:World) (A0_4:Option Addr) (n0_4 c0_4 : Nat) (hn0_4:n0_4 = p0.fLooks.length) (hr0_4:Rd W A0_4 n0_4 c0_4 (encL TLook_cells p0.fLooks)) (A1_0:Option Addr) (n1_0 c1_0 : Nat) (hn1_0:n1_0 = p1.length) (hr1_0:Rd W A1_0 n1_0 c1_0 (encL TSpot_cells p1)) :
  Calls Tryz.prog 20 [.agg #[.int .i64 p0.fRise,.int .i64 p0.fFall,.int .i64 p0.fUp,.int .i64 p0.fDown,.slice A0_4 n0_4 c0_4],.slice A1_0 n1_0 c1_0,.agg #[.int .i64 p2.fFoot,.int .i64 p2.fHour],.int .i64 p3].toArray W fun e W2 => ∃ x : Option Addr × Nat × Nat,x.2.1 = res.1.length ∧ e = .returned (.tuple #[.slice x.1 x.2.1 x.2.2,.int .i64 res.2]) ∧ Ext W W2 [rowR x.1 x.2.2 3 1 x.2.1 (encL cI res.1)]:=by
 subst hn0_4
 subst hn1_0
 unfold fire_Decides at h
 refine calls_enter (m:=86) Tryz.func20 rfl rfl (Nat.le_of_ble_eq_true rfl) ?_
 refine cx_seq (cx_region ?_)
 refine ox_box [.int .i64 p0.fRise,.int .i64 p0.fFall,.int .i64 p0.fUp,.int .i64 p0.fDown,.slice A0_4 p0.fLooks.length c0_4] rfl rfl rfl (fun b1 => ?_)
 refine ox_box [.int .i64 p2.fFoot,.int .i64 p2.fHour] rfl rfl rfl (fun b2 => ?_)
 refine ox_y rfl (y_assign_slice rfl) ?_
 refine ox_y rfl (y_assign_int rfl) ?_
 refine ox_nil (ex_then (cx_seq (cx_region ?_)))
 refine ox_y rfl (y_loadN 0 [.int .i64 p0.fRise,.int .i64 p0.fFall,.int .i64 p0.fUp,.int .i64 p0.fDown,.slice A0_4 p0.fLooks.length c0_4] ag_24 rfl rfl rfl) ?_
 refine ox_y rfl (y_move_slice rfl) ?_
 obtain ⟨y3,hy4,h⟩:=bind_some h
 refine ox_y rfl (y_call [.agg #[.int .i64 p0.fRise,.int .i64 p0.fFall,.int .i64 p0.fUp,.int .i64 p0.fDown,.slice A0_4 p0.fLooks.length c0_4],.slice A1_0 p1.length c1_0] go_61 rfl (fun W2 hW2 => fire_listed_ok p0 p1 y3 hy4 W2 A0_4 p0.fLooks.length c0_4 rfl ((RdL.arg hr0_4) W2 hW2) A1_0 p1.length c1_0 rfl ((RdL.arg hr1_0) W2 hW2)) rfl) ?_
 refine ox_y rfl (y_assign_int rfl) ?_
 refine ox_nil (ex_then (cx_seq (cx_seq (cx_region ?_))))
 refine ox_y rfl (y_move_int rfl) ?_
 refine ox_y rfl (y_eql rfl rfl) ?_
 refine ox_y rfl (y_move_bool rfl) ?_
 obtain ⟨b6,hb7,h⟩:=bind_some h
 refine ox_join 9 (fun tm0 => (upd (upd (upd (upd (upd (upd (upd (upd tm0 1 (.slice A1_0 p1.length c1_0)) 3 (.int .i64 p3)) 4 (.pointer (some ⟨b1,0,none⟩))) 6 (.pointer (some ⟨b2,0,none⟩))) 8 (.slice none 0 0)) 9 (.int .i64 0)) 10 (.int .i64 y3)) 31 (.bool b6))) (fun tm0 => ?_) (fun key => ?_)
 ·refine ox_nil (ex_then ?_)
  rcases ite_some h with ⟨hp8,h⟩ | ⟨hp8,h⟩
  ·refine cx_true (congrArg Value.bool hp8) ?_
   refine cx_region ?_
   refine ox_y rfl (y_assign_int rfl) ?_
   refine ox_nil (ex_then (cx_seq (cx_seq (cx_region ?_))))
   refine ox_y rfl (y_loadN 0 [.int .i64 p0.fRise,.int .i64 p0.fFall,.int .i64 p0.fUp,.int .i64 p0.fDown,.slice A0_4 p0.fLooks.length c0_4] ag_24 rfl rfl rfl) ?_
   refine ox_y rfl (y_move_int rfl) ?_
   obtain ⟨y9,hy10,h⟩:=bind_some h
   refine ox_y rfl (y_call [.agg #[.int .i64 p0.fRise,.int .i64 p0.fFall,.int .i64 p0.fUp,.int .i64 p0.fDown,.slice A0_4 p0.fLooks.length c0_4],.int .i64 1] go_37 rfl (fun W2 hW2 => fire_agreed_ok p0 1 y9 hy10 W2 A0_4 p0.fLooks.length c0_4 rfl ((RdL.arg hr0_4) W2 hW2)) rfl) ?_
   refine ox_y rfl (y_assign_int rfl) ?_
   refine ox_nil (ex_then (cx_seq (cx_region ?_)))
   refine ox_y rfl (y_move_int rfl) ?_
   refine ox_y rfl (y_neq rfl rfl) ?_
   refine ox_nil (ex_then ?_)
   rcases ite_some h with ⟨hp11,h⟩ | ⟨hp11,h⟩
   ·refine cx_true (congrArg Value.bool hp11) ?_
    refine cx_seq (cx_region ?_)
    refine ox_y rfl (y_move_int rfl) ?_
    refine ox_y rfl (y_assign_slice rfl) ?_
    refine ox_y rfl (y_assign_int rfl) ?_
    refine ox_nil (ex_then (cx_ret (ex_then_ret ?_)))
    obtain rfl:=Option.some.inj h
    exact ex_res2 (.inl rfl) rfl (resV_tmp (v:=.slice none 0 0) rfl) (resV_tmp (v:=.int .i64 y9) rfl) (fun W2 hW2 => ⟨(none,0,0),rfl,rfl,((hW2.nilrow 3 1).pick 2 rfl)⟩)
   ·refine cx_false (congrArg Value.bool hp11) ?_
    refine cx_skip (ex_then (cx_seq (cx_region ?_)))
    refine ox_y rfl (y_assign_slice rfl) ?_
    refine ox_nil (ex_then (cx_seq (cx_seq (cx_region ?_))))
    refine ox_y rfl (y_move_slice rfl) ?_
    refine ox_y rfl (y_len (us:=[]) us_50 rfl) ?_
    refine ox_y rfl (y_move_int rfl) ?_
    refine ox_nil (ex_then (cx_block ?_))
    obtain ⟨u15,hl36,h⟩:=bind_some h
    refine cx_nilrow 3 1 ?_
    refine cx_loop (fun (s:(Int × (List Int))) L tm => ∃ (tm0:Nat → Value) (A2_s:Option Addr) (c2_s:Nat) (n2_s:Nat),n2_s = s.2.length ∧ L = [cellsR b1 24 [.int .i64 p0.fRise,.int .i64 p0.fFall,.int .i64 p0.fUp,.int .i64 p0.fDown,.slice A0_4 p0.fLooks.length c0_4],cellsR b2 26 [.int .i64 p2.fFoot,.int .i64 p2.fHour],rowR A2_s c2_s 3 1 n2_s (encL cI s.2)] ∧ tm = (upd (upd (upd (upd (upd (upd (upd (upd (upd (upd (upd (upd (upd tm0 1 (.slice A1_0 p1.length c1_0)) 3 (.int .i64 p3)) 4 (.pointer (some ⟨b1,0,none⟩))) 6 (.pointer (some ⟨b2,0,none⟩))) 8 (.slice none 0 0)) 9 (.int .i64 0)) 10 (.int .i64 y9)) 31 (.bool b6)) 36 (.bool (y9 != 0))) 11 (.slice A2_s n2_s c2_s)) 38 (.slice A1_0 p1.length c1_0)) 39 (.int .i64 (p1.length:Int))) 40 (.int .i64 s.1))) (fun s e L tm => e = .exit 0 ∧ ∃ (tm0:Nat → Value) (A2_s:Option Addr) (c2_s:Nat) (n2_s:Nat),n2_s = s.2.length ∧ L = [cellsR b1 24 [.int .i64 p0.fRise,.int .i64 p0.fFall,.int .i64 p0.fUp,.int .i64 p0.fDown,.slice A0_4 p0.fLooks.length c0_4],cellsR b2 26 [.int .i64 p2.fFoot,.int .i64 p2.fHour],rowR A2_s c2_s 3 1 n2_s (encL cI s.2)] ∧ tm = (upd (upd (upd (upd (upd (upd (upd (upd (upd (upd (upd (upd (upd tm0 1 (.slice A1_0 p1.length c1_0)) 3 (.int .i64 p3)) 4 (.pointer (some ⟨b1,0,none⟩))) 6 (.pointer (some ⟨b2,0,none⟩))) 8 (.slice none 0 0)) 9 (.int .i64 0)) 10 (.int .i64 y9)) 31 (.bool b6)) 36 (.bool (y9 != 0))) 11 (.slice A2_s n2_s c2_s)) 38 (.slice A1_0 p1.length c1_0)) 39 (.int .i64 (p1.length:Int))) 40 (.int .i64 s.1))) hl36 ⟨_,none,0,0,rfl,rfl,(keep (keep (keep (keep (keep (keep (keep (keep (keep (keep (keep (keep (keep rfl rfl) rfl) rfl) rfl) rfl) rfl) rfl) rfl) rfl) rfl) rfl) rfl) rfl)⟩ ?_ ?_
    ·rintro s14 L tm st ⟨tm0_s14,A2_s14,c2_s14,n2_s14,rfl,rfl,rfl⟩ h
     unfold fire_Decides_l1 at h
     refine cx_seq (cx_region ?_)
     refine ox_y rfl (y_lss rfl rfl) ?_
     refine ox_nil (ex_then (cx_seq ?_))
     rcases ite_some h with ⟨hp16,h⟩ | ⟨hp16,h⟩
     ·refine cx_true (congrArg Value.bool hp16) ?_
      refine cx_skip (ex_then (cx_seq (cx_block (cx_seq (cx_region ?_)))))
      refine ox_y rfl (y_move_int rfl) ?_
      obtain ⟨hg17,h⟩:=guardO_some h
      refine ox_y rfl (y_indexR sl_50 (by decide) hg17.1 hg17.2 (RdL.arg hr1_0) (encL_len TSpot_cells_len rfl) rfl rfl) ?_
      refine ox_y rfl (y_loadRN (A:=A1_0) (j:=(Int.toNat s14.1 * 2)) [.int .i64 ((rdL p1 s14.1).fFoot),.int .i64 ((rdL p1 s14.1).fHour)] ag_26 (Nat.succ_pos _) (RdL.arg hr1_0) rfl (encL_gets TSpot_cells_len hg17.1 (lt_nat hg17.2 rfl))) ?_
      refine ox_alloc ze_26 rfl (fun b18 => ?_)
      refine ox_y rfl (y_assign_int rfl) ?_
      refine ox_n rfl (y_storeN 3 [.int .i64 ((rdL p1 s14.1).fFoot),.int .i64 ((rdL p1 s14.1).fHour)] sz_26 rfl (Nat.le_of_ble_eq_true rfl) rfl rfl rfl) ?_
      refine ox_nil (ex_then (cx_seq (cx_region ?_)))
      refine ox_y rfl (y_loadN 0 [.int .i64 p0.fRise,.int .i64 p0.fFall,.int .i64 p0.fUp,.int .i64 p0.fDown,.slice A0_4 p0.fLooks.length c0_4] ag_24 rfl rfl rfl) ?_
      refine ox_y rfl (y_loadN 3 [.int .i64 ((rdL p1 s14.1).fFoot),.int .i64 ((rdL p1 s14.1).fHour)] ag_26 rfl rfl rfl) ?_
      obtain ⟨y19,hy20,h⟩:=bind_some h
      refine ox_y rfl (y_call [.agg #[.int .i64 p0.fRise,.int .i64 p0.fFall,.int .i64 p0.fUp,.int .i64 p0.fDown,.slice A0_4 p0.fLooks.length c0_4],.agg #[.int .i64 ((rdL p1 s14.1).fFoot),.int .i64 ((rdL p1 s14.1).fHour)]] go_39 rfl (fun W2 hW2 => fire_ends_ok p0 (TSpot.mk ((rdL p1 s14.1).fFoot) ((rdL p1 s14.1).fHour)) y19 hy20 W2 A0_4 p0.fLooks.length c0_4 rfl ((RdL.arg hr0_4) W2 hW2)) rfl) ?_
      refine ox_y rfl (y_fieldN [.int .i64 y19.fSpan.fLo,.int .i64 y19.fSpan.fHi,.int .i64 y19.fLow,.int .i64 y19.fHigh] [.int .i64 y19.fSpan.fLo,.int .i64 y19.fSpan.fHi] fd_30_0 ag_28 rfl rfl) ?_
      refine ox_y rfl (y_field1 [.int .i64 y19.fSpan.fLo,.int .i64 y19.fSpan.fHi] (v:=.int .i64 y19.fSpan.fLo) fd_28_0 sc_3 rfl rfl) ?_
      refine ox_y rfl (y_assign_int rfl) ?_
      refine ox_nil (ex_then (cx_seq (cx_region ?_)))
      refine ox_y rfl (y_loadN 0 [.int .i64 p0.fRise,.int .i64 p0.fFall,.int .i64 p0.fUp,.int .i64 p0.fDown,.slice A0_4 p0.fLooks.length c0_4] ag_24 rfl rfl rfl) ?_
      refine ox_y rfl (y_loadN 3 [.int .i64 ((rdL p1 s14.1).fFoot),.int .i64 ((rdL p1 s14.1).fHour)] ag_26 rfl rfl rfl) ?_
      refine ox_y rfl (y_loadN 1 [.int .i64 p2.fFoot,.int .i64 p2.fHour] ag_26 rfl rfl rfl) ?_
      refine ox_y rfl (y_move_int rfl) ?_
      obtain ⟨y21,hy22,h⟩:=bind_some h
      refine ox_y rfl (y_call [.agg #[.int .i64 p0.fRise,.int .i64 p0.fFall,.int .i64 p0.fUp,.int .i64 p0.fDown,.slice A0_4 p0.fLooks.length c0_4],.agg #[.int .i64 ((rdL p1 s14.1).fFoot),.int .i64 ((rdL p1 s14.1).fHour)],.agg #[.int .i64 p2.fFoot,.int .i64 p2.fHour],.int .i64 p3] go_58 rfl (fun W2 hW2 => fire_needed_ok p0 (TSpot.mk ((rdL p1 s14.1).fFoot) ((rdL p1 s14.1).fHour)) p2 p3 y21 hy22 W2 A0_4 p0.fLooks.length c0_4 rfl ((RdL.arg hr0_4) W2 hW2)) rfl) ?_
      refine ox_y rfl (y_move_tuple rfl) ?_
      refine ox_y rfl (y_extract (vs:=[.int .i64 y21.1,.bool y21.2]) (v:=.int .i64 y21.1) rfl rfl) ?_
      refine ox_y rfl (y_extract (vs:=[.int .i64 y21.1,.bool y21.2]) (v:=.bool y21.2) rfl rfl) ?_
      refine ox_y rfl (y_assign_int rfl) ?_
      refine ox_y rfl (y_assign_bool rfl) ?_
      refine ox_nil (ex_then (cx_seq ?_))
      refine cx_draws 22 mixed (by kernel_rfl) (by kernel_rfl) ?_
      refine qx_y rfl (y_move_bool rfl) ?_
      refine qx_y rfl (y_move_bool rfl) ?_
      refine qx_join 4 (fun tm0 => (upd (upd (upd (upd (upd (upd (upd (upd (upd (upd (upd (upd (upd (upd (upd (upd (upd (upd (upd (upd tm0 1 (.slice A1_0 p1.length c1_0)) 3 (.int .i64 p3)) 4 (.pointer (some ⟨b1,0,none⟩))) 6 (.pointer (some ⟨b2,0,none⟩))) 8 (.slice none 0 0)) 9 (.int .i64 0)) 10 (.int .i64 y9)) 31 (.bool b6)) 36 (.bool (y9 != 0))) 11 (.slice A2_s14 s14.2.length c2_s14)) 38 (.slice A1_0 p1.length c1_0)) 39 (.int .i64 (p1.length:Int))) 40 (.int .i64 s14.1)) 41 (.bool (decide (s14.1 < (p1.length:Int))))) 13 (.pointer (some ⟨b18,0,none⟩))) 12 (.int .i64 s14.1)) 14 (.int .i64 y19.fSpan.fLo)) 15 (.int .i64 y21.1)) 16 (.bool y21.2)) 63 (.bool (y21.2 && (decide (y19.fSpan.fLo < y21.1)))))) (fun tm0 => ?_) (fun key => ?_)
      ·refine qx_y rfl (y_move_bool rfl) ?_
       obtain ⟨b25,hb26,h⟩:=bind_some h
       refine qx_join 15 (fun tm0 => (upd (upd (upd (upd (upd (upd (upd (upd (upd (upd (upd (upd (upd (upd (upd (upd (upd (upd (upd (upd tm0 1 (.slice A1_0 p1.length c1_0)) 3 (.int .i64 p3)) 4 (.pointer (some ⟨b1,0,none⟩))) 6 (.pointer (some ⟨b2,0,none⟩))) 8 (.slice none 0 0)) 9 (.int .i64 0)) 10 (.int .i64 y9)) 31 (.bool b6)) 36 (.bool (y9 != 0))) 11 (.slice A2_s14 s14.2.length c2_s14)) 38 (.slice A1_0 p1.length c1_0)) 39 (.int .i64 (p1.length:Int))) 40 (.int .i64 s14.1)) 41 (.bool (decide (s14.1 < (p1.length:Int))))) 13 (.pointer (some ⟨b18,0,none⟩))) 12 (.int .i64 s14.1)) 14 (.int .i64 y19.fSpan.fLo)) 15 (.int .i64 y21.1)) 16 (.bool y21.2)) 79 (.bool b25))) (fun tm0 => ?_) (fun key => ?_)
       ·refine qx_nil ?_
        refine ox_nil (ex_then ?_)
        rcases ite_some h with ⟨hp27,h⟩ | ⟨hp27,h⟩
        ·refine cx_true (congrArg Value.bool hp27) ?_
         refine cx_region ?_
         refine ox_y rfl (y_move_slice rfl) ?_
         refine ox_y rfl (y_move_int rfl) ?_
         refine ox_buildSliceE 1 (encL cI [s14.1]) _ mc_3_1 us_39 ze_3 by_3 (by decide) (by decide) (by kernel_rfl) (encL_len cI_len rfl) rfl (fun b28 => ?_)
         obtain ⟨hg31,h⟩:=guardO_some h
         refine ox_append0 2 us_39 ze_3 by_3 rfl rfl rfl (RdL.row 4 rfl) (encL_len cI_len rfl) (encL_one cI_one _) (app_room hg31 (by decide)) rfl (fun A29 c30 => ?_)
         refine ox_y rfl (y_assign_slice rfl) ?_
         refine ox_nil ?_
         refine ex_block ?_
         refine ex_then (cx_region ?_)
         refine ox_y rfl (y_add rfl rfl) ?_
         refine ox_y rfl (y_move_int rfl) ?_
         refine ox_nil ?_
         refine ex_take 3 ?_
         obtain rfl:=Option.some.inj h
         exact ex_next ⟨_,A29,c30,(s14.2.length + 1),(hn_app rfl rfl),rfl,(keep (keep (keep (keep (keep (keep (keep (keep (keep (keep (keep (keep (keep rfl rfl) rfl) rfl) rfl) rfl) rfl) rfl) rfl) rfl) rfl) rfl) rfl) rfl)⟩
        ·refine cx_false (congrArg Value.bool hp27) ?_
         refine cx_skip ?_
         refine ex_block ?_
         refine ex_then (cx_region ?_)
         refine ox_y rfl (y_add rfl rfl) ?_
         refine ox_y rfl (y_move_int rfl) ?_
         refine ox_nil ?_
         refine ex_take 3 ?_
         obtain rfl:=Option.some.inj h
         exact ex_next ⟨_,A2_s14,c2_s14,s14.2.length,rfl,rfl,(keep (keep (keep (keep (keep (keep (keep (keep (keep (keep (keep (keep (keep rfl rfl) rfl) rfl) rfl) rfl) rfl) rfl) rfl) rfl) rfl) rfl) rfl) rfl)⟩
       ·clear h; rcases ite_some hb26 with ⟨hp24,h⟩ | ⟨hp24,h⟩
        ·refine qx_y (sees_t rfl rfl rfl rfl hp24) (y_loadN 0 [.int .i64 p0.fRise,.int .i64 p0.fFall,.int .i64 p0.fUp,.int .i64 p0.fDown,.slice A0_4 p0.fLooks.length c0_4] ag_24 rfl rfl rfl) ?_
         refine qx_y (sees_t rfl rfl rfl rfl hp24) (y_loadN 1 [.int .i64 p2.fFoot,.int .i64 p2.fHour] ag_26 rfl rfl rfl) ?_
         obtain ⟨y32,hy33,h⟩:=bind_some h
         refine qx_y (sees_t rfl rfl rfl rfl hp24) (y_call [.agg #[.int .i64 p0.fRise,.int .i64 p0.fFall,.int .i64 p0.fUp,.int .i64 p0.fDown,.slice A0_4 p0.fLooks.length c0_4],.agg #[.int .i64 p2.fFoot,.int .i64 p2.fHour]] go_39 rfl (fun W2 hW2 => fire_ends_ok p0 p2 y32 hy33 W2 A0_4 p0.fLooks.length c0_4 rfl ((RdL.arg hr0_4) W2 hW2)) rfl) ?_
         refine qx_y (sees_t rfl rfl rfl rfl hp24) (y_fieldN [.int .i64 y32.fSpan.fLo,.int .i64 y32.fSpan.fHi,.int .i64 y32.fLow,.int .i64 y32.fHigh] [.int .i64 y32.fSpan.fLo,.int .i64 y32.fSpan.fHi] fd_30_0 ag_28 rfl rfl) ?_
         refine qx_y (sees_t rfl rfl rfl rfl hp24) (y_field1 [.int .i64 y32.fSpan.fLo,.int .i64 y32.fSpan.fHi] (v:=.int .i64 y32.fSpan.fHi) fd_28_1 sc_3 rfl rfl) ?_
         refine qx_y (sees_t rfl rfl rfl rfl hp24) (y_move_int rfl) ?_
         refine qx_y (sees_t rfl rfl rfl rfl hp24) (y_loadN 0 [.int .i64 p0.fRise,.int .i64 p0.fFall,.int .i64 p0.fUp,.int .i64 p0.fDown,.slice A0_4 p0.fLooks.length c0_4] ag_24 rfl rfl rfl) ?_
         refine qx_y (sees_t rfl rfl rfl rfl hp24) (y_loadN 3 [.int .i64 ((rdL p1 s14.1).fFoot),.int .i64 ((rdL p1 s14.1).fHour)] ag_26 rfl rfl rfl) ?_
         refine qx_y (sees_t rfl rfl rfl rfl hp24) (y_loadN 1 [.int .i64 p2.fFoot,.int .i64 p2.fHour] ag_26 rfl rfl rfl) ?_
         obtain ⟨y34,hy35,h⟩:=bind_some h
         refine qx_y (sees_t rfl rfl rfl rfl hp24) (y_call [.agg #[.int .i64 p0.fRise,.int .i64 p0.fFall,.int .i64 p0.fUp,.int .i64 p0.fDown,.slice A0_4 p0.fLooks.length c0_4],.agg #[.int .i64 ((rdL p1 s14.1).fFoot),.int .i64 ((rdL p1 s14.1).fHour)],.agg #[.int .i64 p2.fFoot,.int .i64 p2.fHour]] go_63 rfl (fun W2 hW2 => fire_far_ok p0 (TSpot.mk ((rdL p1 s14.1).fFoot) ((rdL p1 s14.1).fHour)) p2 y34 hy35 W2 A0_4 p0.fLooks.length c0_4 rfl ((RdL.arg hr0_4) W2 hW2)) rfl) ?_
         refine qx_y (sees_t rfl rfl rfl rfl hp24) (y_add rfl rfl) ?_
         refine qx_y (sees_t rfl rfl rfl rfl hp24) (y_min rfl rfl) ?_
         refine qx_y (sees_t rfl rfl rfl rfl hp24) (y_move_int rfl) ?_
         refine qx_y (sees_t rfl rfl rfl rfl hp24) (y_lss rfl rfl) ?_
         refine qx_y rfl (y_pick_tb (congrArg Value.bool hp24) rfl) ?_
         obtain rfl:=Option.some.inj h
         exact key _ _ (keep (keep (keep (keep (keep (keep (keep (keep (keep (keep (keep (keep (keep (keep (keep (keep (keep (keep (keep (keep rfl rfl) rfl) rfl) rfl) rfl) rfl) rfl) rfl) rfl) rfl) rfl) rfl) rfl) rfl) rfl) rfl) rfl) rfl) rfl) rfl)
        ·refine qx_skip (sees_f rfl rfl rfl rfl hp24) ?_
         refine qx_skip (sees_f rfl rfl rfl rfl hp24) ?_
         refine qx_skip (sees_f rfl rfl rfl rfl hp24) ?_
         refine qx_skip (sees_f rfl rfl rfl rfl hp24) ?_
         refine qx_skip (sees_f rfl rfl rfl rfl hp24) ?_
         refine qx_skip (sees_f rfl rfl rfl rfl hp24) ?_
         refine qx_skip (sees_f rfl rfl rfl rfl hp24) ?_
         refine qx_skip (sees_f rfl rfl rfl rfl hp24) ?_
         refine qx_skip (sees_f rfl rfl rfl rfl hp24) ?_
         refine qx_skip (sees_f rfl rfl rfl rfl hp24) ?_
         refine qx_skip (sees_f rfl rfl rfl rfl hp24) ?_
         refine qx_skip (sees_f rfl rfl rfl rfl hp24) ?_
         refine qx_skip (sees_f rfl rfl rfl rfl hp24) ?_
         refine qx_skip (sees_f rfl rfl rfl rfl hp24) ?_
         refine qx_y rfl (y_pick_fb (congrArg Value.bool hp24) rfl) ?_
         obtain rfl:=Option.some.inj h
         exact key _ _ (keep (keep (keep (keep (keep (keep (keep (keep (keep (keep (keep (keep (keep (keep (keep (keep (keep (keep (keep (keep rfl rfl) rfl) rfl) rfl) rfl) rfl) rfl) rfl) rfl) rfl) rfl) rfl) rfl) rfl) rfl) rfl) rfl) rfl) rfl) rfl)
      ·rcases bool_cases y21.2 with hp23 | hp23
       ·refine qx_y (sees_t rfl rfl rfl rfl hp23) (y_move_int rfl) ?_
        refine qx_y (sees_t rfl rfl rfl rfl hp23) (y_move_int rfl) ?_
        refine qx_y (sees_t rfl rfl rfl rfl hp23) (y_gtr rfl rfl) ?_
        refine qx_y rfl (y_pick_tb (congrArg Value.bool hp23) rfl) ?_
        exact key _ _ (keep (keep (keep (keep (keep (keep (keep (keep (keep (keep (keep (keep (keep (keep (keep (keep (keep (keep (keep (keep rfl rfl) rfl) rfl) rfl) rfl) rfl) rfl) rfl) rfl) rfl) rfl) rfl) rfl) rfl) rfl) rfl) rfl) rfl) rfl) (congrArg Value.bool (and_t hp23)))
       ·refine qx_skip (sees_f rfl rfl rfl rfl hp23) ?_
        refine qx_skip (sees_f rfl rfl rfl rfl hp23) ?_
        refine qx_skip (sees_f rfl rfl rfl rfl hp23) ?_
        refine qx_y rfl (y_pick_fb (congrArg Value.bool hp23) rfl) ?_
        exact key _ _ (keep (keep (keep (keep (keep (keep (keep (keep (keep (keep (keep (keep (keep (keep (keep (keep (keep (keep (keep (keep rfl rfl) rfl) rfl) rfl) rfl) rfl) rfl) rfl) rfl) rfl) rfl) rfl) rfl) rfl) rfl) rfl) rfl) rfl) rfl) (congrArg Value.bool (and_f hp23)))
     ·refine cx_false (congrArg Value.bool hp16) ?_
      refine cx_exit ?_
      refine ex_then_exit ?_
      obtain rfl:=Option.some.inj h
      exact ex_stop ⟨rfl,_,A2_s14,c2_s14,s14.2.length,rfl,rfl,(keep (keep (keep (keep (keep (keep (keep (keep (keep (keep (keep (keep (keep rfl rfl) rfl) rfl) rfl) rfl) rfl) rfl) rfl) rfl) rfl) rfl) rfl) rfl)⟩
    ·intro e L tm hJ
     obtain ⟨rfl,tm0_u15,A2_u15,c2_u15,n2_u15,rfl,rfl,rfl⟩:=hJ
     refine ⟨(by intro hc; cases hc),?_⟩
     refine ex_block_here ?_
     refine ex_then (cx_seq (cx_region ?_))
     refine ox_y rfl (y_move_slice rfl) ?_
     refine ox_y rfl (y_assign_slice rfl) ?_
     refine ox_y rfl (y_assign_int rfl) ?_
     refine ox_nil (ex_then (cx_ret ?_))
     obtain rfl:=Option.some.inj h
     exact ex_res2 (.inl rfl) rfl (resV_tmp (v:=.slice A2_u15 u15.2.length c2_u15) rfl) (resV_tmp (v:=.int .i64 0) rfl) (fun W2 hW2 => ⟨(A2_u15,u15.2.length,c2_u15),rfl,rfl,(hW2.pick 2 rfl)⟩)
  ·refine cx_false (congrArg Value.bool hp8) ?_
   refine cx_skip (ex_then (cx_seq (cx_seq (cx_region ?_))))
   refine ox_y rfl (y_loadN 0 [.int .i64 p0.fRise,.int .i64 p0.fFall,.int .i64 p0.fUp,.int .i64 p0.fDown,.slice A0_4 p0.fLooks.length c0_4] ag_24 rfl rfl rfl) ?_
   refine ox_y rfl (y_move_int rfl) ?_
   obtain ⟨y37,hy38,h⟩:=bind_some h
   refine ox_y rfl (y_call [.agg #[.int .i64 p0.fRise,.int .i64 p0.fFall,.int .i64 p0.fUp,.int .i64 p0.fDown,.slice A0_4 p0.fLooks.length c0_4],.int .i64 y3] go_37 rfl (fun W2 hW2 => fire_agreed_ok p0 y3 y37 hy38 W2 A0_4 p0.fLooks.length c0_4 rfl ((RdL.arg hr0_4) W2 hW2)) rfl) ?_
   refine ox_y rfl (y_assign_int rfl) ?_
   refine ox_nil (ex_then (cx_seq (cx_region ?_)))
   refine ox_y rfl (y_move_int rfl) ?_
   refine ox_y rfl (y_neq rfl rfl) ?_
   refine ox_nil (ex_then ?_)
   rcases ite_some h with ⟨hp39,h⟩ | ⟨hp39,h⟩
   ·refine cx_true (congrArg Value.bool hp39) ?_
    refine cx_seq (cx_region ?_)
    refine ox_y rfl (y_move_int rfl) ?_
    refine ox_y rfl (y_assign_slice rfl) ?_
    refine ox_y rfl (y_assign_int rfl) ?_
    refine ox_nil (ex_then (cx_ret (ex_then_ret ?_)))
    obtain rfl:=Option.some.inj h
    exact ex_res2 (.inl rfl) rfl (resV_tmp (v:=.slice none 0 0) rfl) (resV_tmp (v:=.int .i64 y37) rfl) (fun W2 hW2 => ⟨(none,0,0),rfl,rfl,((hW2.nilrow 3 1).pick 2 rfl)⟩)
   ·refine cx_false (congrArg Value.bool hp39) ?_
    refine cx_skip (ex_then (cx_seq (cx_region ?_)))
    refine ox_y rfl (y_assign_slice rfl) ?_
    refine ox_nil (ex_then (cx_seq (cx_seq (cx_region ?_))))
    refine ox_y rfl (y_move_slice rfl) ?_
    refine ox_y rfl (y_len (us:=[]) us_50 rfl) ?_
    refine ox_y rfl (y_move_int rfl) ?_
    refine ox_nil (ex_then (cx_block ?_))
    obtain ⟨u43,hl64,h⟩:=bind_some h
    refine cx_nilrow 3 1 ?_
    refine cx_loop (fun (s:(Int × (List Int))) L tm => ∃ (tm0:Nat → Value) (A2_s:Option Addr) (c2_s:Nat) (n2_s:Nat),n2_s = s.2.length ∧ L = [cellsR b1 24 [.int .i64 p0.fRise,.int .i64 p0.fFall,.int .i64 p0.fUp,.int .i64 p0.fDown,.slice A0_4 p0.fLooks.length c0_4],cellsR b2 26 [.int .i64 p2.fFoot,.int .i64 p2.fHour],rowR A2_s c2_s 3 1 n2_s (encL cI s.2)] ∧ tm = (upd (upd (upd (upd (upd (upd (upd (upd (upd (upd (upd (upd (upd tm0 1 (.slice A1_0 p1.length c1_0)) 3 (.int .i64 p3)) 4 (.pointer (some ⟨b1,0,none⟩))) 6 (.pointer (some ⟨b2,0,none⟩))) 8 (.slice none 0 0)) 9 (.int .i64 0)) 10 (.int .i64 y37)) 31 (.bool b6)) 36 (.bool (y37 != 0))) 11 (.slice A2_s n2_s c2_s)) 38 (.slice A1_0 p1.length c1_0)) 39 (.int .i64 (p1.length:Int))) 40 (.int .i64 s.1))) (fun s e L tm => e = .exit 0 ∧ ∃ (tm0:Nat → Value) (A2_s:Option Addr) (c2_s:Nat) (n2_s:Nat),n2_s = s.2.length ∧ L = [cellsR b1 24 [.int .i64 p0.fRise,.int .i64 p0.fFall,.int .i64 p0.fUp,.int .i64 p0.fDown,.slice A0_4 p0.fLooks.length c0_4],cellsR b2 26 [.int .i64 p2.fFoot,.int .i64 p2.fHour],rowR A2_s c2_s 3 1 n2_s (encL cI s.2)] ∧ tm = (upd (upd (upd (upd (upd (upd (upd (upd (upd (upd (upd (upd (upd tm0 1 (.slice A1_0 p1.length c1_0)) 3 (.int .i64 p3)) 4 (.pointer (some ⟨b1,0,none⟩))) 6 (.pointer (some ⟨b2,0,none⟩))) 8 (.slice none 0 0)) 9 (.int .i64 0)) 10 (.int .i64 y37)) 31 (.bool b6)) 36 (.bool (y37 != 0))) 11 (.slice A2_s n2_s c2_s)) 38 (.slice A1_0 p1.length c1_0)) 39 (.int .i64 (p1.length:Int))) 40 (.int .i64 s.1))) hl64 ⟨_,none,0,0,rfl,rfl,(keep (keep (keep (keep (keep (keep (keep (keep (keep (keep (keep (keep (keep rfl rfl) rfl) rfl) rfl) rfl) rfl) rfl) rfl) rfl) rfl) rfl) rfl) rfl)⟩ ?_ ?_
    ·rintro s42 L tm st ⟨tm0_s42,A2_s42,c2_s42,n2_s42,rfl,rfl,rfl⟩ h
     unfold fire_Decides_l2 at h
     refine cx_seq (cx_region ?_)
     refine ox_y rfl (y_lss rfl rfl) ?_
     refine ox_nil (ex_then (cx_seq ?_))
     rcases ite_some h with ⟨hp44,h⟩ | ⟨hp44,h⟩
     ·refine cx_true (congrArg Value.bool hp44) ?_
      refine cx_skip (ex_then (cx_seq (cx_block (cx_seq (cx_region ?_)))))
      refine ox_y rfl (y_move_int rfl) ?_
      obtain ⟨hg45,h⟩:=guardO_some h
      refine ox_y rfl (y_indexR sl_50 (by decide) hg45.1 hg45.2 (RdL.arg hr1_0) (encL_len TSpot_cells_len rfl) rfl rfl) ?_
      refine ox_y rfl (y_loadRN (A:=A1_0) (j:=(Int.toNat s42.1 * 2)) [.int .i64 ((rdL p1 s42.1).fFoot),.int .i64 ((rdL p1 s42.1).fHour)] ag_26 (Nat.succ_pos _) (RdL.arg hr1_0) rfl (encL_gets TSpot_cells_len hg45.1 (lt_nat hg45.2 rfl))) ?_
      refine ox_alloc ze_26 rfl (fun b46 => ?_)
      refine ox_y rfl (y_assign_int rfl) ?_
      refine ox_n rfl (y_storeN 3 [.int .i64 ((rdL p1 s42.1).fFoot),.int .i64 ((rdL p1 s42.1).fHour)] sz_26 rfl (Nat.le_of_ble_eq_true rfl) rfl rfl rfl) ?_
      refine ox_nil (ex_then (cx_seq (cx_region ?_)))
      refine ox_y rfl (y_loadN 0 [.int .i64 p0.fRise,.int .i64 p0.fFall,.int .i64 p0.fUp,.int .i64 p0.fDown,.slice A0_4 p0.fLooks.length c0_4] ag_24 rfl rfl rfl) ?_
      refine ox_y rfl (y_loadN 3 [.int .i64 ((rdL p1 s42.1).fFoot),.int .i64 ((rdL p1 s42.1).fHour)] ag_26 rfl rfl rfl) ?_
      obtain ⟨y47,hy48,h⟩:=bind_some h
      refine ox_y rfl (y_call [.agg #[.int .i64 p0.fRise,.int .i64 p0.fFall,.int .i64 p0.fUp,.int .i64 p0.fDown,.slice A0_4 p0.fLooks.length c0_4],.agg #[.int .i64 ((rdL p1 s42.1).fFoot),.int .i64 ((rdL p1 s42.1).fHour)]] go_39 rfl (fun W2 hW2 => fire_ends_ok p0 (TSpot.mk ((rdL p1 s42.1).fFoot) ((rdL p1 s42.1).fHour)) y47 hy48 W2 A0_4 p0.fLooks.length c0_4 rfl ((RdL.arg hr0_4) W2 hW2)) rfl) ?_
      refine ox_y rfl (y_fieldN [.int .i64 y47.fSpan.fLo,.int .i64 y47.fSpan.fHi,.int .i64 y47.fLow,.int .i64 y47.fHigh] [.int .i64 y47.fSpan.fLo,.int .i64 y47.fSpan.fHi] fd_30_0 ag_28 rfl rfl) ?_
      refine ox_y rfl (y_field1 [.int .i64 y47.fSpan.fLo,.int .i64 y47.fSpan.fHi] (v:=.int .i64 y47.fSpan.fLo) fd_28_0 sc_3 rfl rfl) ?_
      refine ox_y rfl (y_assign_int rfl) ?_
      refine ox_nil (ex_then (cx_seq (cx_region ?_)))
      refine ox_y rfl (y_loadN 0 [.int .i64 p0.fRise,.int .i64 p0.fFall,.int .i64 p0.fUp,.int .i64 p0.fDown,.slice A0_4 p0.fLooks.length c0_4] ag_24 rfl rfl rfl) ?_
      refine ox_y rfl (y_loadN 3 [.int .i64 ((rdL p1 s42.1).fFoot),.int .i64 ((rdL p1 s42.1).fHour)] ag_26 rfl rfl rfl) ?_
      refine ox_y rfl (y_loadN 1 [.int .i64 p2.fFoot,.int .i64 p2.fHour] ag_26 rfl rfl rfl) ?_
      refine ox_y rfl (y_move_int rfl) ?_
      obtain ⟨y49,hy50,h⟩:=bind_some h
      refine ox_y rfl (y_call [.agg #[.int .i64 p0.fRise,.int .i64 p0.fFall,.int .i64 p0.fUp,.int .i64 p0.fDown,.slice A0_4 p0.fLooks.length c0_4],.agg #[.int .i64 ((rdL p1 s42.1).fFoot),.int .i64 ((rdL p1 s42.1).fHour)],.agg #[.int .i64 p2.fFoot,.int .i64 p2.fHour],.int .i64 p3] go_58 rfl (fun W2 hW2 => fire_needed_ok p0 (TSpot.mk ((rdL p1 s42.1).fFoot) ((rdL p1 s42.1).fHour)) p2 p3 y49 hy50 W2 A0_4 p0.fLooks.length c0_4 rfl ((RdL.arg hr0_4) W2 hW2)) rfl) ?_
      refine ox_y rfl (y_move_tuple rfl) ?_
      refine ox_y rfl (y_extract (vs:=[.int .i64 y49.1,.bool y49.2]) (v:=.int .i64 y49.1) rfl rfl) ?_
      refine ox_y rfl (y_extract (vs:=[.int .i64 y49.1,.bool y49.2]) (v:=.bool y49.2) rfl rfl) ?_
      refine ox_y rfl (y_assign_int rfl) ?_
      refine ox_y rfl (y_assign_bool rfl) ?_
      refine ox_nil (ex_then (cx_seq ?_))
      refine cx_draws 22 mixed (by kernel_rfl) (by kernel_rfl) ?_
      refine qx_y rfl (y_move_bool rfl) ?_
      refine qx_y rfl (y_move_bool rfl) ?_
      refine qx_join 4 (fun tm0 => (upd (upd (upd (upd (upd (upd (upd (upd (upd (upd (upd (upd (upd (upd (upd (upd (upd (upd (upd (upd tm0 1 (.slice A1_0 p1.length c1_0)) 3 (.int .i64 p3)) 4 (.pointer (some ⟨b1,0,none⟩))) 6 (.pointer (some ⟨b2,0,none⟩))) 8 (.slice none 0 0)) 9 (.int .i64 0)) 10 (.int .i64 y37)) 31 (.bool b6)) 36 (.bool (y37 != 0))) 11 (.slice A2_s42 s42.2.length c2_s42)) 38 (.slice A1_0 p1.length c1_0)) 39 (.int .i64 (p1.length:Int))) 40 (.int .i64 s42.1)) 41 (.bool (decide (s42.1 < (p1.length:Int))))) 13 (.pointer (some ⟨b46,0,none⟩))) 12 (.int .i64 s42.1)) 14 (.int .i64 y47.fSpan.fLo)) 15 (.int .i64 y49.1)) 16 (.bool y49.2)) 63 (.bool (y49.2 && (decide (y47.fSpan.fLo < y49.1)))))) (fun tm0 => ?_) (fun key => ?_)
      ·refine qx_y rfl (y_move_bool rfl) ?_
       obtain ⟨b53,hb54,h⟩:=bind_some h
       refine qx_join 15 (fun tm0 => (upd (upd (upd (upd (upd (upd (upd (upd (upd (upd (upd (upd (upd (upd (upd (upd (upd (upd (upd (upd tm0 1 (.slice A1_0 p1.length c1_0)) 3 (.int .i64 p3)) 4 (.pointer (some ⟨b1,0,none⟩))) 6 (.pointer (some ⟨b2,0,none⟩))) 8 (.slice none 0 0)) 9 (.int .i64 0)) 10 (.int .i64 y37)) 31 (.bool b6)) 36 (.bool (y37 != 0))) 11 (.slice A2_s42 s42.2.length c2_s42)) 38 (.slice A1_0 p1.length c1_0)) 39 (.int .i64 (p1.length:Int))) 40 (.int .i64 s42.1)) 41 (.bool (decide (s42.1 < (p1.length:Int))))) 13 (.pointer (some ⟨b46,0,none⟩))) 12 (.int .i64 s42.1)) 14 (.int .i64 y47.fSpan.fLo)) 15 (.int .i64 y49.1)) 16 (.bool y49.2)) 79 (.bool b53))) (fun tm0 => ?_) (fun key => ?_)
       ·refine qx_nil ?_
        refine ox_nil (ex_then ?_)
        rcases ite_some h with ⟨hp55,h⟩ | ⟨hp55,h⟩
        ·refine cx_true (congrArg Value.bool hp55) ?_
         refine cx_region ?_
         refine ox_y rfl (y_move_slice rfl) ?_
         refine ox_y rfl (y_move_int rfl) ?_
         refine ox_buildSliceE 1 (encL cI [s42.1]) _ mc_3_1 us_39 ze_3 by_3 (by decide) (by decide) (by kernel_rfl) (encL_len cI_len rfl) rfl (fun b56 => ?_)
         obtain ⟨hg59,h⟩:=guardO_some h
         refine ox_append0 2 us_39 ze_3 by_3 rfl rfl rfl (RdL.row 4 rfl) (encL_len cI_len rfl) (encL_one cI_one _) (app_room hg59 (by decide)) rfl (fun A57 c58 => ?_)
         refine ox_y rfl (y_assign_slice rfl) ?_
         refine ox_nil ?_
         refine ex_block ?_
         refine ex_then (cx_region ?_)
         refine ox_y rfl (y_add rfl rfl) ?_
         refine ox_y rfl (y_move_int rfl) ?_
         refine ox_nil ?_
         refine ex_take 3 ?_
         obtain rfl:=Option.some.inj h
         exact ex_next ⟨_,A57,c58,(s42.2.length + 1),(hn_app rfl rfl),rfl,(keep (keep (keep (keep (keep (keep (keep (keep (keep (keep (keep (keep (keep rfl rfl) rfl) rfl) rfl) rfl) rfl) rfl) rfl) rfl) rfl) rfl) rfl) rfl)⟩
        ·refine cx_false (congrArg Value.bool hp55) ?_
         refine cx_skip ?_
         refine ex_block ?_
         refine ex_then (cx_region ?_)
         refine ox_y rfl (y_add rfl rfl) ?_
         refine ox_y rfl (y_move_int rfl) ?_
         refine ox_nil ?_
         refine ex_take 3 ?_
         obtain rfl:=Option.some.inj h
         exact ex_next ⟨_,A2_s42,c2_s42,s42.2.length,rfl,rfl,(keep (keep (keep (keep (keep (keep (keep (keep (keep (keep (keep (keep (keep rfl rfl) rfl) rfl) rfl) rfl) rfl) rfl) rfl) rfl) rfl) rfl) rfl) rfl)⟩
       ·clear h; rcases ite_some hb54 with ⟨hp52,h⟩ | ⟨hp52,h⟩
        ·refine qx_y (sees_t rfl rfl rfl rfl hp52) (y_loadN 0 [.int .i64 p0.fRise,.int .i64 p0.fFall,.int .i64 p0.fUp,.int .i64 p0.fDown,.slice A0_4 p0.fLooks.length c0_4] ag_24 rfl rfl rfl) ?_
         refine qx_y (sees_t rfl rfl rfl rfl hp52) (y_loadN 1 [.int .i64 p2.fFoot,.int .i64 p2.fHour] ag_26 rfl rfl rfl) ?_
         obtain ⟨y60,hy61,h⟩:=bind_some h
         refine qx_y (sees_t rfl rfl rfl rfl hp52) (y_call [.agg #[.int .i64 p0.fRise,.int .i64 p0.fFall,.int .i64 p0.fUp,.int .i64 p0.fDown,.slice A0_4 p0.fLooks.length c0_4],.agg #[.int .i64 p2.fFoot,.int .i64 p2.fHour]] go_39 rfl (fun W2 hW2 => fire_ends_ok p0 p2 y60 hy61 W2 A0_4 p0.fLooks.length c0_4 rfl ((RdL.arg hr0_4) W2 hW2)) rfl) ?_
         refine qx_y (sees_t rfl rfl rfl rfl hp52) (y_fieldN [.int .i64 y60.fSpan.fLo,.int .i64 y60.fSpan.fHi,.int .i64 y60.fLow,.int .i64 y60.fHigh] [.int .i64 y60.fSpan.fLo,.int .i64 y60.fSpan.fHi] fd_30_0 ag_28 rfl rfl) ?_
         refine qx_y (sees_t rfl rfl rfl rfl hp52) (y_field1 [.int .i64 y60.fSpan.fLo,.int .i64 y60.fSpan.fHi] (v:=.int .i64 y60.fSpan.fHi) fd_28_1 sc_3 rfl rfl) ?_
         refine qx_y (sees_t rfl rfl rfl rfl hp52) (y_move_int rfl) ?_
         refine qx_y (sees_t rfl rfl rfl rfl hp52) (y_loadN 0 [.int .i64 p0.fRise,.int .i64 p0.fFall,.int .i64 p0.fUp,.int .i64 p0.fDown,.slice A0_4 p0.fLooks.length c0_4] ag_24 rfl rfl rfl) ?_
         refine qx_y (sees_t rfl rfl rfl rfl hp52) (y_loadN 3 [.int .i64 ((rdL p1 s42.1).fFoot),.int .i64 ((rdL p1 s42.1).fHour)] ag_26 rfl rfl rfl) ?_
         refine qx_y (sees_t rfl rfl rfl rfl hp52) (y_loadN 1 [.int .i64 p2.fFoot,.int .i64 p2.fHour] ag_26 rfl rfl rfl) ?_
         obtain ⟨y62,hy63,h⟩:=bind_some h
         refine qx_y (sees_t rfl rfl rfl rfl hp52) (y_call [.agg #[.int .i64 p0.fRise,.int .i64 p0.fFall,.int .i64 p0.fUp,.int .i64 p0.fDown,.slice A0_4 p0.fLooks.length c0_4],.agg #[.int .i64 ((rdL p1 s42.1).fFoot),.int .i64 ((rdL p1 s42.1).fHour)],.agg #[.int .i64 p2.fFoot,.int .i64 p2.fHour]] go_63 rfl (fun W2 hW2 => fire_far_ok p0 (TSpot.mk ((rdL p1 s42.1).fFoot) ((rdL p1 s42.1).fHour)) p2 y62 hy63 W2 A0_4 p0.fLooks.length c0_4 rfl ((RdL.arg hr0_4) W2 hW2)) rfl) ?_
         refine qx_y (sees_t rfl rfl rfl rfl hp52) (y_add rfl rfl) ?_
         refine qx_y (sees_t rfl rfl rfl rfl hp52) (y_min rfl rfl) ?_
         refine qx_y (sees_t rfl rfl rfl rfl hp52) (y_move_int rfl) ?_
         refine qx_y (sees_t rfl rfl rfl rfl hp52) (y_lss rfl rfl) ?_
         refine qx_y rfl (y_pick_tb (congrArg Value.bool hp52) rfl) ?_
         obtain rfl:=Option.some.inj h
         exact key _ _ (keep (keep (keep (keep (keep (keep (keep (keep (keep (keep (keep (keep (keep (keep (keep (keep (keep (keep (keep (keep rfl rfl) rfl) rfl) rfl) rfl) rfl) rfl) rfl) rfl) rfl) rfl) rfl) rfl) rfl) rfl) rfl) rfl) rfl) rfl) rfl)
        ·refine qx_skip (sees_f rfl rfl rfl rfl hp52) ?_
         refine qx_skip (sees_f rfl rfl rfl rfl hp52) ?_
         refine qx_skip (sees_f rfl rfl rfl rfl hp52) ?_
         refine qx_skip (sees_f rfl rfl rfl rfl hp52) ?_
         refine qx_skip (sees_f rfl rfl rfl rfl hp52) ?_
         refine qx_skip (sees_f rfl rfl rfl rfl hp52) ?_
         refine qx_skip (sees_f rfl rfl rfl rfl hp52) ?_
         refine qx_skip (sees_f rfl rfl rfl rfl hp52) ?_
         refine qx_skip (sees_f rfl rfl rfl rfl hp52) ?_
         refine qx_skip (sees_f rfl rfl rfl rfl hp52) ?_
         refine qx_skip (sees_f rfl rfl rfl rfl hp52) ?_
         refine qx_skip (sees_f rfl rfl rfl rfl hp52) ?_
         refine qx_skip (sees_f rfl rfl rfl rfl hp52) ?_
         refine qx_skip (sees_f rfl rfl rfl rfl hp52) ?_
         refine qx_y rfl (y_pick_fb (congrArg Value.bool hp52) rfl) ?_
         obtain rfl:=Option.some.inj h
         exact key _ _ (keep (keep (keep (keep (keep (keep (keep (keep (keep (keep (keep (keep (keep (keep (keep (keep (keep (keep (keep (keep rfl rfl) rfl) rfl) rfl) rfl) rfl) rfl) rfl) rfl) rfl) rfl) rfl) rfl) rfl) rfl) rfl) rfl) rfl) rfl) rfl)
      ·rcases bool_cases y49.2 with hp51 | hp51
       ·refine qx_y (sees_t rfl rfl rfl rfl hp51) (y_move_int rfl) ?_
        refine qx_y (sees_t rfl rfl rfl rfl hp51) (y_move_int rfl) ?_
        refine qx_y (sees_t rfl rfl rfl rfl hp51) (y_gtr rfl rfl) ?_
        refine qx_y rfl (y_pick_tb (congrArg Value.bool hp51) rfl) ?_
        exact key _ _ (keep (keep (keep (keep (keep (keep (keep (keep (keep (keep (keep (keep (keep (keep (keep (keep (keep (keep (keep (keep rfl rfl) rfl) rfl) rfl) rfl) rfl) rfl) rfl) rfl) rfl) rfl) rfl) rfl) rfl) rfl) rfl) rfl) rfl) rfl) (congrArg Value.bool (and_t hp51)))
       ·refine qx_skip (sees_f rfl rfl rfl rfl hp51) ?_
        refine qx_skip (sees_f rfl rfl rfl rfl hp51) ?_
        refine qx_skip (sees_f rfl rfl rfl rfl hp51) ?_
        refine qx_y rfl (y_pick_fb (congrArg Value.bool hp51) rfl) ?_
        exact key _ _ (keep (keep (keep (keep (keep (keep (keep (keep (keep (keep (keep (keep (keep (keep (keep (keep (keep (keep (keep (keep rfl rfl) rfl) rfl) rfl) rfl) rfl) rfl) rfl) rfl) rfl) rfl) rfl) rfl) rfl) rfl) rfl) rfl) rfl) rfl) (congrArg Value.bool (and_f hp51)))
     ·refine cx_false (congrArg Value.bool hp44) ?_
      refine cx_exit ?_
      refine ex_then_exit ?_
      obtain rfl:=Option.some.inj h
      exact ex_stop ⟨rfl,_,A2_s42,c2_s42,s42.2.length,rfl,rfl,(keep (keep (keep (keep (keep (keep (keep (keep (keep (keep (keep (keep (keep rfl rfl) rfl) rfl) rfl) rfl) rfl) rfl) rfl) rfl) rfl) rfl) rfl) rfl)⟩
    ·intro e L tm hJ
     obtain ⟨rfl,tm0_u43,A2_u43,c2_u43,n2_u43,rfl,rfl,rfl⟩:=hJ
     refine ⟨(by intro hc; cases hc),?_⟩
     refine ex_block_here ?_
     refine ex_then (cx_seq (cx_region ?_))
     refine ox_y rfl (y_move_slice rfl) ?_
     refine ox_y rfl (y_assign_slice rfl) ?_
     refine ox_y rfl (y_assign_int rfl) ?_
     refine ox_nil (ex_then (cx_ret ?_))
     obtain rfl:=Option.some.inj h
     exact ex_res2 (.inl rfl) rfl (resV_tmp (v:=.slice A2_u43 u43.2.length c2_u43) rfl) (resV_tmp (v:=.int .i64 0) rfl) (fun W2 hW2 => ⟨(A2_u43,u43.2.length,c2_u43),rfl,rfl,(hW2.pick 2 rfl)⟩)
 ·clear h; rcases ite_some hb7 with ⟨hp5,h⟩ | ⟨hp5,h⟩
  ·refine ox_y (sees_t rfl rfl rfl rfl hp5) (y_loadN 1 [.int .i64 p2.fFoot,.int .i64 p2.fHour] ag_26 rfl rfl rfl) ?_
   obtain ⟨y65,hy66,h⟩:=bind_some h
   refine ox_y (sees_t rfl rfl rfl rfl hp5) (y_call [.agg #[.int .i64 p2.fFoot,.int .i64 p2.fHour]] go_62 rfl (fun W2 hW2 => fire_right_ok p2 y65 hy66 W2 ) rfl) ?_
   refine ox_y (sees_t rfl rfl rfl rfl hp5) (y_not rfl) ?_
   refine ox_y (sees_t rfl rfl rfl rfl hp5) (y_move_bool rfl) ?_
   obtain ⟨b68,hb69,h⟩:=bind_some h
   refine ox_join 4 (fun tm0 => (upd (upd (upd (upd (upd (upd (upd (upd (upd tm0 1 (.slice A1_0 p1.length c1_0)) 3 (.int .i64 p3)) 4 (.pointer (some ⟨b1,0,none⟩))) 6 (.pointer (some ⟨b2,0,none⟩))) 8 (.slice none 0 0)) 9 (.int .i64 0)) 10 (.int .i64 y3)) 22 (.bool (y3 == 0))) 30 (.bool b68))) (fun tm0 => ?_) (fun key => ?_)
   ·refine ox_y rfl (y_pick_tb (congrArg Value.bool hp5) rfl) ?_
    obtain rfl:=Option.some.inj h
    exact key _ _ (keep (keep (keep (keep (keep (keep (keep (keep rfl rfl) rfl) rfl) rfl) rfl) rfl) rfl) rfl)
   ·clear h; rcases ite_some hb69 with ⟨hp67,h⟩ | ⟨hp67,h⟩
    ·refine ox_skip (sees_f rfl rfl rfl rfl hp67) ?_
     refine ox_skip (sees_f rfl rfl rfl rfl hp67) ?_
     refine ox_skip (sees_f rfl rfl rfl rfl hp67) ?_
     refine ox_y (sees_t rfl rfl rfl rfl hp5) (y_pick_tb (congrArg Value.bool hp67) rfl) ?_
     obtain rfl:=Option.some.inj h
     exact key _ _ (keep (keep (keep (keep (keep (keep (keep (keep (keep rfl rfl) rfl) rfl) rfl) rfl) rfl) rfl) rfl) rfl)
    ·refine ox_y (sees_t rfl rfl rfl rfl hp67) (y_move_int rfl) ?_
     obtain ⟨y70,hy71,h⟩:=bind_some h
     refine ox_y (sees_t rfl rfl rfl rfl hp67) (y_call [.int .i64 p3] go_57 rfl (fun W2 hW2 => fire_heat_ok p3 y70 hy71 W2 ) rfl) ?_
     refine ox_y (sees_t rfl rfl rfl rfl hp67) (y_not rfl) ?_
     refine ox_y (sees_t rfl rfl rfl rfl hp5) (y_pick_fb (congrArg Value.bool hp67) rfl) ?_
     obtain rfl:=Option.some.inj h
     exact key _ _ (keep (keep (keep (keep (keep (keep (keep (keep (keep rfl rfl) rfl) rfl) rfl) rfl) rfl) rfl) rfl) rfl)
  ·refine ox_skip (sees_f rfl rfl rfl rfl hp5) ?_
   refine ox_skip (sees_f rfl rfl rfl rfl hp5) ?_
   refine ox_skip (sees_f rfl rfl rfl rfl hp5) ?_
   refine ox_skip (sees_f rfl rfl rfl rfl hp5) ?_
   refine ox_skip rfl ?_
   refine ox_skip rfl ?_
   refine ox_skip rfl ?_
   refine ox_skip (sees_f rfl rfl rfl rfl hp5) ?_
   refine ox_y rfl (y_pick_fb (congrArg Value.bool hp5) rfl) ?_
   obtain rfl:=Option.some.inj h
   exact key _ _ (keep (keep (keep (keep (keep (keep (keep (keep rfl rfl) rfl) rfl) rfl) rfl) rfl) rfl) rfl)

theorem ref02_Decides_ok (p0:TFire) (p1:(List TSpot)) (p2:TSpot) (p3:Int) (res:TInts) (h:ref02_Decides p0 p1 p2 p3 = some res) (W:World) (A0_4:Option Addr) (n0_4 c0_4 : Nat) (hn0_4:n0_4 = p0.fLooks.length) (hr0_4:Rd W A0_4 n0_4 c0_4 (encL TLook_cells p0.fLooks)) (A1_0:Option Addr) (n1_0 c1_0 : Nat) (hn1_0:n1_0 = p1.length) (hr1_0:Rd W A1_0 n1_0 c1_0 (encL TSpot_cells p1)) :
  Calls Tryz.prog 21 [.agg #[.int .i64 p0.fRise,.int .i64 p0.fFall,.int .i64 p0.fUp,.int .i64 p0.fDown,.slice A0_4 n0_4 c0_4],.slice A1_0 n1_0 c1_0,.agg #[.int .i64 p2.fFoot,.int .i64 p2.fHour],.int .i64 p3].toArray W fun e W2 => ∃ x : Option Addr × Nat × Nat,x.2.1 = res.fL.length ∧ e = .returned (.agg #[.slice x.1 x.2.1 x.2.2,.int .i64 res.fE]) ∧ Ext W W2 [rowR x.1 x.2.2 3 1 x.2.1 (encL cI res.fL)]:=by
 subst hn0_4
 subst hn1_0
 unfold ref02_Decides at h
 refine calls_enter (m:=71) Tryz.func21 rfl rfl (Nat.le_of_ble_eq_true rfl) ?_
 refine cx_seq (cx_region ?_)
 refine ox_box [.int .i64 p0.fRise,.int .i64 p0.fFall,.int .i64 p0.fUp,.int .i64 p0.fDown,.slice A0_4 p0.fLooks.length c0_4] rfl rfl rfl (fun b1 => ?_)
 refine ox_box [.int .i64 p2.fFoot,.int .i64 p2.fHour] rfl rfl rfl (fun b2 => ?_)
 refine ox_alloc ze_43 rfl (fun b3 => ?_)
 refine ox_nil (ex_then (cx_seq (cx_region ?_)))
 refine ox_y rfl (y_loadN 0 [.int .i64 p0.fRise,.int .i64 p0.fFall,.int .i64 p0.fUp,.int .i64 p0.fDown,.slice A0_4 p0.fLooks.length c0_4] ag_24 rfl rfl rfl) ?_
 refine ox_y rfl (y_move_slice rfl) ?_
 refine ox_y rfl (y_loadN 1 [.int .i64 p2.fFoot,.int .i64 p2.fHour] ag_26 rfl rfl rfl) ?_
 refine ox_y rfl (y_move_int rfl) ?_
 obtain ⟨y4,hy5,h⟩:=bind_some h
 refine ox_y rfl (y_call [.agg #[.int .i64 p0.fRise,.int .i64 p0.fFall,.int .i64 p0.fUp,.int .i64 p0.fDown,.slice A0_4 p0.fLooks.length c0_4],.slice A1_0 p1.length c1_0,.agg #[.int .i64 p2.fFoot,.int .i64 p2.fHour],.int .i64 p3] go_59 rfl (fun W2 hW2 => ref02_hot_ok p0 p1 p2 p3 y4 hy5 W2 A0_4 p0.fLooks.length c0_4 rfl ((RdL.arg hr0_4) W2 hW2) A1_0 p1.length c1_0 rfl ((RdL.arg hr1_0) W2 hW2)) rfl) ?_
 refine ox_y rfl (y_assign_int rfl) ?_
 refine ox_nil (ex_then (cx_seq (cx_seq (cx_region ?_))))
 refine ox_y rfl (y_move_int rfl) ?_
 refine ox_y rfl (y_neq rfl rfl) ?_
 refine ox_nil (ex_then ?_)
 rcases ite_some h with ⟨hp6,h⟩ | ⟨hp6,h⟩
 ·refine cx_true (congrArg Value.bool hp6) ?_
  refine cx_seq (cx_region ?_)
  refine ox_y rfl (y_move_int rfl) ?_
  refine ox_y rfl (y_buildS [.slice none 0 0,.int .i64 y4] [(0,1),(1,1)] ust_43 ze_43 (by kernel_rfl)) ?_
  refine ox_n rfl (y_storeN 2 [.slice none 0 0,.int .i64 y4] sz_43 rfl (Nat.le_of_ble_eq_true rfl) rfl rfl rfl) ?_
  refine ox_nil (ex_then (cx_ret (ex_then_ret ?_)))
  obtain rfl:=Option.some.inj h
  exact ex_res1 (.inl rfl) rfl (resV_cellN 2 [.slice none 0 0,.int .i64 y4] ag_43 rfl rfl rfl) (fun W2 hW2 => ⟨(none,0,0),rfl,rfl,((hW2.nilrow 3 1).pick 3 rfl)⟩)
 ·refine cx_false (congrArg Value.bool hp6) ?_
  refine cx_skip (ex_then (cx_seq (cx_region ?_)))
  refine ox_y rfl (y_assign_slice rfl) ?_
  refine ox_nil (ex_then (cx_seq (cx_seq (cx_region ?_))))
  refine ox_y rfl (y_assign_int rfl) ?_
  refine ox_nil (ex_then (cx_block ?_))
  obtain ⟨u10,hl31,h⟩:=bind_some h
  refine cx_nilrow 3 1 ?_
  refine cx_loop (fun (s:(Int × (List Int))) L tm => ∃ (tm0:Nat → Value) (A3_s:Option Addr) (c3_s:Nat) (n3_s:Nat),n3_s = s.2.length ∧ L = [cellsR b1 24 [.int .i64 p0.fRise,.int .i64 p0.fFall,.int .i64 p0.fUp,.int .i64 p0.fDown,.slice A0_4 p0.fLooks.length c0_4],cellsR b2 26 [.int .i64 p2.fFoot,.int .i64 p2.fHour],cellsR b3 43 [.slice none 0 0,.int .i64 0],rowR A3_s c3_s 3 1 n3_s (encL cI s.2)] ∧ tm = (upd (upd (upd (upd (upd (upd (upd (upd (upd (upd (upd tm0 0 (.agg #[.int .i64 p0.fRise,.int .i64 p0.fFall,.int .i64 p0.fUp,.int .i64 p0.fDown,.slice A0_4 p0.fLooks.length c0_4])) 1 (.slice A1_0 p1.length c1_0)) 2 (.agg #[.int .i64 p2.fFoot,.int .i64 p2.fHour])) 3 (.int .i64 p3)) 4 (.pointer (some ⟨b1,0,none⟩))) 6 (.pointer (some ⟨b2,0,none⟩))) 8 (.pointer (some ⟨b3,0,none⟩))) 9 (.int .i64 y4)) 20 (.bool (y4 != 0))) 10 (.slice A3_s n3_s c3_s)) 11 (.int .i64 s.1))) (fun s e L tm => e = .exit 0 ∧ ∃ (tm0:Nat → Value) (A3_s:Option Addr) (c3_s:Nat) (n3_s:Nat),n3_s = s.2.length ∧ L = [cellsR b1 24 [.int .i64 p0.fRise,.int .i64 p0.fFall,.int .i64 p0.fUp,.int .i64 p0.fDown,.slice A0_4 p0.fLooks.length c0_4],cellsR b2 26 [.int .i64 p2.fFoot,.int .i64 p2.fHour],cellsR b3 43 [.slice none 0 0,.int .i64 0],rowR A3_s c3_s 3 1 n3_s (encL cI s.2)] ∧ tm = (upd (upd (upd (upd (upd (upd (upd (upd (upd (upd (upd tm0 0 (.agg #[.int .i64 p0.fRise,.int .i64 p0.fFall,.int .i64 p0.fUp,.int .i64 p0.fDown,.slice A0_4 p0.fLooks.length c0_4])) 1 (.slice A1_0 p1.length c1_0)) 2 (.agg #[.int .i64 p2.fFoot,.int .i64 p2.fHour])) 3 (.int .i64 p3)) 4 (.pointer (some ⟨b1,0,none⟩))) 6 (.pointer (some ⟨b2,0,none⟩))) 8 (.pointer (some ⟨b3,0,none⟩))) 9 (.int .i64 y4)) 20 (.bool (y4 != 0))) 10 (.slice A3_s n3_s c3_s)) 11 (.int .i64 s.1))) hl31 ⟨_,none,0,0,rfl,rfl,(keep (keep (keep (keep (keep (keep (keep (keep (keep (keep (keep rfl rfl) rfl) rfl) rfl) rfl) rfl) rfl) rfl) rfl) rfl) rfl)⟩ ?_ ?_
  ·rintro s9 L tm st ⟨tm0_s9,A3_s9,c3_s9,n3_s9,rfl,rfl,rfl⟩ h
   unfold ref02_Decides_l1 at h
   refine cx_seq (cx_seq (cx_region ?_))
   refine ox_y rfl (y_move_int rfl) ?_
   refine ox_y rfl (y_move_slice rfl) ?_
   refine ox_y rfl (y_len (us:=[]) us_50 rfl) ?_
   refine ox_y rfl (y_lss rfl rfl) ?_
   refine ox_nil (ex_then ?_)
   rcases ite_some h with ⟨hp11,h⟩ | ⟨hp11,h⟩
   ·refine cx_true (congrArg Value.bool hp11) ?_
    refine cx_skip (ex_then (cx_seq (cx_block (cx_seq ?_))))
    refine cx_draws 9 mixed (by kernel_rfl) (by kernel_rfl) ?_
    refine qx_y rfl (y_loadN 0 [.int .i64 p0.fRise,.int .i64 p0.fFall,.int .i64 p0.fUp,.int .i64 p0.fDown,.slice A0_4 p0.fLooks.length c0_4] ag_24 rfl rfl rfl) ?_
    refine qx_y rfl (y_move_slice rfl) ?_
    refine qx_y rfl (y_move_int rfl) ?_
    obtain ⟨hg12,h⟩:=guardO_some h
    refine qx_y rfl (y_indexR sl_50 (by decide) hg12.1 hg12.2 (RdL.arg hr1_0) (encL_len TSpot_cells_len rfl) rfl rfl) ?_
    refine qx_y rfl (y_loadRN (A:=A1_0) (j:=(Int.toNat s9.1 * 2)) [.int .i64 ((rdL p1 s9.1).fFoot),.int .i64 ((rdL p1 s9.1).fHour)] ag_26 (Nat.succ_pos _) (RdL.arg hr1_0) rfl (encL_gets TSpot_cells_len hg12.1 (lt_nat hg12.2 rfl))) ?_
    refine qx_y rfl (y_loadN 1 [.int .i64 p2.fFoot,.int .i64 p2.fHour] ag_26 rfl rfl rfl) ?_
    refine qx_y rfl (y_move_int rfl) ?_
    obtain ⟨y13,hy14,h⟩:=bind_some h
    refine qx_y rfl (y_call [.agg #[.int .i64 p0.fRise,.int .i64 p0.fFall,.int .i64 p0.fUp,.int .i64 p0.fDown,.slice A0_4 p0.fLooks.length c0_4],.agg #[.int .i64 ((rdL p1 s9.1).fFoot),.int .i64 ((rdL p1 s9.1).fHour)],.agg #[.int .i64 p2.fFoot,.int .i64 p2.fHour],.int .i64 p3] go_60 rfl (fun W2 hW2 => ref02_needed_ok p0 (TSpot.mk ((rdL p1 s9.1).fFoot) ((rdL p1 s9.1).fHour)) p2 p3 y13 hy14 W2 A0_4 p0.fLooks.length c0_4 rfl ((RdL.arg hr0_4) W2 hW2)) rfl) ?_
    refine qx_y rfl (y_assign_int rfl) ?_
    refine qx_nil ?_
    refine ox_nil (ex_then (cx_seq ?_))
    refine cx_draws 8 mixed (by kernel_rfl) (by kernel_rfl) ?_
    refine qx_y rfl (y_loadN 0 [.int .i64 p0.fRise,.int .i64 p0.fFall,.int .i64 p0.fUp,.int .i64 p0.fDown,.slice A0_4 p0.fLooks.length c0_4] ag_24 rfl rfl rfl) ?_
    refine qx_y rfl (y_move_slice rfl) ?_
    refine qx_y rfl (y_move_int rfl) ?_
    obtain ⟨hg15,h⟩:=guardO_some h
    refine qx_y rfl (y_indexR sl_50 (by decide) hg15.1 hg15.2 (RdL.arg hr1_0) (encL_len TSpot_cells_len rfl) rfl rfl) ?_
    refine qx_y rfl (y_loadRN (A:=A1_0) (j:=(Int.toNat s9.1 * 2)) [.int .i64 ((rdL p1 s9.1).fFoot),.int .i64 ((rdL p1 s9.1).fHour)] ag_26 (Nat.succ_pos _) (RdL.arg hr1_0) rfl (encL_gets TSpot_cells_len hg15.1 (lt_nat hg15.2 rfl))) ?_
    obtain ⟨y16,hy17,h⟩:=bind_some h
    refine qx_y rfl (y_call [.agg #[.int .i64 p0.fRise,.int .i64 p0.fFall,.int .i64 p0.fUp,.int .i64 p0.fDown,.slice A0_4 p0.fLooks.length c0_4],.agg #[.int .i64 ((rdL p1 s9.1).fFoot),.int .i64 ((rdL p1 s9.1).fHour)]] go_45 rfl (fun W2 hW2 => ref02_ends_ok p0 (TSpot.mk ((rdL p1 s9.1).fFoot) ((rdL p1 s9.1).fHour)) y16 hy17 W2 A0_4 p0.fLooks.length c0_4 rfl ((RdL.arg hr0_4) W2 hW2)) rfl) ?_
    refine qx_y rfl (y_field1 [.int .i64 y16.fLo,.int .i64 y16.fHi] (v:=.int .i64 y16.fLo) fd_28_0 sc_3 rfl rfl) ?_
    refine qx_y rfl (y_assign_int rfl) ?_
    refine qx_nil ?_
    refine ox_nil (ex_then (cx_seq ?_))
    refine cx_draws 21 mixed (by kernel_rfl) (by kernel_rfl) ?_
    refine qx_y rfl (y_move_int rfl) ?_
    refine qx_y rfl (y_move_int rfl) ?_
    refine qx_y rfl (y_gtr rfl rfl) ?_
    refine qx_y rfl (y_move_bool rfl) ?_
    obtain ⟨b19,hb20,h⟩:=bind_some h
    refine qx_join 17 (fun tm0 => (upd (upd (upd (upd (upd (upd (upd (upd (upd (upd (upd (upd (upd (upd (upd tm0 0 (.agg #[.int .i64 p0.fRise,.int .i64 p0.fFall,.int .i64 p0.fUp,.int .i64 p0.fDown,.slice A0_4 p0.fLooks.length c0_4])) 1 (.slice A1_0 p1.length c1_0)) 2 (.agg #[.int .i64 p2.fFoot,.int .i64 p2.fHour])) 3 (.int .i64 p3)) 4 (.pointer (some ⟨b1,0,none⟩))) 6 (.pointer (some ⟨b2,0,none⟩))) 8 (.pointer (some ⟨b3,0,none⟩))) 9 (.int .i64 y4)) 20 (.bool (y4 != 0))) 10 (.slice A3_s9 s9.2.length c3_s9)) 11 (.int .i64 s9.1)) 26 (.bool (decide (s9.1 < (p1.length:Int))))) 12 (.int .i64 y13)) 13 (.int .i64 y16.fLo)) 64 (.bool b19))) (fun tm0 => ?_) (fun key => ?_)
    ·refine qx_nil ?_
     refine ox_nil (ex_then ?_)
     rcases ite_some h with ⟨hp21,h⟩ | ⟨hp21,h⟩
     ·refine cx_true (congrArg Value.bool hp21) ?_
      refine cx_region ?_
      refine ox_y rfl (y_move_slice rfl) ?_
      refine ox_y rfl (y_move_int rfl) ?_
      refine ox_buildSliceE 1 (encL cI [s9.1]) _ mc_3_1 us_39 ze_3 by_3 (by decide) (by decide) (by kernel_rfl) (encL_len cI_len rfl) rfl (fun b22 => ?_)
      obtain ⟨hg25,h⟩:=guardO_some h
      refine ox_append0 3 us_39 ze_3 by_3 rfl rfl rfl (RdL.row 4 rfl) (encL_len cI_len rfl) (encL_one cI_one _) (app_room hg25 (by decide)) rfl (fun A23 c24 => ?_)
      refine ox_y rfl (y_assign_slice rfl) ?_
      refine ox_nil ?_
      refine ex_block ?_
      refine ex_then (cx_region ?_)
      refine ox_y rfl (y_move_int rfl) ?_
      refine ox_y rfl (y_add rfl rfl) ?_
      refine ox_y rfl (y_assign_int rfl) ?_
      refine ox_nil ?_
      refine ex_take 4 ?_
      obtain rfl:=Option.some.inj h
      exact ex_next ⟨_,A23,c24,(s9.2.length + 1),(hn_app rfl rfl),rfl,(keep (keep (keep (keep (keep (keep (keep (keep (keep (keep (keep rfl rfl) rfl) rfl) rfl) rfl) rfl) rfl) rfl) rfl) rfl) rfl)⟩
     ·refine cx_false (congrArg Value.bool hp21) ?_
      refine cx_skip ?_
      refine ex_block ?_
      refine ex_then (cx_region ?_)
      refine ox_y rfl (y_move_int rfl) ?_
      refine ox_y rfl (y_add rfl rfl) ?_
      refine ox_y rfl (y_assign_int rfl) ?_
      refine ox_nil ?_
      obtain rfl:=Option.some.inj h
      exact ex_next ⟨_,A3_s9,c3_s9,s9.2.length,rfl,rfl,(keep (keep (keep (keep (keep (keep (keep (keep (keep (keep (keep rfl rfl) rfl) rfl) rfl) rfl) rfl) rfl) rfl) rfl) rfl) rfl)⟩
    ·clear h; rcases ite_some hb20 with ⟨hp18,h⟩ | ⟨hp18,h⟩
     ·refine qx_y (sees_t rfl rfl rfl rfl hp18) (y_loadN 0 [.int .i64 p0.fRise,.int .i64 p0.fFall,.int .i64 p0.fUp,.int .i64 p0.fDown,.slice A0_4 p0.fLooks.length c0_4] ag_24 rfl rfl rfl) ?_
      refine qx_y (sees_t rfl rfl rfl rfl hp18) (y_loadN 1 [.int .i64 p2.fFoot,.int .i64 p2.fHour] ag_26 rfl rfl rfl) ?_
      obtain ⟨y26,hy27,h⟩:=bind_some h
      refine qx_y (sees_t rfl rfl rfl rfl hp18) (y_call [.agg #[.int .i64 p0.fRise,.int .i64 p0.fFall,.int .i64 p0.fUp,.int .i64 p0.fDown,.slice A0_4 p0.fLooks.length c0_4],.agg #[.int .i64 p2.fFoot,.int .i64 p2.fHour]] go_45 rfl (fun W2 hW2 => ref02_ends_ok p0 p2 y26 hy27 W2 A0_4 p0.fLooks.length c0_4 rfl ((RdL.arg hr0_4) W2 hW2)) rfl) ?_
      refine qx_y (sees_t rfl rfl rfl rfl hp18) (y_field1 [.int .i64 y26.fLo,.int .i64 y26.fHi] (v:=.int .i64 y26.fHi) fd_28_1 sc_3 rfl rfl) ?_
      refine qx_y (sees_t rfl rfl rfl rfl hp18) (y_move_int rfl) ?_
      refine qx_y (sees_t rfl rfl rfl rfl hp18) (y_loadN 0 [.int .i64 p0.fRise,.int .i64 p0.fFall,.int .i64 p0.fUp,.int .i64 p0.fDown,.slice A0_4 p0.fLooks.length c0_4] ag_24 rfl rfl rfl) ?_
      refine qx_y (sees_t rfl rfl rfl rfl hp18) (y_move_slice rfl) ?_
      refine qx_y (sees_t rfl rfl rfl rfl hp18) (y_move_int rfl) ?_
      obtain ⟨hg28,h⟩:=guardO_some h
      refine qx_y (sees_t rfl rfl rfl rfl hp18) (y_indexR sl_50 (by decide) hg28.1 hg28.2 (RdL.arg hr1_0) (encL_len TSpot_cells_len rfl) rfl rfl) ?_
      refine qx_y (sees_t rfl rfl rfl rfl hp18) (y_loadRN (A:=A1_0) (j:=(Int.toNat s9.1 * 2)) [.int .i64 ((rdL p1 s9.1).fFoot),.int .i64 ((rdL p1 s9.1).fHour)] ag_26 (Nat.succ_pos _) (RdL.arg hr1_0) rfl (encL_gets TSpot_cells_len hg28.1 (lt_nat hg28.2 rfl))) ?_
      refine qx_y (sees_t rfl rfl rfl rfl hp18) (y_loadN 1 [.int .i64 p2.fFoot,.int .i64 p2.fHour] ag_26 rfl rfl rfl) ?_
      obtain ⟨y29,hy30,h⟩:=bind_some h
      refine qx_y (sees_t rfl rfl rfl rfl hp18) (y_call [.agg #[.int .i64 p0.fRise,.int .i64 p0.fFall,.int .i64 p0.fUp,.int .i64 p0.fDown,.slice A0_4 p0.fLooks.length c0_4],.agg #[.int .i64 ((rdL p1 s9.1).fFoot),.int .i64 ((rdL p1 s9.1).fHour)],.agg #[.int .i64 p2.fFoot,.int .i64 p2.fHour]] go_64 rfl (fun W2 hW2 => ref02_far_ok p0 (TSpot.mk ((rdL p1 s9.1).fFoot) ((rdL p1 s9.1).fHour)) p2 y29 hy30 W2 A0_4 p0.fLooks.length c0_4 rfl ((RdL.arg hr0_4) W2 hW2)) rfl) ?_
      refine qx_y (sees_t rfl rfl rfl rfl hp18) (y_add rfl rfl) ?_
      refine qx_y (sees_t rfl rfl rfl rfl hp18) (y_min rfl rfl) ?_
      refine qx_y (sees_t rfl rfl rfl rfl hp18) (y_move_int rfl) ?_
      refine qx_y (sees_t rfl rfl rfl rfl hp18) (y_lss rfl rfl) ?_
      refine qx_y rfl (y_pick_tb (congrArg Value.bool hp18) rfl) ?_
      obtain rfl:=Option.some.inj h
      exact key _ _ (keep (keep (keep (keep (keep (keep (keep (keep (keep (keep (keep (keep (keep (keep (keep rfl rfl) rfl) rfl) rfl) rfl) rfl) rfl) rfl) rfl) rfl) rfl) rfl) rfl) rfl) rfl)
     ·refine qx_skip (sees_f rfl rfl rfl rfl hp18) ?_
      refine qx_skip (sees_f rfl rfl rfl rfl hp18) ?_
      refine qx_skip (sees_f rfl rfl rfl rfl hp18) ?_
      refine qx_skip (sees_f rfl rfl rfl rfl hp18) ?_
      refine qx_skip (sees_f rfl rfl rfl rfl hp18) ?_
      refine qx_skip (sees_f rfl rfl rfl rfl hp18) ?_
      refine qx_skip (sees_f rfl rfl rfl rfl hp18) ?_
      refine qx_skip (sees_f rfl rfl rfl rfl hp18) ?_
      refine qx_skip (sees_f rfl rfl rfl rfl hp18) ?_
      refine qx_skip (sees_f rfl rfl rfl rfl hp18) ?_
      refine qx_skip (sees_f rfl rfl rfl rfl hp18) ?_
      refine qx_skip (sees_f rfl rfl rfl rfl hp18) ?_
      refine qx_skip (sees_f rfl rfl rfl rfl hp18) ?_
      refine qx_skip (sees_f rfl rfl rfl rfl hp18) ?_
      refine qx_skip (sees_f rfl rfl rfl rfl hp18) ?_
      refine qx_skip (sees_f rfl rfl rfl rfl hp18) ?_
      refine qx_y rfl (y_pick_fb (congrArg Value.bool hp18) rfl) ?_
      obtain rfl:=Option.some.inj h
      exact key _ _ (keep (keep (keep (keep (keep (keep (keep (keep (keep (keep (keep (keep (keep (keep (keep rfl rfl) rfl) rfl) rfl) rfl) rfl) rfl) rfl) rfl) rfl) rfl) rfl) rfl) rfl) rfl)
   ·refine cx_false (congrArg Value.bool hp11) ?_
    refine cx_exit ?_
    refine ex_then_exit ?_
    obtain rfl:=Option.some.inj h
    exact ex_stop ⟨rfl,_,A3_s9,c3_s9,s9.2.length,rfl,rfl,(keep (keep (keep (keep (keep (keep (keep (keep (keep (keep (keep rfl rfl) rfl) rfl) rfl) rfl) rfl) rfl) rfl) rfl) rfl) rfl)⟩
  ·intro e L tm hJ
   obtain ⟨rfl,tm0_u10,A3_u10,c3_u10,n3_u10,rfl,rfl,rfl⟩:=hJ
   refine ⟨(by intro hc; cases hc),?_⟩
   refine ex_block_here ?_
   refine ex_then (cx_seq (cx_region ?_))
   refine ox_y rfl (y_move_slice rfl) ?_
   refine ox_y rfl (y_buildS [.slice A3_u10 u10.2.length c3_u10,.int .i64 0] [(0,1),(1,1)] ust_43 ze_43 (by kernel_rfl)) ?_
   refine ox_n rfl (y_storeN 2 [.slice A3_u10 u10.2.length c3_u10,.int .i64 0] sz_43 rfl (Nat.le_of_ble_eq_true rfl) rfl rfl rfl) ?_
   refine ox_nil (ex_then (cx_ret ?_))
   obtain rfl:=Option.some.inj h
   exact ex_res1 (.inl rfl) rfl (resV_cellN 2 [.slice A3_u10 u10.2.length c3_u10,.int .i64 0] ag_43 rfl rfl rfl) (fun W2 hW2 => ⟨(A3_u10,u10.2.length,c3_u10),rfl,rfl,(hW2.pick 3 rfl)⟩)

end Go.Proofs.YtndajeiecdmhnaaGreat
