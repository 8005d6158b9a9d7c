/- The calls hand back what the plain functions say. -/
import Derived.Test.YtndajeiecdmhnaaGreatF
import Derived.Test.YtndajeiecdmhnaaGreatGy
import Derived.Test.YtndajeiecdmhnaaGreatGz
import Derived.Test.YtndajeiecdmhnaaGreatC0
import Derived.Test.YtndajeiecdmhnaaGreatC1
import Derived.Test.YtndajeiecdmhnaaGreatC2
set_option linter.unusedVariables false
set_option maxHeartbeats 4000000
set_option maxRecDepth 100000
namespace Go.Proofs.YtndajeiecdmhnaaGreat
open Go.RowKit (Below)
attribute [local irreducible] OX QX CX EX OpY Calls CallsIn

theorem fire_ends_ok (p0_f:TFire) (p1_at:TSpot) (res:TBounds) (h:fire_ends p0_f p1_at = some res) (W:World) (A0_4:Option Addr) (n0_4 c0_4 : Nat) (hn0_4:n0_4 = p0_f.fLooks.length) (hr0_4:Rd W A0_4 n0_4 c0_4 (encL TLook_cells p0_f.fLooks)) :
  Calls Tryz.prog 39 [.agg #[.int .i64 p0_f.fRise,.int .i64 p0_f.fFall,.int .i64 p0_f.fUp,.int .i64 p0_f.fDown,.slice A0_4 n0_4 c0_4],.agg #[.int .i64 p1_at.fFoot,.int .i64 p1_at.fHour]].toArray W fun e W2 => e = .returned (.agg #[.int .i64 res.fSpan.fLo,.int .i64 res.fSpan.fHi,.int .i64 res.fLow,.int .i64 res.fHigh]) ∧ Ext W W2 []:=by
 subst hn0_4
 unfold fire_ends at h
 refine calls_enter (m:=43) Tryz.func39 rfl rfl (Nat.le_of_ble_eq_true rfl) ?_
 refine cx_seq (cx_region ?_)
 refine ox_box [.int .i64 p0_f.fRise,.int .i64 p0_f.fFall,.int .i64 p0_f.fUp,.int .i64 p0_f.fDown,.slice A0_4 p0_f.fLooks.length c0_4] rfl rfl rfl (fun b1 => ?_)
 refine ox_box [.int .i64 p1_at.fFoot,.int .i64 p1_at.fHour] rfl rfl rfl (fun b2 => ?_)
 refine ox_alloc ze_30 rfl (fun b3 => ?_)
 refine ox_nil (ex_then (cx_seq (cx_region ?_)))
 refine ox_alloc ze_30 rfl (fun b4 => ?_)
 refine ox_nil (ex_then (cx_seq ?_))
 obtain ⟨y6,hy7,h⟩:=bind_some h
 obtain ⟨y13,hy14,h⟩:=bind_some h
 obtain ⟨y20,hy21,h⟩:=bind_some h
 refine cx_drawsG [[],[0],[],[],[0,1,2,3],[0,1,2,3,4],[0,1,2,3,4,5],[0,1,2,3,4,5,6],[0,1,2,3,4,5,6],[0,1,2,3,4,5,6],[],[0,1,2,3,4,5,6,7,10],[0,1,2,3,4,5,6,7,8,10,11],[0,1,2,3,4,5,6,7,8,9,10,11,12]] [(none,0,[true,true,true,true]),(none,2,[true,true,true,true]),(none,0,[true,true,true,true,false,false]),(none,0,[true,true,true,true,false,false]),(none,2,[true,true,true,true,true,true]),(none,0,[true,true,true,true,true,true,true,true]),(none,0,[true,true,true,true,true,true,true,true]),(none,0,[true,true,true,true,true,true,true,true]),(none,0,[true,true,true,true,true,true,true,true]),(none,0,[true,true,true,true,true,true,true,true]),(none,1,[true,true,true,true,false,false,false,false]),(none,0,[true,true,true,true,true,true,true,true,true]),(some 8,0,[true,true,true,true,true,true,true,true,true]),(none,0,[true,true,true,true,true,true,true,true,true])] [⟨fun _ => .agg #[.int .i64 p0_f.fRise,.int .i64 p0_f.fFall,.int .i64 p0_f.fUp,.int .i64 p0_f.fDown,.slice A0_4 p0_f.fLooks.length c0_4],fun _ => noR,fun _ => []⟩,⟨fun ξ5 => .func (.func 107) #[] #[.pointer (some ⟨(ξ5 1 0).2.1,0,none⟩)],fun _ => noR,fun ξ5 => [cellsR (ξ5 1 0).2.1 22 [.slice (ξ5 1 1).1 y6.length (ξ5 1 1).2.2],rowR (ξ5 1 1).1 (ξ5 1 1).2.2 49 5 y6.length (encL TLook_cells y6)]⟩,⟨fun _ => .agg #[.int .i64 p0_f.fRise,.int .i64 p0_f.fFall,.int .i64 p0_f.fUp,.int .i64 p0_f.fDown,.slice A0_4 p0_f.fLooks.length c0_4],fun _ => noR,fun _ => []⟩,⟨fun _ => .agg #[.int .i64 p1_at.fFoot,.int .i64 p1_at.fHour],fun _ => noR,fun _ => []⟩,⟨fun ξ5 => .func (.func 93) #[] #[.pointer (some ⟨(ξ5 4 0).2.1,0,none⟩),.pointer (some ⟨(ξ5 4 1).2.1,0,none⟩)],fun _ => noR,fun ξ5 => [cellsR (ξ5 4 0).2.1 24 [.int .i64 p0_f.fRise,.int .i64 p0_f.fFall,.int .i64 p0_f.fUp,.int .i64 p0_f.fDown,.slice A0_4 p0_f.fLooks.length c0_4],cellsR (ξ5 4 1).2.1 26 [.int .i64 p1_at.fFoot,.int .i64 p1_at.fHour]]⟩,⟨fun _ => .tuple #[.int .i64 y20.1,.agg #[.int .i64 y20.2.1.fID,.int .i64 y20.2.1.fAt.fFoot,.int .i64 y20.2.1.fAt.fHour,.int .i64 y20.2.1.fHeat.fLo,.int .i64 y20.2.1.fHeat.fHi],.bool y20.2.2],fun _ => noR,fun _ => []⟩,⟨fun _ => .tuple #[.int .i64 y20.1,.agg #[.int .i64 y20.2.1.fID,.int .i64 y20.2.1.fAt.fFoot,.int .i64 y20.2.1.fAt.fHour,.int .i64 y20.2.1.fHeat.fLo,.int .i64 y20.2.1.fHeat.fHi],.bool y20.2.2],fun _ => noR,fun _ => []⟩,⟨fun _ => .int .i64 y20.1,fun _ => noR,fun _ => []⟩,⟨fun _ => .agg #[.int .i64 y20.2.1.fID,.int .i64 y20.2.1.fAt.fFoot,.int .i64 y20.2.1.fAt.fHour,.int .i64 y20.2.1.fHeat.fLo,.int .i64 y20.2.1.fHeat.fHi],fun _ => noR,fun _ => []⟩,⟨fun _ => .bool y20.2.2,fun _ => noR,fun _ => []⟩,⟨fun ξ5 => .pointer (some ⟨(ξ5 10 0).2.1,0,none⟩),fun _ => noR,fun ξ5 => [cellsR (ξ5 10 0).2.1 49 [.int .i64 0,.int .i64 0,.int .i64 0,.int .i64 0,.int .i64 0]]⟩,⟨fun _ => .int .i64 y20.1,fun _ => noR,fun _ => []⟩,⟨fun _ => undef,fun ξ5 => cellsR (ξ5 10 0).2.1 49 [.int .i64 y20.2.1.fID,.int .i64 y20.2.1.fAt.fFoot,.int .i64 y20.2.1.fAt.fHour,.int .i64 y20.2.1.fHeat.fLo,.int .i64 y20.2.1.fHeat.fHi],fun _ => []⟩,⟨fun _ => .bool y20.2.2,fun _ => noR,fun _ => []⟩] 4 mixed (by kernel_rfl) (by kernel_rfl) ⟨⟨fun ξ5 ξ5' h => ⟨rfl,rfl,rfl⟩,fun _ => rfl⟩,⟨fun ξ5 ξ5' h => ⟨by simp only [h 1 (.inl rfl)],rfl,by simp only [h 1 (.inl rfl)]⟩,fun _ => rfl⟩,⟨fun ξ5 ξ5' h => ⟨rfl,rfl,rfl⟩,fun _ => rfl⟩,⟨fun ξ5 ξ5' h => ⟨rfl,rfl,rfl⟩,fun _ => rfl⟩,⟨fun ξ5 ξ5' h => ⟨by simp only [h 4 (.inl rfl)],rfl,by simp only [h 4 (.inl rfl)]⟩,fun _ => rfl⟩,⟨fun ξ5 ξ5' h => ⟨rfl,rfl,rfl⟩,fun _ => rfl⟩,⟨fun ξ5 ξ5' h => ⟨rfl,rfl,rfl⟩,fun _ => rfl⟩,⟨fun ξ5 ξ5' h => ⟨rfl,rfl,rfl⟩,fun _ => rfl⟩,⟨fun ξ5 ξ5' h => ⟨rfl,rfl,rfl⟩,fun _ => rfl⟩,⟨fun ξ5 ξ5' h => ⟨rfl,rfl,rfl⟩,fun _ => rfl⟩,⟨fun ξ5 ξ5' h => ⟨by simp only [h 10 (.inl rfl)],rfl,by simp only [h 10 (.inl rfl)]⟩,fun _ => rfl⟩,⟨fun ξ5 ξ5' h => ⟨rfl,rfl,rfl⟩,fun _ => rfl⟩,⟨fun ξ5 ξ5' h => ⟨rfl,by simp only [h 10 (.inr rfl)],rfl⟩,fun _ => rfl⟩,⟨fun ξ5 ξ5' h => ⟨rfl,rfl,rfl⟩,fun _ => rfl⟩,trivial⟩ rfl (fun ξ5 => ?_)
 refine gx_o rfl (fun L2 => ?_) ?_
 ·dsimp only [maskL,lca,lna]
  refine ox_y rfl (y_loadN 0 [.int .i64 p0_f.fRise,.int .i64 p0_f.fFall,.int .i64 p0_f.fUp,.int .i64 p0_f.fDown,.slice A0_4 p0_f.fLooks.length c0_4] ag_24 rfl rfl rfl) ?_
  refine ox_nil ?_
  exact ex_capG (fun _ => (none,0,0)) rfl (List.append_nil _)
 dsimp only [aftL,lsz,lss,lna,lca,List.append_nil]
 refine gx_o rfl (fun L2 => ?_) ?_
 ·dsimp only [maskL,lca,lna]
  refine ox_call [.agg #[.int .i64 p0_f.fRise,.int .i64 p0_f.fFall,.int .i64 p0_f.fUp,.int .i64 p0_f.fDown,.slice A0_4 p0_f.fLooks.length c0_4]] _ _ _ rfl go_84 rfl (fun W2 hW2 => fire_sorted_ok p0_f y6 hy7 W2 A0_4 p0_f.fLooks.length c0_4 rfl ((RdL.arg hr0_4) W2 hW2)) ?_
  rintro ⟨b8,A9,n11,c10⟩ hn12
  replace hn12 : n11 = y6.length:=hn12; subst hn12
  refine ox_nil ?_
  exact ex_capG (fun q => if q = 0 then (none,b8,0) else (A9,0,c10)) rfl rfl
 dsimp only [aftL,lsz,lss,lna,lca,List.append_nil]
 refine gx_o rfl (fun L2 => ?_) ?_
 ·dsimp only [maskL,lca,lna]
  refine ox_y rfl (y_loadN 0 [.int .i64 p0_f.fRise,.int .i64 p0_f.fFall,.int .i64 p0_f.fUp,.int .i64 p0_f.fDown,.slice A0_4 p0_f.fLooks.length c0_4] ag_24 rfl rfl rfl) ?_
  refine ox_nil ?_
  exact ex_capG (fun _ => (none,0,0)) rfl (List.append_nil _)
 dsimp only [aftL,lsz,lss,lna,lca,List.append_nil]
 refine gx_o rfl (fun L2 => ?_) ?_
 ·dsimp only [maskL,lca,lna]
  refine ox_y rfl (y_loadN 1 [.int .i64 p1_at.fFoot,.int .i64 p1_at.fHour] ag_26 rfl rfl rfl) ?_
  refine ox_nil ?_
  exact ex_capG (fun _ => (none,0,0)) rfl (List.append_nil _)
 dsimp only [aftL,lsz,lss,lna,lca,List.append_nil]
 refine gx_o rfl (fun L2 => ?_) ?_
 ·dsimp only [maskL,lca,lna]
  refine ox_call1 [.agg #[.int .i64 p0_f.fRise,.int .i64 p0_f.fFall,.int .i64 p0_f.fUp,.int .i64 p0_f.fDown,.slice A0_4 p0_f.fLooks.length c0_4],.agg #[.int .i64 p1_at.fFoot,.int .i64 p1_at.fHour]] _ _ rfl go_50 rfl (fun W2 hW2 => fire_low_ok p0_f p1_at y13 hy14 W2 A0_4 p0_f.fLooks.length c0_4 rfl ((RdL.arg hr0_4) W2 hW2)) ?_
  rintro ⟨b15,b16⟩
  refine ox_nil ?_
  exact ex_capG (fun q => if q = 0 then (none,b15,0) else (none,b16,0)) rfl rfl
 dsimp only [aftL,lsz,lss,lna,lca,List.append_nil]
 refine gx_o rfl (fun L2 => ?_) ?_
 ·dsimp only [maskL,lca,lna]
  refine ox_y rfl (y_call [.func (.func 107) #[] #[.pointer (some ⟨(ξ5 1 0).2.1,0,none⟩)],.int .i64 0,.func (.func 93) #[] #[.pointer (some ⟨(ξ5 4 0).2.1,0,none⟩),.pointer (some ⟨(ξ5 4 1).2.1,0,none⟩)],.func (.func 85) #[] #[]] go_83 rfl (fun W2 hW2 => fire_best_Look_ok y6 0 (fun x17 => fire_low_1 x17 p0_f p1_at) (fun x18 x19 => fire_more x18 x19) y20 hy21 W2 (ξ5 1 0).2.1 (ξ5 1 1).1 y6.length (ξ5 1 1).2.2 rfl (hW2.mem (i:=4) rfl) ((RdL.row 5 rfl) W2 hW2) 93 [.pointer (some ⟨(ξ5 4 0).2.1,0,none⟩),.pointer (some ⟨(ξ5 4 1).2.1,0,none⟩)] go_93 (fun W3 hb x y hxy => fire_low_1_ok x p0_f p1_at y hxy W3 (ξ5 4 0).2.1 A0_4 p0_f.fLooks.length c0_4 rfl (((RdL.arg hr0_4) W2 hW2).later hb) (((RdL.cells 6 rfl) W2 hW2).later hb) (ξ5 4 1).2.1 (((RdL.cells 7 rfl) W2 hW2).later hb)) 85 [] go_85 (fun W3 hb x0 x1 y hxy => fire_more_ok x0 x1  y hxy W3 )) rfl) ?_
  refine ox_nil ?_
  exact ex_capG (fun _ => (none,0,0)) rfl (List.append_nil _)
 dsimp only [aftL,lsz,lss,lna,lca,List.append_nil]
 refine gx_o rfl (fun L2 => ?_) ?_
 ·dsimp only [maskL,lca,lna]
  refine ox_y rfl (y_move_tuple rfl) ?_
  refine ox_nil ?_
  exact ex_capG (fun _ => (none,0,0)) rfl (List.append_nil _)
 dsimp only [aftL,lsz,lss,lna,lca,List.append_nil]
 refine gx_o rfl (fun L2 => ?_) ?_
 ·dsimp only [maskL,lca,lna]
  refine ox_y rfl (y_extract (vs:=[.int .i64 y20.1,.agg #[.int .i64 y20.2.1.fID,.int .i64 y20.2.1.fAt.fFoot,.int .i64 y20.2.1.fAt.fHour,.int .i64 y20.2.1.fHeat.fLo,.int .i64 y20.2.1.fHeat.fHi],.bool y20.2.2]) (v:=.int .i64 y20.1) rfl rfl) ?_
  refine ox_nil ?_
  exact ex_capG (fun _ => (none,0,0)) rfl (List.append_nil _)
 dsimp only [aftL,lsz,lss,lna,lca,List.append_nil]
 refine gx_o rfl (fun L2 => ?_) ?_
 ·dsimp only [maskL,lca,lna]
  refine ox_y rfl (y_extract (vs:=[.int .i64 y20.1,.agg #[.int .i64 y20.2.1.fID,.int .i64 y20.2.1.fAt.fFoot,.int .i64 y20.2.1.fAt.fHour,.int .i64 y20.2.1.fHeat.fLo,.int .i64 y20.2.1.fHeat.fHi],.bool y20.2.2]) (v:=.agg #[.int .i64 y20.2.1.fID,.int .i64 y20.2.1.fAt.fFoot,.int .i64 y20.2.1.fAt.fHour,.int .i64 y20.2.1.fHeat.fLo,.int .i64 y20.2.1.fHeat.fHi]) rfl rfl) ?_
  refine ox_nil ?_
  exact ex_capG (fun _ => (none,0,0)) rfl (List.append_nil _)
 dsimp only [aftL,lsz,lss,lna,lca,List.append_nil]
 refine gx_o rfl (fun L2 => ?_) ?_
 ·dsimp only [maskL,lca,lna]
  refine ox_y rfl (y_extract (vs:=[.int .i64 y20.1,.agg #[.int .i64 y20.2.1.fID,.int .i64 y20.2.1.fAt.fFoot,.int .i64 y20.2.1.fAt.fHour,.int .i64 y20.2.1.fHeat.fLo,.int .i64 y20.2.1.fHeat.fHi],.bool y20.2.2]) (v:=.bool y20.2.2) rfl rfl) ?_
  refine ox_nil ?_
  exact ex_capG (fun _ => (none,0,0)) rfl (List.append_nil _)
 dsimp only [aftL,lsz,lss,lna,lca,List.append_nil]
 refine gx_o rfl (fun L2 => ?_) ?_
 ·dsimp only [maskL,lca,lna]
  refine ox_alloc ze_49 rfl (fun b22 => ?_)
  refine ox_nil ?_
  exact ex_capG (fun _ => (none,b22,0)) rfl rfl
 dsimp only [aftL,lsz,lss,lna,lca,List.append_nil]
 refine gx_o rfl (fun L2 => ?_) ?_
 ·dsimp only [maskL,lca,lna]
  refine ox_y rfl (y_assign_int rfl) ?_
  refine ox_nil ?_
  exact ex_capG (fun _ => (none,0,0)) rfl (List.append_nil _)
 dsimp only [aftL,lsz,lss,lna,lca,List.append_nil]
 refine gx_n rfl (fun L2 => ?_) ?_
 ·dsimp only [maskL,lca,lna]
  refine ox_n rfl (y_storeN 8 [.int .i64 y20.2.1.fID,.int .i64 y20.2.1.fAt.fFoot,.int .i64 y20.2.1.fAt.fHour,.int .i64 y20.2.1.fHeat.fLo,.int .i64 y20.2.1.fHeat.fHi] sz_49 rfl (Nat.le_of_ble_eq_true rfl) rfl rfl rfl) ?_
  refine ox_nil ?_
  exact ex_capGn (fun _ => (none,0,0)) (List.append_nil _)
 dsimp only [aftL,lsz,lss,lna,lca,List.append_nil]
 refine gx_o rfl (fun L2 => ?_) ?_
 ·dsimp only [maskL,lca,lna]
  refine ox_y rfl (y_assign_bool rfl) ?_
  refine ox_nil ?_
  exact ex_capG (fun _ => (none,0,0)) rfl (List.append_nil _)
 dsimp only [aftL,lsz,lss,lna,lca,List.append_nil]
 refine gx_nil ?_
 refine ex_then (cx_seq ?_)
 obtain ⟨y24,hy25,h⟩:=bind_some h
 obtain ⟨y31,hy32,h⟩:=bind_some h
 obtain ⟨y38,hy39,h⟩:=bind_some h
 refine cx_drawsG [[],[0],[],[],[0,1,2,3],[0,1,2,3,4],[0,1,2,3,4,5],[0,1,2,3,4,5,6],[0,1,2,3,4,5,6],[0,1,2,3,4,5,6],[],[0,1,2,3,4,5,6,7,10],[0,1,2,3,4,5,6,7,8,10,11],[0,1,2,3,4,5,6,7,8,9,10,11,12]] [(none,0,[true,true,true,true,true,true,true,true,true]),(none,2,[true,true,true,true,true,true,true,true,true]),(none,0,[true,true,true,true,true,true,true,true,true,false,false]),(none,0,[true,true,true,true,true,true,true,true,true,false,false]),(none,2,[true,true,true,true,true,true,true,true,true,true,true]),(none,0,[true,true,true,true,true,true,true,true,true,true,true,true,true]),(none,0,[true,true,true,true,true,true,true,true,true,true,true,true,true]),(none,0,[true,true,true,true,true,true,true,true,true,true,true,true,true]),(none,0,[true,true,true,true,true,true,true,true,true,true,true,true,true]),(none,0,[true,true,true,true,true,true,true,true,true,true,true,true,true]),(none,1,[true,true,true,true,true,true,true,true,true,false,false,false,false]),(none,0,[true,true,true,true,true,true,true,true,true,true,true,true,true,true]),(some 13,0,[true,true,true,true,true,true,true,true,true,true,true,true,true,true]),(none,0,[true,true,true,true,true,true,true,true,true,true,true,true,true,true])] [⟨fun _ => .agg #[.int .i64 p0_f.fRise,.int .i64 p0_f.fFall,.int .i64 p0_f.fUp,.int .i64 p0_f.fDown,.slice A0_4 p0_f.fLooks.length c0_4],fun _ => noR,fun _ => []⟩,⟨fun ξ23 => .func (.func 107) #[] #[.pointer (some ⟨(ξ23 1 0).2.1,0,none⟩)],fun _ => noR,fun ξ23 => [cellsR (ξ23 1 0).2.1 22 [.slice (ξ23 1 1).1 y24.length (ξ23 1 1).2.2],rowR (ξ23 1 1).1 (ξ23 1 1).2.2 49 5 y24.length (encL TLook_cells y24)]⟩,⟨fun _ => .agg #[.int .i64 p0_f.fRise,.int .i64 p0_f.fFall,.int .i64 p0_f.fUp,.int .i64 p0_f.fDown,.slice A0_4 p0_f.fLooks.length c0_4],fun _ => noR,fun _ => []⟩,⟨fun _ => .agg #[.int .i64 p1_at.fFoot,.int .i64 p1_at.fHour],fun _ => noR,fun _ => []⟩,⟨fun ξ23 => .func (.func 94) #[] #[.pointer (some ⟨(ξ23 4 0).2.1,0,none⟩),.pointer (some ⟨(ξ23 4 1).2.1,0,none⟩)],fun _ => noR,fun ξ23 => [cellsR (ξ23 4 0).2.1 24 [.int .i64 p0_f.fRise,.int .i64 p0_f.fFall,.int .i64 p0_f.fUp,.int .i64 p0_f.fDown,.slice A0_4 p0_f.fLooks.length c0_4],cellsR (ξ23 4 1).2.1 26 [.int .i64 p1_at.fFoot,.int .i64 p1_at.fHour]]⟩,⟨fun _ => .tuple #[.int .i64 y38.1,.agg #[.int .i64 y38.2.1.fID,.int .i64 y38.2.1.fAt.fFoot,.int .i64 y38.2.1.fAt.fHour,.int .i64 y38.2.1.fHeat.fLo,.int .i64 y38.2.1.fHeat.fHi],.bool y38.2.2],fun _ => noR,fun _ => []⟩,⟨fun _ => .tuple #[.int .i64 y38.1,.agg #[.int .i64 y38.2.1.fID,.int .i64 y38.2.1.fAt.fFoot,.int .i64 y38.2.1.fAt.fHour,.int .i64 y38.2.1.fHeat.fLo,.int .i64 y38.2.1.fHeat.fHi],.bool y38.2.2],fun _ => noR,fun _ => []⟩,⟨fun _ => .int .i64 y38.1,fun _ => noR,fun _ => []⟩,⟨fun _ => .agg #[.int .i64 y38.2.1.fID,.int .i64 y38.2.1.fAt.fFoot,.int .i64 y38.2.1.fAt.fHour,.int .i64 y38.2.1.fHeat.fLo,.int .i64 y38.2.1.fHeat.fHi],fun _ => noR,fun _ => []⟩,⟨fun _ => .bool y38.2.2,fun _ => noR,fun _ => []⟩,⟨fun ξ23 => .pointer (some ⟨(ξ23 10 0).2.1,0,none⟩),fun _ => noR,fun ξ23 => [cellsR (ξ23 10 0).2.1 49 [.int .i64 0,.int .i64 0,.int .i64 0,.int .i64 0,.int .i64 0]]⟩,⟨fun _ => .int .i64 y38.1,fun _ => noR,fun _ => []⟩,⟨fun _ => undef,fun ξ23 => cellsR (ξ23 10 0).2.1 49 [.int .i64 y38.2.1.fID,.int .i64 y38.2.1.fAt.fFoot,.int .i64 y38.2.1.fAt.fHour,.int .i64 y38.2.1.fHeat.fLo,.int .i64 y38.2.1.fHeat.fHi],fun _ => []⟩,⟨fun _ => .bool y38.2.2,fun _ => noR,fun _ => []⟩] 9 mixed (by kernel_rfl) (by kernel_rfl) ⟨⟨fun ξ23 ξ23' h => ⟨rfl,rfl,rfl⟩,fun _ => rfl⟩,⟨fun ξ23 ξ23' h => ⟨by simp only [h 1 (.inl rfl)],rfl,by simp only [h 1 (.inl rfl)]⟩,fun _ => rfl⟩,⟨fun ξ23 ξ23' h => ⟨rfl,rfl,rfl⟩,fun _ => rfl⟩,⟨fun ξ23 ξ23' h => ⟨rfl,rfl,rfl⟩,fun _ => rfl⟩,⟨fun ξ23 ξ23' h => ⟨by simp only [h 4 (.inl rfl)],rfl,by simp only [h 4 (.inl rfl)]⟩,fun _ => rfl⟩,⟨fun ξ23 ξ23' h => ⟨rfl,rfl,rfl⟩,fun _ => rfl⟩,⟨fun ξ23 ξ23' h => ⟨rfl,rfl,rfl⟩,fun _ => rfl⟩,⟨fun ξ23 ξ23' h => ⟨rfl,rfl,rfl⟩,fun _ => rfl⟩,⟨fun ξ23 ξ23' h => ⟨rfl,rfl,rfl⟩,fun _ => rfl⟩,⟨fun ξ23 ξ23' h => ⟨rfl,rfl,rfl⟩,fun _ => rfl⟩,⟨fun ξ23 ξ23' h => ⟨by simp only [h 10 (.inl rfl)],rfl,by simp only [h 10 (.inl rfl)]⟩,fun _ => rfl⟩,⟨fun ξ23 ξ23' h => ⟨rfl,rfl,rfl⟩,fun _ => rfl⟩,⟨fun ξ23 ξ23' h => ⟨rfl,by simp only [h 10 (.inr rfl)],rfl⟩,fun _ => rfl⟩,⟨fun ξ23 ξ23' h => ⟨rfl,rfl,rfl⟩,fun _ => rfl⟩,trivial⟩ rfl (fun ξ23 => ?_)
 refine gx_o rfl (fun L2 => ?_) ?_
 ·dsimp only [maskL,lca,lna]
  refine ox_y rfl (y_loadN 0 [.int .i64 p0_f.fRise,.int .i64 p0_f.fFall,.int .i64 p0_f.fUp,.int .i64 p0_f.fDown,.slice A0_4 p0_f.fLooks.length c0_4] ag_24 rfl rfl rfl) ?_
  refine ox_nil ?_
  exact ex_capG (fun _ => (none,0,0)) rfl (List.append_nil _)
 dsimp only [aftL,lsz,lss,lna,lca,List.append_nil]
 refine gx_o rfl (fun L2 => ?_) ?_
 ·dsimp only [maskL,lca,lna]
  refine ox_call [.agg #[.int .i64 p0_f.fRise,.int .i64 p0_f.fFall,.int .i64 p0_f.fUp,.int .i64 p0_f.fDown,.slice A0_4 p0_f.fLooks.length c0_4]] _ _ _ rfl go_84 rfl (fun W2 hW2 => fire_sorted_ok p0_f y24 hy25 W2 A0_4 p0_f.fLooks.length c0_4 rfl ((RdL.arg hr0_4) W2 hW2)) ?_
  rintro ⟨b26,A27,n29,c28⟩ hn30
  replace hn30 : n29 = y24.length:=hn30; subst hn30
  refine ox_nil ?_
  exact ex_capG (fun q => if q = 0 then (none,b26,0) else (A27,0,c28)) rfl rfl
 dsimp only [aftL,lsz,lss,lna,lca,List.append_nil]
 refine gx_o rfl (fun L2 => ?_) ?_
 ·dsimp only [maskL,lca,lna]
  refine ox_y rfl (y_loadN 0 [.int .i64 p0_f.fRise,.int .i64 p0_f.fFall,.int .i64 p0_f.fUp,.int .i64 p0_f.fDown,.slice A0_4 p0_f.fLooks.length c0_4] ag_24 rfl rfl rfl) ?_
  refine ox_nil ?_
  exact ex_capG (fun _ => (none,0,0)) rfl (List.append_nil _)
 dsimp only [aftL,lsz,lss,lna,lca,List.append_nil]
 refine gx_o rfl (fun L2 => ?_) ?_
 ·dsimp only [maskL,lca,lna]
  refine ox_y rfl (y_loadN 1 [.int .i64 p1_at.fFoot,.int .i64 p1_at.fHour] ag_26 rfl rfl rfl) ?_
  refine ox_nil ?_
  exact ex_capG (fun _ => (none,0,0)) rfl (List.append_nil _)
 dsimp only [aftL,lsz,lss,lna,lca,List.append_nil]
 refine gx_o rfl (fun L2 => ?_) ?_
 ·dsimp only [maskL,lca,lna]
  refine ox_call1 [.agg #[.int .i64 p0_f.fRise,.int .i64 p0_f.fFall,.int .i64 p0_f.fUp,.int .i64 p0_f.fDown,.slice A0_4 p0_f.fLooks.length c0_4],.agg #[.int .i64 p1_at.fFoot,.int .i64 p1_at.fHour]] _ _ rfl go_51 rfl (fun W2 hW2 => fire_high_ok p0_f p1_at y31 hy32 W2 A0_4 p0_f.fLooks.length c0_4 rfl ((RdL.arg hr0_4) W2 hW2)) ?_
  rintro ⟨b33,b34⟩
  refine ox_nil ?_
  exact ex_capG (fun q => if q = 0 then (none,b33,0) else (none,b34,0)) rfl rfl
 dsimp only [aftL,lsz,lss,lna,lca,List.append_nil]
 refine gx_o rfl (fun L2 => ?_) ?_
 ·dsimp only [maskL,lca,lna]
  refine ox_y rfl (y_call [.func (.func 107) #[] #[.pointer (some ⟨(ξ23 1 0).2.1,0,none⟩)],.int .i64 1500,.func (.func 94) #[] #[.pointer (some ⟨(ξ23 4 0).2.1,0,none⟩),.pointer (some ⟨(ξ23 4 1).2.1,0,none⟩)],.func (.func 86) #[] #[]] go_83 rfl (fun W2 hW2 => fire_best_Look_ok y24 1500 (fun x35 => fire_high_1 x35 p0_f p1_at) (fun x36 x37 => fire_less x36 x37) y38 hy39 W2 (ξ23 1 0).2.1 (ξ23 1 1).1 y24.length (ξ23 1 1).2.2 rfl (hW2.mem (i:=9) rfl) ((RdL.row 10 rfl) W2 hW2) 94 [.pointer (some ⟨(ξ23 4 0).2.1,0,none⟩),.pointer (some ⟨(ξ23 4 1).2.1,0,none⟩)] go_94 (fun W3 hb x y hxy => fire_high_1_ok x p0_f p1_at y hxy W3 (ξ23 4 0).2.1 A0_4 p0_f.fLooks.length c0_4 rfl (((RdL.arg hr0_4) W2 hW2).later hb) (((RdL.cells 11 rfl) W2 hW2).later hb) (ξ23 4 1).2.1 (((RdL.cells 12 rfl) W2 hW2).later hb)) 86 [] go_86 (fun W3 hb x0 x1 y hxy => fire_less_ok x0 x1  y hxy W3 )) rfl) ?_
  refine ox_nil ?_
  exact ex_capG (fun _ => (none,0,0)) rfl (List.append_nil _)
 dsimp only [aftL,lsz,lss,lna,lca,List.append_nil]
 refine gx_o rfl (fun L2 => ?_) ?_
 ·dsimp only [maskL,lca,lna]
  refine ox_y rfl (y_move_tuple rfl) ?_
  refine ox_nil ?_
  exact ex_capG (fun _ => (none,0,0)) rfl (List.append_nil _)
 dsimp only [aftL,lsz,lss,lna,lca,List.append_nil]
 refine gx_o rfl (fun L2 => ?_) ?_
 ·dsimp only [maskL,lca,lna]
  refine ox_y rfl (y_extract (vs:=[.int .i64 y38.1,.agg #[.int .i64 y38.2.1.fID,.int .i64 y38.2.1.fAt.fFoot,.int .i64 y38.2.1.fAt.fHour,.int .i64 y38.2.1.fHeat.fLo,.int .i64 y38.2.1.fHeat.fHi],.bool y38.2.2]) (v:=.int .i64 y38.1) rfl rfl) ?_
  refine ox_nil ?_
  exact ex_capG (fun _ => (none,0,0)) rfl (List.append_nil _)
 dsimp only [aftL,lsz,lss,lna,lca,List.append_nil]
 refine gx_o rfl (fun L2 => ?_) ?_
 ·dsimp only [maskL,lca,lna]
  refine ox_y rfl (y_extract (vs:=[.int .i64 y38.1,.agg #[.int .i64 y38.2.1.fID,.int .i64 y38.2.1.fAt.fFoot,.int .i64 y38.2.1.fAt.fHour,.int .i64 y38.2.1.fHeat.fLo,.int .i64 y38.2.1.fHeat.fHi],.bool y38.2.2]) (v:=.agg #[.int .i64 y38.2.1.fID,.int .i64 y38.2.1.fAt.fFoot,.int .i64 y38.2.1.fAt.fHour,.int .i64 y38.2.1.fHeat.fLo,.int .i64 y38.2.1.fHeat.fHi]) rfl rfl) ?_
  refine ox_nil ?_
  exact ex_capG (fun _ => (none,0,0)) rfl (List.append_nil _)
 dsimp only [aftL,lsz,lss,lna,lca,List.append_nil]
 refine gx_o rfl (fun L2 => ?_) ?_
 ·dsimp only [maskL,lca,lna]
  refine ox_y rfl (y_extract (vs:=[.int .i64 y38.1,.agg #[.int .i64 y38.2.1.fID,.int .i64 y38.2.1.fAt.fFoot,.int .i64 y38.2.1.fAt.fHour,.int .i64 y38.2.1.fHeat.fLo,.int .i64 y38.2.1.fHeat.fHi],.bool y38.2.2]) (v:=.bool y38.2.2) rfl rfl) ?_
  refine ox_nil ?_
  exact ex_capG (fun _ => (none,0,0)) rfl (List.append_nil _)
 dsimp only [aftL,lsz,lss,lna,lca,List.append_nil]
 refine gx_o rfl (fun L2 => ?_) ?_
 ·dsimp only [maskL,lca,lna]
  refine ox_alloc ze_49 rfl (fun b40 => ?_)
  refine ox_nil ?_
  exact ex_capG (fun _ => (none,b40,0)) rfl rfl
 dsimp only [aftL,lsz,lss,lna,lca,List.append_nil]
 refine gx_o rfl (fun L2 => ?_) ?_
 ·dsimp only [maskL,lca,lna]
  refine ox_y rfl (y_assign_int rfl) ?_
  refine ox_nil ?_
  exact ex_capG (fun _ => (none,0,0)) rfl (List.append_nil _)
 dsimp only [aftL,lsz,lss,lna,lca,List.append_nil]
 refine gx_n rfl (fun L2 => ?_) ?_
 ·dsimp only [maskL,lca,lna]
  refine ox_n rfl (y_storeN 13 [.int .i64 y38.2.1.fID,.int .i64 y38.2.1.fAt.fFoot,.int .i64 y38.2.1.fAt.fHour,.int .i64 y38.2.1.fHeat.fLo,.int .i64 y38.2.1.fHeat.fHi] sz_49 rfl (Nat.le_of_ble_eq_true rfl) rfl rfl rfl) ?_
  refine ox_nil ?_
  exact ex_capGn (fun _ => (none,0,0)) (List.append_nil _)
 dsimp only [aftL,lsz,lss,lna,lca,List.append_nil]
 refine gx_o rfl (fun L2 => ?_) ?_
 ·dsimp only [maskL,lca,lna]
  refine ox_y rfl (y_assign_bool rfl) ?_
  refine ox_nil ?_
  exact ex_capG (fun _ => (none,0,0)) rfl (List.append_nil _)
 dsimp only [aftL,lsz,lss,lna,lca,List.append_nil]
 refine gx_nil ?_
 refine ex_then (cx_seq ?_)
 refine cx_drawsG [[],[],[0,1],[],[3],[],[5],[0,1,2],[0,1,2,7],[0,1,2,3,4,7,8],[0,1,2,3,4,7,8,9],[0,1,2,3,4,5,6,7,8,9,10],[0,1,2,3,4,5,6,7,8,9,10,11]] [(none,0,[true,true,true,true,true,true,true,true,true,true,true,true,true,true]),(none,0,[true,true,true,true,true,true,true,true,true,true,true,true,true,true]),(none,0,[true,true,true,true,true,true,true,true,true,true,true,true,true,true]),(none,0,[true,true,true,false,true,true,true,true,true,true,true,true,true,true]),(none,0,[true,true,true,false,true,true,true,true,true,true,true,true,true,true]),(none,0,[true,true,true,false,true,true,true,true,true,true,true,true,true,true]),(none,0,[true,true,true,false,true,true,true,true,true,true,true,true,true,true]),(none,0,[true,true,true,true,true,true,true,true,true,true,true,true,true,true]),(some 3,0,[true,true,true,true,true,true,true,true,true,true,true,true,true,true]),(none,0,[true,true,true,true,true,true,true,true,true,true,true,true,true,true]),(some 3,0,[true,true,true,true,true,true,true,true,true,true,true,true,true,true]),(none,0,[true,true,true,true,true,true,true,true,true,true,true,true,true,true]),(some 3,0,[true,true,true,true,true,true,true,true,true,true,true,true,true,true])] [⟨fun _ => .int .i64 y20.1,fun _ => noR,fun _ => []⟩,⟨fun _ => .int .i64 y38.1,fun _ => noR,fun _ => []⟩,⟨fun _ => .agg #[.int .i64 y20.1,.int .i64 y38.1],fun _ => noR,fun _ => []⟩,⟨fun _ => .pointer (some ⟨(ξ5 10 0).2.1,0 + 0,none⟩),fun _ => noR,fun _ => []⟩,⟨fun _ => .int .i64 y20.2.1.fID,fun _ => noR,fun _ => []⟩,⟨fun _ => .pointer (some ⟨(ξ23 10 0).2.1,0 + 0,none⟩),fun _ => noR,fun _ => []⟩,⟨fun _ => .int .i64 y38.2.1.fID,fun _ => noR,fun _ => []⟩,⟨fun _ => .pointer (some ⟨b4,0 + 0,none⟩),fun _ => noR,fun _ => []⟩,⟨fun _ => undef,fun _ => cellsR b4 30 [.int .i64 y20.1,.int .i64 y38.1,.int .i64 0,.int .i64 0],fun _ => []⟩,⟨fun _ => .pointer (some ⟨b4,0 + 2,none⟩),fun _ => noR,fun _ => []⟩,⟨fun _ => undef,fun _ => cellsR b4 30 [.int .i64 y20.1,.int .i64 y38.1,.int .i64 y20.2.1.fID,.int .i64 0],fun _ => []⟩,⟨fun _ => .pointer (some ⟨b4,0 + 3,none⟩),fun _ => noR,fun _ => []⟩,⟨fun _ => undef,fun _ => cellsR b4 30 [.int .i64 y20.1,.int .i64 y38.1,.int .i64 y20.2.1.fID,.int .i64 y38.2.1.fID],fun _ => []⟩] 14 mixed (by kernel_rfl) (by kernel_rfl) ⟨⟨fun ξ41 ξ41' h => ⟨rfl,rfl,rfl⟩,fun _ => rfl⟩,⟨fun ξ41 ξ41' h => ⟨rfl,rfl,rfl⟩,fun _ => rfl⟩,⟨fun ξ41 ξ41' h => ⟨rfl,rfl,rfl⟩,fun _ => rfl⟩,⟨fun ξ41 ξ41' h => ⟨rfl,rfl,rfl⟩,fun _ => rfl⟩,⟨fun ξ41 ξ41' h => ⟨rfl,rfl,rfl⟩,fun _ => rfl⟩,⟨fun ξ41 ξ41' h => ⟨rfl,rfl,rfl⟩,fun _ => rfl⟩,⟨fun ξ41 ξ41' h => ⟨rfl,rfl,rfl⟩,fun _ => rfl⟩,⟨fun ξ41 ξ41' h => ⟨rfl,rfl,rfl⟩,fun _ => rfl⟩,⟨fun ξ41 ξ41' h => ⟨rfl,rfl,rfl⟩,fun _ => rfl⟩,⟨fun ξ41 ξ41' h => ⟨rfl,rfl,rfl⟩,fun _ => rfl⟩,⟨fun ξ41 ξ41' h => ⟨rfl,rfl,rfl⟩,fun _ => rfl⟩,⟨fun ξ41 ξ41' h => ⟨rfl,rfl,rfl⟩,fun _ => rfl⟩,⟨fun ξ41 ξ41' h => ⟨rfl,rfl,rfl⟩,fun _ => rfl⟩,trivial⟩ rfl (fun ξ41 => ?_)
 refine gx_o rfl (fun L2 => ?_) ?_
 ·dsimp only [maskL,lca,lna]
  refine ox_y rfl (y_move_int rfl) ?_
  refine ox_nil ?_
  exact ex_capG (fun _ => (none,0,0)) rfl (List.append_nil _)
 dsimp only [aftL,lsz,lss,lna,lca,List.append_nil]
 refine gx_o rfl (fun L2 => ?_) ?_
 ·dsimp only [maskL,lca,lna]
  refine ox_y rfl (y_move_int rfl) ?_
  refine ox_nil ?_
  exact ex_capG (fun _ => (none,0,0)) rfl (List.append_nil _)
 dsimp only [aftL,lsz,lss,lna,lca,List.append_nil]
 refine gx_o rfl (fun L2 => ?_) ?_
 ·dsimp only [maskL,lca,lna]
  refine ox_y rfl (y_buildS [.int .i64 y20.1,.int .i64 y38.1] [(0,1),(1,1)] ust_28 ze_28 (by kernel_rfl)) ?_
  refine ox_nil ?_
  exact ex_capG (fun _ => (none,0,0)) rfl (List.append_nil _)
 dsimp only [aftL,lsz,lss,lna,lca,List.append_nil]
 refine gx_o rfl (fun L2 => ?_) ?_
 ·dsimp only [maskL,lca,lna]
  refine ox_y rfl (y_fieldAddr fo_49_0 rfl) ?_
  refine ox_nil ?_
  exact ex_capG (fun _ => (none,0,0)) rfl (List.append_nil _)
 dsimp only [aftL,lsz,lss,lna,lca,List.append_nil]
 refine gx_o rfl (fun L2 => ?_) ?_
 ·dsimp only [maskL,lca,lna]
  refine ox_y rfl (y_load1 8 (v:=.int .i64 y20.2.1.fID) sc_3 rfl rfl rfl) ?_
  refine ox_nil ?_
  exact ex_capG (fun _ => (none,0,0)) rfl (List.append_nil _)
 dsimp only [aftL,lsz,lss,lna,lca,List.append_nil]
 refine gx_o rfl (fun L2 => ?_) ?_
 ·dsimp only [maskL,lca,lna]
  refine ox_y rfl (y_fieldAddr fo_49_0 rfl) ?_
  refine ox_nil ?_
  exact ex_capG (fun _ => (none,0,0)) rfl (List.append_nil _)
 dsimp only [aftL,lsz,lss,lna,lca,List.append_nil]
 refine gx_o rfl (fun L2 => ?_) ?_
 ·dsimp only [maskL,lca,lna]
  refine ox_y rfl (y_load1 13 (v:=.int .i64 y38.2.1.fID) sc_3 rfl rfl rfl) ?_
  refine ox_nil ?_
  exact ex_capG (fun _ => (none,0,0)) rfl (List.append_nil _)
 dsimp only [aftL,lsz,lss,lna,lca,List.append_nil]
 refine gx_o rfl (fun L2 => ?_) ?_
 ·dsimp only [maskL,lca,lna]
  refine ox_y rfl (y_fieldAddr fo_30_0 rfl) ?_
  refine ox_nil ?_
  exact ex_capG (fun _ => (none,0,0)) rfl (List.append_nil _)
 dsimp only [aftL,lsz,lss,lna,lca,List.append_nil]
 refine gx_n rfl (fun L2 => ?_) ?_
 ·dsimp only [maskL,lca,lna]
  refine ox_n rfl (y_storeN 3 [.int .i64 y20.1,.int .i64 y38.1] sz_28 rfl (Nat.le_of_ble_eq_true rfl) rfl rfl rfl) ?_
  refine ox_nil ?_
  exact ex_capGn (fun _ => (none,0,0)) (List.append_nil _)
 dsimp only [aftL,lsz,lss,lna,lca,List.append_nil]
 refine gx_o rfl (fun L2 => ?_) ?_
 ·dsimp only [maskL,lca,lna]
  refine ox_y rfl (y_fieldAddr fo_30_1 rfl) ?_
  refine ox_nil ?_
  exact ex_capG (fun _ => (none,0,0)) rfl (List.append_nil _)
 dsimp only [aftL,lsz,lss,lna,lca,List.append_nil]
 refine gx_n rfl (fun L2 => ?_) ?_
 ·dsimp only [maskL,lca,lna]
  refine ox_n rfl (y_store1 3 (v:=.int .i64 y20.2.1.fID) sz_3 rfl (Nat.lt_of_lt_of_le (Nat.lt_succ_self _) (Nat.le_of_ble_eq_true rfl)) rfl rfl rfl) ?_
  refine ox_nil ?_
  exact ex_capGn (fun _ => (none,0,0)) (List.append_nil _)
 dsimp only [aftL,lsz,lss,lna,lca,List.append_nil]
 refine gx_o rfl (fun L2 => ?_) ?_
 ·dsimp only [maskL,lca,lna]
  refine ox_y rfl (y_fieldAddr fo_30_2 rfl) ?_
  refine ox_nil ?_
  exact ex_capG (fun _ => (none,0,0)) rfl (List.append_nil _)
 dsimp only [aftL,lsz,lss,lna,lca,List.append_nil]
 refine gx_n rfl (fun L2 => ?_) ?_
 ·dsimp only [maskL,lca,lna]
  refine ox_n rfl (y_store1 3 (v:=.int .i64 y38.2.1.fID) sz_3 rfl (Nat.lt_of_lt_of_le (Nat.lt_succ_self _) (Nat.le_of_ble_eq_true rfl)) rfl rfl rfl) ?_
  refine ox_nil ?_
  exact ex_capGn (fun _ => (none,0,0)) (List.append_nil _)
 dsimp only [aftL,lsz,lss,lna,lca,List.append_nil]
 refine gx_nil ?_
 refine ex_then (cx_seq (cx_region ?_))
 try dsimp only [lna,lca,lsz,lss]
 refine ox_y rfl (y_loadN 3 [.int .i64 y20.1,.int .i64 y38.1,.int .i64 y20.2.1.fID,.int .i64 y38.2.1.fID] ag_30 rfl rfl rfl) ?_
 refine ox_n rfl (y_storeN 2 [.int .i64 y20.1,.int .i64 y38.1,.int .i64 y20.2.1.fID,.int .i64 y38.2.1.fID] sz_30 rfl (Nat.le_of_ble_eq_true rfl) rfl rfl rfl) ?_
 refine ox_nil (ex_then (cx_ret ?_))
 obtain rfl:=Option.some.inj h
 exact ex_res1 (.inl rfl) rfl (resV_cellN 2 [.int .i64 y20.1,.int .i64 y38.1,.int .i64 y20.2.1.fID,.int .i64 y38.2.1.fID] ag_30 rfl rfl rfl) (fun W2 hW2 => ⟨rfl,hW2.none⟩)

theorem fire_Ends_ok (p0_f:TFire) (p1_at:TSpot) (res:(TBounds × Int)) (h:fire_Ends p0_f p1_at = some res) (W:World) (A0_4:Option Addr) (n0_4 c0_4 : Nat) (hn0_4:n0_4 = p0_f.fLooks.length) (hr0_4:Rd W A0_4 n0_4 c0_4 (encL TLook_cells p0_f.fLooks)) :
  Calls Tryz.prog 8 [.agg #[.int .i64 p0_f.fRise,.int .i64 p0_f.fFall,.int .i64 p0_f.fUp,.int .i64 p0_f.fDown,.slice A0_4 n0_4 c0_4],.agg #[.int .i64 p1_at.fFoot,.int .i64 p1_at.fHour]].toArray W fun e W2 => e = .returned (.tuple #[.agg #[.int .i64 res.1.fSpan.fLo,.int .i64 res.1.fSpan.fHi,.int .i64 res.1.fLow,.int .i64 res.1.fHigh],.int .i64 res.2]) ∧ Ext W W2 []:=by
 subst hn0_4
 unfold fire_Ends at h
 refine calls_enter (m:=20) Tryz.func8 rfl rfl (Nat.le_of_ble_eq_true rfl) ?_
 refine cx_seq (cx_region ?_)
 refine ox_box [.int .i64 p0_f.fRise,.int .i64 p0_f.fFall,.int .i64 p0_f.fUp,.int .i64 p0_f.fDown,.slice A0_4 p0_f.fLooks.length c0_4] rfl rfl rfl (fun b1 => ?_)
 refine ox_box [.int .i64 p1_at.fFoot,.int .i64 p1_at.fHour] rfl rfl rfl (fun b2 => ?_)
 refine ox_alloc ze_30 rfl (fun b3 => ?_)
 refine ox_y rfl (y_assign_int rfl) ?_
 refine ox_nil (ex_then (cx_seq (cx_seq ?_)))
 obtain ⟨y6,hy7,h⟩:=bind_some h
 obtain ⟨y8,hy9,h⟩:=bind_some h
 refine cx_drawsG [[],[],[],[2],[1,2,3],[0,1,2,3,4],[0,1,2,3,4,5]] [(none,0,[true,true,true]),(none,0,[true,true,true]),(none,0,[true,true,true]),(none,1,[true,true,true]),(none,0,[true,true,true,true]),(none,0,[true,true,true,true]),(none,0,[true,true,true,true])] [⟨fun _ => .agg #[.int .i64 p0_f.fRise,.int .i64 p0_f.fFall,.int .i64 p0_f.fUp,.int .i64 p0_f.fDown,.slice A0_4 p0_f.fLooks.length c0_4],fun _ => noR,fun _ => []⟩,⟨fun _ => .agg #[.int .i64 p0_f.fRise,.int .i64 p0_f.fFall,.int .i64 p0_f.fUp,.int .i64 p0_f.fDown,.slice A0_4 p0_f.fLooks.length c0_4],fun _ => noR,fun _ => []⟩,⟨fun _ => .agg #[.int .i64 p1_at.fFoot,.int .i64 p1_at.fHour],fun _ => noR,fun _ => []⟩,⟨fun ξ4 => .slice (some ⟨(ξ4 3 0).2.1,0,none⟩) 1 1,fun _ => noR,fun ξ4 => [rowR (some ⟨(ξ4 3 0).2.1,0,none⟩) 1 26 2 1 (encL TSpot_cells [p1_at])]⟩,⟨fun _ => .int .i64 y6,fun _ => noR,fun _ => []⟩,⟨fun _ => .int .i64 y8,fun _ => noR,fun _ => []⟩,⟨fun _ => .int .i64 y8,fun _ => noR,fun _ => []⟩] 3 mixed (by kernel_rfl) (by kernel_rfl) ⟨⟨fun ξ4 ξ4' h => ⟨rfl,rfl,rfl⟩,fun _ => rfl⟩,⟨fun ξ4 ξ4' h => ⟨rfl,rfl,rfl⟩,fun _ => rfl⟩,⟨fun ξ4 ξ4' h => ⟨rfl,rfl,rfl⟩,fun _ => rfl⟩,⟨fun ξ4 ξ4' h => ⟨by simp only [h 3 (.inl rfl)],rfl,by simp only [h 3 (.inl rfl)]⟩,fun _ => rfl⟩,⟨fun ξ4 ξ4' h => ⟨rfl,rfl,rfl⟩,fun _ => rfl⟩,⟨fun ξ4 ξ4' h => ⟨rfl,rfl,rfl⟩,fun _ => rfl⟩,⟨fun ξ4 ξ4' h => ⟨rfl,rfl,rfl⟩,fun _ => rfl⟩,trivial⟩ rfl (fun ξ4 => ?_)
 refine gx_o rfl (fun L2 => ?_) ?_
 ·dsimp only [maskL,lca,lna]
  refine ox_y rfl (y_loadN 0 [.int .i64 p0_f.fRise,.int .i64 p0_f.fFall,.int .i64 p0_f.fUp,.int .i64 p0_f.fDown,.slice A0_4 p0_f.fLooks.length c0_4] ag_24 rfl rfl rfl) ?_
  refine ox_nil ?_
  exact ex_capG (fun _ => (none,0,0)) rfl (List.append_nil _)
 dsimp only [aftL,lsz,lss,lna,lca,List.append_nil]
 refine gx_o rfl (fun L2 => ?_) ?_
 ·dsimp only [maskL,lca,lna]
  refine ox_y rfl (y_loadN 0 [.int .i64 p0_f.fRise,.int .i64 p0_f.fFall,.int .i64 p0_f.fUp,.int .i64 p0_f.fDown,.slice A0_4 p0_f.fLooks.length c0_4] ag_24 rfl rfl rfl) ?_
  refine ox_nil ?_
  exact ex_capG (fun _ => (none,0,0)) rfl (List.append_nil _)
 dsimp only [aftL,lsz,lss,lna,lca,List.append_nil]
 refine gx_o rfl (fun L2 => ?_) ?_
 ·dsimp only [maskL,lca,lna]
  refine ox_y rfl (y_loadN 1 [.int .i64 p1_at.fFoot,.int .i64 p1_at.fHour] ag_26 rfl rfl rfl) ?_
  refine ox_nil ?_
  exact ex_capG (fun _ => (none,0,0)) rfl (List.append_nil _)
 dsimp only [aftL,lsz,lss,lna,lca,List.append_nil]
 refine gx_o rfl (fun L2 => ?_) ?_
 ·dsimp only [maskL,lca,lna]
  refine ox_buildSliceE 1 (encL TSpot_cells [p1_at]) _ mc_26_1 us_50 ze_26 by_26 (by decide) (by decide) (by kernel_rfl) (encL_len TSpot_cells_len rfl) rfl (fun b5 => ?_)
  refine ox_nil ?_
  exact ex_capG (fun _ => (none,b5,0)) rfl rfl
 dsimp only [aftL,lsz,lss,lna,lca,List.append_nil]
 refine gx_o rfl (fun L2 => ?_) ?_
 ·dsimp only [maskL,lca,lna]
  refine ox_y rfl (y_call [.agg #[.int .i64 p0_f.fRise,.int .i64 p0_f.fFall,.int .i64 p0_f.fUp,.int .i64 p0_f.fDown,.slice A0_4 p0_f.fLooks.length c0_4],.slice (some ⟨(ξ4 3 0).2.1,0,none⟩) 1 1] go_38 rfl (fun W2 hW2 => fire_spots_ok p0_f [p1_at] y6 hy7 W2 A0_4 p0_f.fLooks.length c0_4 rfl ((RdL.arg hr0_4) W2 hW2) (some ⟨(ξ4 3 0).2.1,0,none⟩) 1 1 rfl ((RdL.row 3 rfl) W2 hW2)) rfl) ?_
  refine ox_nil ?_
  exact ex_capG (fun _ => (none,0,0)) rfl (List.append_nil _)
 dsimp only [aftL,lsz,lss,lna,lca,List.append_nil]
 refine gx_o rfl (fun L2 => ?_) ?_
 ·dsimp only [maskL,lca,lna]
  refine ox_y rfl (y_call [.agg #[.int .i64 p0_f.fRise,.int .i64 p0_f.fFall,.int .i64 p0_f.fUp,.int .i64 p0_f.fDown,.slice A0_4 p0_f.fLooks.length c0_4],.int .i64 y6] go_37 rfl (fun W2 hW2 => fire_agreed_ok p0_f y6 y8 hy9 W2 A0_4 p0_f.fLooks.length c0_4 rfl ((RdL.arg hr0_4) W2 hW2)) rfl) ?_
  refine ox_nil ?_
  exact ex_capG (fun _ => (none,0,0)) rfl (List.append_nil _)
 dsimp only [aftL,lsz,lss,lna,lca,List.append_nil]
 refine gx_o rfl (fun L2 => ?_) ?_
 ·dsimp only [maskL,lca,lna]
  refine ox_y rfl (y_assign_int rfl) ?_
  refine ox_nil ?_
  exact ex_capG (fun _ => (none,0,0)) rfl (List.append_nil _)
 dsimp only [aftL,lsz,lss,lna,lca,List.append_nil]
 refine gx_nil ?_
 refine ex_then (cx_seq (cx_region ?_))
 refine ox_y rfl (y_move_int rfl) ?_
 refine ox_y rfl (y_neq rfl rfl) ?_
 refine ox_nil (ex_then ?_)
 rcases ite_some h with ⟨hp10,h⟩ | ⟨hp10,h⟩
 ·refine cx_true (congrArg Value.bool hp10) ?_
  refine cx_seq (cx_region ?_)
  refine ox_y rfl (y_buildS [.int .i64 0,.int .i64 0,.int .i64 0,.int .i64 0] [(0,2),(2,1),(3,1)] ust_30 ze_30 (by kernel_rfl)) ?_
  refine ox_y rfl (y_move_int rfl) ?_
  refine ox_n rfl (y_storeN 2 [.int .i64 0,.int .i64 0,.int .i64 0,.int .i64 0] sz_30 rfl (Nat.le_of_ble_eq_true rfl) rfl rfl rfl) ?_
  refine ox_y rfl (y_assign_int rfl) ?_
  refine ox_nil (ex_then (cx_ret (ex_then_ret ?_)))
  obtain rfl:=Option.some.inj h
  exact ex_res2 (.inl rfl) rfl (resV_cellN 2 [.int .i64 0,.int .i64 0,.int .i64 0,.int .i64 0] ag_30 rfl rfl rfl) (resV_tmp (v:=.int .i64 y8) rfl) (fun W2 hW2 => ⟨rfl,hW2.none⟩)
 ·refine cx_false (congrArg Value.bool hp10) ?_
  refine cx_skip (ex_then (cx_seq (cx_region ?_)))
  refine ox_y rfl (y_loadN 0 [.int .i64 p0_f.fRise,.int .i64 p0_f.fFall,.int .i64 p0_f.fUp,.int .i64 p0_f.fDown,.slice A0_4 p0_f.fLooks.length c0_4] ag_24 rfl rfl rfl) ?_
  refine ox_y rfl (y_loadN 1 [.int .i64 p1_at.fFoot,.int .i64 p1_at.fHour] ag_26 rfl rfl rfl) ?_
  obtain ⟨y11,hy12,h⟩:=bind_some h
  refine ox_y rfl (y_call [.agg #[.int .i64 p0_f.fRise,.int .i64 p0_f.fFall,.int .i64 p0_f.fUp,.int .i64 p0_f.fDown,.slice A0_4 p0_f.fLooks.length c0_4],.agg #[.int .i64 p1_at.fFoot,.int .i64 p1_at.fHour]] go_39 rfl (fun W2 hW2 => fire_ends_ok p0_f p1_at y11 hy12 W2 A0_4 p0_f.fLooks.length c0_4 rfl ((RdL.arg hr0_4) W2 hW2)) rfl) ?_
  refine ox_n rfl (y_storeN 2 [.int .i64 y11.fSpan.fLo,.int .i64 y11.fSpan.fHi,.int .i64 y11.fLow,.int .i64 y11.fHigh] sz_30 rfl (Nat.le_of_ble_eq_true rfl) rfl rfl rfl) ?_
  refine ox_y rfl (y_assign_int rfl) ?_
  refine ox_nil (ex_then (cx_ret ?_))
  obtain rfl:=Option.some.inj h
  exact ex_res2 (.inl rfl) rfl (resV_cellN 2 [.int .i64 y11.fSpan.fLo,.int .i64 y11.fSpan.fHi,.int .i64 y11.fLow,.int .i64 y11.fHigh] ag_30 rfl rfl rfl) (resV_tmp (v:=.int .i64 0) rfl) (fun W2 hW2 => ⟨rfl,hW2.none⟩)

theorem fire_named_ok (p0_f:TFire) (p1_is:Int → Option Bool) (res:(List Int)) (h:fire_named p0_f p1_is = some res) (W:World) (A0_4:Option Addr) (n0_4 c0_4 : Nat) (hn0_4:n0_4 = p0_f.fLooks.length) (hr0_4:Rd W A0_4 n0_4 c0_4 (encL TLook_cells p0_f.fLooks)) (fid1:Nat) (caps1:List Value) (hgo1:goes Tryz.prog fid1 = true) (hof1:∀ W2,Below W.heap.size W W2 → ∀ x y,p1_is x = some y → Calls Tryz.prog fid1 (([.int .i64 x] : List Value) ++ caps1).toArray W2 fun e W3 => e = .returned (.bool y) ∧ Ext W2 W3 []) :
  Calls Tryz.prog 42 [.agg #[.int .i64 p0_f.fRise,.int .i64 p0_f.fFall,.int .i64 p0_f.fUp,.int .i64 p0_f.fDown,.slice A0_4 n0_4 c0_4],.func (.func fid1) #[] caps1.toArray].toArray W fun e W2 => ∃ x : Option Addr × Nat × Nat,x.2.1 = res.length ∧ e = .returned (.slice x.1 x.2.1 x.2.2) ∧ Ext W W2 [rowR x.1 x.2.2 3 1 x.2.1 (encL cI res)]:=by
 subst hn0_4
 unfold fire_named at h
 refine calls_enterM (m:=20) Tryz.func42 rfl rfl (Nat.le_of_ble_eq_true rfl) ?_
 refine cx_seq (cx_region ?_)
 refine ox_box [.int .i64 p0_f.fRise,.int .i64 p0_f.fFall,.int .i64 p0_f.fUp,.int .i64 p0_f.fDown,.slice A0_4 p0_f.fLooks.length c0_4] rfl rfl rfl (fun b1 => ?_)
 refine ox_box [.func (.func fid1) #[] caps1.toArray] rfl rfl rfl (fun b2 => ?_)
 refine ox_y rfl (y_assign_slice rfl) ?_
 refine ox_nil (ex_then (cx_seq (cx_region ?_)))
 refine ox_alloc ze_39 rfl (fun b3 => ?_)
 refine ox_nil (ex_then (cx_seq (cx_seq (cx_region ?_))))
 refine ox_y rfl (y_loadN 0 [.int .i64 p0_f.fRise,.int .i64 p0_f.fFall,.int .i64 p0_f.fUp,.int .i64 p0_f.fDown,.slice A0_4 p0_f.fLooks.length c0_4] ag_24 rfl rfl rfl) ?_
 obtain ⟨y4,hy5,h⟩:=bind_some h
 refine ox_call [.agg #[.int .i64 p0_f.fRise,.int .i64 p0_f.fFall,.int .i64 p0_f.fUp,.int .i64 p0_f.fDown,.slice A0_4 p0_f.fLooks.length c0_4]] _ _ _ rfl go_84 rfl (fun W2 hW2 => fire_sorted_ok p0_f y4 hy5 W2 A0_4 p0_f.fLooks.length c0_4 rfl ((RdL.arg hr0_4) W2 hW2)) ?_
 rintro ⟨b6,A7,n9,c8⟩ hn10
 replace hn10 : n9 = y4.length:=hn10; subst hn10
 refine ox_nil (ex_then (cx_block ?_))
 refine cx_nilrow 3 1 ?_
 obtain ⟨hok31,h⟩:=guardO_some h
 obtain ⟨u21,hl30,h⟩:=bind_some h
 refine cx_rangeH (enc:=fun x : TLook => .agg #[.int .i64 x.fID,.int .i64 x.fAt.fFoot,.int .i64 x.fAt.fHour,.int .i64 x.fHeat.fLo,.int .i64 x.fHeat.fHi])  (caps:=[.pointer (some ⟨b6,0,none⟩)]) (fun (s:(List Int)) L => ∃ (A5_s:Option Addr) (c5_s:Nat) (n5_s:Nat),n5_s = s.length ∧ L = [cellsR b1 24 [.int .i64 p0_f.fRise,.int .i64 p0_f.fFall,.int .i64 p0_f.fUp,.int .i64 p0_f.fDown,.slice A0_4 p0_f.fLooks.length c0_4],cellsR b2 88 [.func (.func fid1) #[] caps1.toArray],cellsR b3 39 [.slice A5_s n5_s c5_s],cellsR b6 22 [.slice A7 y4.length c8],rowR A7 c8 49 5 y4.length (encL TLook_cells y4),rowR A5_s c5_s 3 1 n5_s (encL cI s)]) (fun (_:Unit) _ _ => False) hl30 rfl go_107 (slices_Values_Look_Look_1_seq y4 hok31 b6 A7 y4.length c8 rfl) (fun W2 s L hI hW2 => by obtain ⟨A5_s,c5_s,n5_s,rfl,rfl⟩:=hI; exact ⟨hW2.mem (i:=3) rfl,(RdL.row 4 rfl) W2 hW2⟩) ⟨none,0,0,rfl,rfl⟩ (fun W2 hW2 s L hI => by obtain ⟨A5_s,c5_s,n5_s,rfl,rfl⟩:=hI; exact (.cons Cy.cells (.cons Cy.cells (.cons Cy.cells (.cons Cy.cells (.cons Cy.row (.cons Cy.row CyL.nil))))))) (fun _ _ _ _ _ h => h.elim) (fun _ _ _ h => h.elim) ?_ ?_ ?_
 ·rintro D11 l12 rec13 s19 x20 L st hrec14 ⟨A5_s19,c5_s19,n5_s19,rfl,rfl⟩ h
  unfold fire_named_r1 at h
  refine cx_region ?_
  try dsimp only [lna,lca,lsz,lss]
  refine ox_alloc ze_49 rfl (fun b22 => ?_)
  try dsimp only [lna,lca,lsz,lss]
  refine ox_n rfl (y_storeN 8 [.int .i64 x20.fID,.int .i64 x20.fAt.fFoot,.int .i64 x20.fAt.fHour,.int .i64 x20.fHeat.fLo,.int .i64 x20.fHeat.fHi] sz_49 rfl (Nat.le_of_ble_eq_true rfl) rfl rfl rfl) ?_
  refine ox_nil ?_
  refine ex_begin 7 rfl hrec14 ?_
  refine cx_block (cx_seq (cx_region ?_))
  refine ox_y rfl (y_load1 1 (v:=.func (.func fid1) #[] caps1.toArray) sc_88 rfl rfl rfl) ?_
  refine ox_y rfl (y_fieldAddr fo_49_0 rfl) ?_
  refine ox_y rfl (y_load1 8 (v:=.int .i64 x20.fID) sc_3 rfl rfl rfl) ?_
  obtain ⟨y23,hy24,h⟩:=bind_some h
  refine ox_y rfl (y_callv [.int .i64 x20.fID] hgo1 rfl rfl (fun W2 hW2 => hof1 W2 hW2.below x20.fID y23 hy24)) ?_
  refine ox_nil (ex_then ?_)
  rcases ite_some h with ⟨hp25,h⟩ | ⟨hp25,h⟩
  ·refine cx_true (congrArg Value.bool hp25) ?_
   refine cx_region ?_
   refine ox_y rfl (y_load1 2 (v:=.slice A5_s19 s19.length c5_s19) sc_39 rfl rfl rfl) ?_
   refine ox_y rfl (y_fieldAddr fo_49_0 rfl) ?_
   refine ox_y rfl (y_load1 8 (v:=.int .i64 x20.fID) sc_3 rfl rfl rfl) ?_
   refine ox_buildSliceE 1 (encL cI [x20.fID]) _ mc_3_1 us_39 ze_3 by_3 (by decide) (by decide) (by kernel_rfl) (encL_len cI_len rfl) rfl (fun b26 => ?_)
   try dsimp only [lna,lca,lsz,lss]
   obtain ⟨hg29,h⟩:=guardO_some h
   refine ox_append0 5 us_39 ze_3 by_3 rfl rfl rfl (RdL.row 9 rfl) (encL_len cI_len rfl) (encL_one cI_one _) (app_room hg29 (by decide)) rfl (fun A27 c28 => ?_)
   refine ox_n rfl (y_store1 2 (v:=.slice A27 (s19.length + 1) c28) sz_39 rfl (Nat.lt_of_lt_of_le (Nat.lt_succ_self _) (Nat.le_of_ble_eq_true rfl)) rfl rfl rfl) ?_
   refine ox_nil ?_
   refine ex_block ?_
   refine ex_take 8 ?_
   obtain rfl:=Option.some.inj h
   exact ex_rnext [cellsR b1 24 [.int .i64 p0_f.fRise,.int .i64 p0_f.fFall,.int .i64 p0_f.fUp,.int .i64 p0_f.fDown,.slice A0_4 p0_f.fLooks.length c0_4],cellsR b2 88 [.func (.func fid1) #[] caps1.toArray],cellsR b3 39 [.slice A27 (s19.length + 1) c28],cellsR b6 22 [.slice A7 y4.length c8],rowR A7 c8 49 5 y4.length (encL TLook_cells y4),rowR A27 c28 3 1 (s19.length + 1) (encL cI (s19 ++ [x20.fID]))] ⟨A27,c28,(s19.length + 1),(hn_app rfl rfl),rfl⟩
  ·refine cx_false (congrArg Value.bool hp25) ?_
   refine cx_skip ?_
   refine ex_block ?_
   refine ex_take 8 ?_
   obtain rfl:=Option.some.inj h
   exact ex_rnext [cellsR b1 24 [.int .i64 p0_f.fRise,.int .i64 p0_f.fFall,.int .i64 p0_f.fUp,.int .i64 p0_f.fDown,.slice A0_4 p0_f.fLooks.length c0_4],cellsR b2 88 [.func (.func fid1) #[] caps1.toArray],cellsR b3 39 [.slice A5_s19 s19.length c5_s19],cellsR b6 22 [.slice A7 y4.length c8],rowR A7 c8 49 5 y4.length (encL TLook_cells y4),rowR A5_s19 c5_s19 3 1 s19.length (encL cI s19)] ⟨A5_s19,c5_s19,s19.length,rfl,rfl⟩
 ·rintro D11 u32 L hst ⟨A5_u32,c5_u32,n5_u32,rfl,rfl⟩
  subst hst
  dsimp only at h
  refine ex_block ?_
  refine ex_then (cx_seq (cx_region ?_))
  try dsimp only [lna,lca,lsz,lss]
  refine ox_y rfl (y_load1 2 (v:=.slice A5_u32 u32.length c5_u32) sc_39 rfl rfl rfl) ?_
  refine ox_y rfl (y_assign_slice rfl) ?_
  refine ox_nil (ex_then (cx_ret ?_))
  refine ex_M1 6 rfl (.inl rfl) ?_
  obtain rfl:=Option.some.inj h
  exact ex_res1 (.inl rfl) rfl (resV_tmp (v:=.slice A5_u32 u32.length c5_u32) rfl) (fun W2 hW2 => ⟨(A5_u32,u32.length,c5_u32),rfl,rfl,(hW2.pick 5 rfl)⟩)
 ·intro D11 t e L _ hh
  exact hh.elim

theorem slices_DeleteFunc_Look_Look_ok (p0_s:(List TLook)) (p1_del:TLook → Option Bool) (res:(List TLook)) (h:slices_DeleteFunc_Look_Look p0_s p1_del = some res) (W:World) (w0:World) (R:Res) (A0_0:Option Addr) (n0_0 c0_0 : Nat) (hn0_0:n0_0 = p0_s.length) (fid1:Nat) (caps1:List Value) (hgo1:goes Tryz.prog fid1 = true) (hof1:∀ W2,Below w0.heap.size w0 W2 → R.holds W2 → ∀ x y,p1_del x = some y → Calls Tryz.prog fid1 (([.agg #[.int .i64 x.fID,.int .i64 x.fAt.fFoot,.int .i64 x.fAt.fHour,.int .i64 x.fHeat.fLo,.int .i64 x.fHeat.fHi]] : List Value) ++ caps1).toArray W2 fun e W3 => e = .returned (.bool y) ∧ Ext W2 W3 []) (hW:Ext w0 W [R,rowR A0_0 c0_0 49 5 n0_0 (encL TLook_cells p0_s)]) :
  Calls Tryz.prog 87 [.slice A0_0 n0_0 c0_0,.func (.func fid1) #[] caps1.toArray].toArray W fun e W2 => ∃ k : Nat,k = res.length ∧ e = .returned (.slice A0_0 k c0_0) ∧ Ext w0 W2 [R,rowR A0_0 c0_0 49 5 k (encL TLook_cells res)]:=by
 subst hn0_0
 unfold slices_DeleteFunc_Look_Look at h
 refine calls_enterB (m:=42) Tryz.func87 rfl rfl (Nat.le_of_ble_eq_true rfl) hW ?_
 refine cx_seq (cx_region ?_)
 refine ox_y rfl (y_assign_slice rfl) ?_
 refine ox_nil (ex_then (cx_seq (cx_region ?_)))
 refine ox_y rfl (y_move_slice rfl) ?_
 refine ox_y rfl (y_move (v:=.func (.func fid1) #[] caps1.toArray) rfl) ?_
 obtain ⟨y1,hy2,h⟩:=bind_some h
 refine ox_y rfl (y_call [.slice A0_0 p0_s.length c0_0,.func (.func fid1) #[] caps1.toArray] go_91 rfl (fun W2 hW2 => slices_IndexFunc_Look_Look_ok p0_s p1_del y1 hy2 W2 A0_0 p0_s.length c0_0 rfl ((RdL.row 1 rfl) W2 hW2) fid1 caps1 hgo1 (fun W3 hb => hof1 W3 (belowT hW2.below hb) ((hW2.below' hb).mem (i:=0) rfl))) rfl) ?_
 refine ox_y rfl (y_assign_int rfl) ?_
 refine ox_nil (ex_then (cx_seq (cx_seq (cx_region ?_))))
 refine ox_y rfl (y_move_int rfl) ?_
 refine ox_y rfl (y_eql rfl rfl) ?_
 refine ox_nil (ex_then ?_)
 rcases ite_some h with ⟨hp3,h⟩ | ⟨hp3,h⟩
 ·refine cx_true (congrArg Value.bool hp3) ?_
  refine cx_seq (cx_region ?_)
  refine ox_y rfl (y_move_slice rfl) ?_
  refine ox_y rfl (y_assign_slice rfl) ?_
  refine ox_nil (ex_then (cx_ret (ex_then_ret ?_)))
  obtain rfl:=Option.some.inj h
  exact ex_res1 (.inl rfl) rfl (resV_tmp (v:=.slice A0_0 p0_s.length c0_0) rfl) (fun W2 hW2 => ⟨p0_s.length,rfl,rfl,hW2.take 2⟩)
 ·refine cx_false (congrArg Value.bool hp3) ?_
  refine cx_skip (ex_then (cx_seq (cx_seq (cx_region ?_))))
  refine ox_y rfl (y_move_int rfl) ?_
  refine ox_y rfl (y_add rfl rfl) ?_
  refine ox_y rfl (y_assign_int rfl) ?_
  refine ox_nil (ex_then (cx_block ?_))
  obtain ⟨u7,hl15,h⟩:=bind_some h
  refine cx_loop (fun (s:(Int × Int × (List TLook))) L tm => ∃ (tm0:Nat → Value),p0_s.length = s.2.2.length ∧ L = [R,rowR A0_0 c0_0 49 5 p0_s.length (encL TLook_cells s.2.2)] ∧ tm = (upd (upd (upd (upd (upd (upd tm0 0 (.slice A0_0 p0_s.length c0_0)) 1 (.func (.func fid1) #[] caps1.toArray)) 4 (.slice none 0 0)) 5 (.int .i64 s.1)) 12 (.bool (y1 == (-1)))) 6 (.int .i64 s.2.1))) (fun s e L tm => e = .exit 0 ∧ ∃ (tm0:Nat → Value),p0_s.length = s.2.2.length ∧ L = [R,rowR A0_0 c0_0 49 5 p0_s.length (encL TLook_cells s.2.2)] ∧ tm = (upd (upd (upd (upd (upd (upd tm0 0 (.slice A0_0 p0_s.length c0_0)) 1 (.func (.func fid1) #[] caps1.toArray)) 4 (.slice none 0 0)) 5 (.int .i64 s.1)) 12 (.bool (y1 == (-1)))) 6 (.int .i64 s.2.1))) hl15 ⟨_,rfl,rfl,(keep (keep (keep (keep (keep (keep rfl rfl) rfl) rfl) rfl) rfl) rfl)⟩ ?_ ?_
  ·rintro s6 L tm st ⟨tm0_s6,hn1_s6,rfl,rfl⟩ h
   unfold slices_DeleteFunc_Look_Look_l1 at h
   refine cx_seq (cx_seq (cx_region ?_))
   refine ox_y rfl (y_move_int rfl) ?_
   refine ox_y rfl (y_move_slice rfl) ?_
   refine ox_y rfl (y_len (us:=[]) us_22 rfl) ?_
   refine ox_y rfl (y_lss rfl rfl) ?_
   refine ox_nil (ex_then ?_)
   rcases ite_some h with ⟨hp8,h⟩ | ⟨hp8,h⟩
   ·refine cx_true (congrArg Value.bool hp8) ?_
    refine cx_skip (ex_then (cx_seq (cx_block (cx_seq (cx_region ?_)))))
    refine ox_y rfl (y_move_slice rfl) ?_
    refine ox_y rfl (y_move_int rfl) ?_
    obtain ⟨hg9,h⟩:=guardO_some h
    refine ox_y rfl (y_indexR sl_22 (by decide) hg9.1 hg9.2 (RdL.row 1 rfl) (encL_len TLook_cells_len hn1_s6) rfl rfl) ?_
    refine ox_y rfl (y_loadRN (A:=A0_0) (j:=(Int.toNat s6.2.1 * 5)) [.int .i64 ((rdL s6.2.2 s6.2.1).fID),.int .i64 ((rdL s6.2.2 s6.2.1).fAt.fFoot),.int .i64 ((rdL s6.2.2 s6.2.1).fAt.fHour),.int .i64 ((rdL s6.2.2 s6.2.1).fHeat.fLo),.int .i64 ((rdL s6.2.2 s6.2.1).fHeat.fHi)] ag_49 (Nat.succ_pos _) (RdL.row 1 rfl) rfl (encL_gets TLook_cells_len hg9.1 (lt_nat hg9.2 hn1_s6))) ?_
    refine ox_alloc ze_49 rfl (fun b10 => ?_)
    refine ox_n rfl (y_storeN 2 [.int .i64 ((rdL s6.2.2 s6.2.1).fID),.int .i64 ((rdL s6.2.2 s6.2.1).fAt.fFoot),.int .i64 ((rdL s6.2.2 s6.2.1).fAt.fHour),.int .i64 ((rdL s6.2.2 s6.2.1).fHeat.fLo),.int .i64 ((rdL s6.2.2 s6.2.1).fHeat.fHi)] sz_49 rfl (Nat.le_of_ble_eq_true rfl) rfl rfl rfl) ?_
    refine ox_nil (ex_then (cx_seq (cx_region ?_)))
    refine ox_y rfl (y_move (v:=.func (.func fid1) #[] caps1.toArray) rfl) ?_
    refine ox_y rfl (y_loadN 2 [.int .i64 ((rdL s6.2.2 s6.2.1).fID),.int .i64 ((rdL s6.2.2 s6.2.1).fAt.fFoot),.int .i64 ((rdL s6.2.2 s6.2.1).fAt.fHour),.int .i64 ((rdL s6.2.2 s6.2.1).fHeat.fLo),.int .i64 ((rdL s6.2.2 s6.2.1).fHeat.fHi)] ag_49 rfl rfl rfl) ?_
    obtain ⟨y11,hy12,h⟩:=bind_some h
    refine ox_y rfl (y_callv [.agg #[.int .i64 ((rdL s6.2.2 s6.2.1).fID),.int .i64 ((rdL s6.2.2 s6.2.1).fAt.fFoot),.int .i64 ((rdL s6.2.2 s6.2.1).fAt.fHour),.int .i64 ((rdL s6.2.2 s6.2.1).fHeat.fLo),.int .i64 ((rdL s6.2.2 s6.2.1).fHeat.fHi)]] hgo1 rfl rfl (fun W2 hW2 => hof1 W2 hW2.below (hW2.mem (i:=0) rfl) (TLook.mk ((rdL s6.2.2 s6.2.1).fID) (TSpot.mk ((rdL s6.2.2 s6.2.1).fAt.fFoot) ((rdL s6.2.2 s6.2.1).fAt.fHour)) (TSpan.mk ((rdL s6.2.2 s6.2.1).fHeat.fLo) ((rdL s6.2.2 s6.2.1).fHeat.fHi))) y11 hy12)) ?_
    refine ox_y rfl (y_not rfl) ?_
    refine ox_nil (ex_then ?_)
    rcases ite_some h with ⟨hp13,h⟩ | ⟨hp13,h⟩
    ·refine cx_true (congrArg Value.bool hp13) ?_
     refine cx_seq (cx_region ?_)
     refine ox_y rfl (y_move_slice rfl) ?_
     refine ox_y rfl (y_move_int rfl) ?_
     refine ox_y rfl (y_loadN 2 [.int .i64 ((rdL s6.2.2 s6.2.1).fID),.int .i64 ((rdL s6.2.2 s6.2.1).fAt.fFoot),.int .i64 ((rdL s6.2.2 s6.2.1).fAt.fHour),.int .i64 ((rdL s6.2.2 s6.2.1).fHeat.fLo),.int .i64 ((rdL s6.2.2 s6.2.1).fHeat.fHi)] ag_49 rfl rfl rfl) ?_
     obtain ⟨hg14,h⟩:=guardO_some h
     refine ox_y rfl (y_indexR sl_22 (by decide) hg14.1 hg14.2 (RdL.row 1 rfl) (encL_len TLook_cells_len hn1_s6) rfl rfl) ?_
     refine ox_n rfl (y_storeRN 1 (xs:=s6.2.2) [.int .i64 ((rdL s6.2.2 s6.2.1).fID),.int .i64 ((rdL s6.2.2 s6.2.1).fAt.fFoot),.int .i64 ((rdL s6.2.2 s6.2.1).fAt.fHour),.int .i64 ((rdL s6.2.2 s6.2.1).fHeat.fLo),.int .i64 ((rdL s6.2.2 s6.2.1).fHeat.fHi)] TLook_cells_len (Nat.succ_pos _) (TLook.mk ((rdL s6.2.2 s6.2.1).fID) (TSpot.mk ((rdL s6.2.2 s6.2.1).fAt.fFoot) ((rdL s6.2.2 s6.2.1).fAt.fHour)) (TSpan.mk ((rdL s6.2.2 s6.2.1).fHeat.fLo) ((rdL s6.2.2 s6.2.1).fHeat.fHi))) sz_49 rfl hg14.1 (lt_nat hg14.2 hn1_s6) rfl rfl rfl rfl) ?_
     refine ox_nil (ex_then (cx_region ?_))
     refine ox_y rfl (y_move_int rfl) ?_
     refine ox_y rfl (y_add rfl rfl) ?_
     refine ox_y rfl (y_assign_int rfl) ?_
     refine ox_nil ?_
     refine ex_block ?_
     refine ex_then (cx_region ?_)
     refine ox_y rfl (y_move_int rfl) ?_
     refine ox_y rfl (y_add rfl rfl) ?_
     refine ox_y rfl (y_assign_int rfl) ?_
     refine ox_nil ?_
     refine ex_take 2 ?_
     obtain rfl:=Option.some.inj h
     exact ex_next ⟨_,(hn_set hn1_s6),rfl,(keep (keep (keep (keep (keep (keep rfl rfl) rfl) rfl) rfl) rfl) rfl)⟩
    ·refine cx_false (congrArg Value.bool hp13) ?_
     refine cx_skip ?_
     refine ex_block ?_
     refine ex_then (cx_region ?_)
     refine ox_y rfl (y_move_int rfl) ?_
     refine ox_y rfl (y_add rfl rfl) ?_
     refine ox_y rfl (y_assign_int rfl) ?_
     refine ox_nil ?_
     refine ex_take 2 ?_
     obtain rfl:=Option.some.inj h
     exact ex_next ⟨_,hn1_s6,rfl,(keep (keep (keep (keep (keep (keep rfl rfl) rfl) rfl) rfl) rfl) rfl)⟩
   ·refine cx_false (congrArg Value.bool hp8) ?_
    refine cx_exit ?_
    refine ex_then_exit ?_
    obtain rfl:=Option.some.inj h
    exact ex_stop ⟨rfl,_,hn1_s6,rfl,(keep (keep (keep (keep (keep (keep rfl rfl) rfl) rfl) rfl) rfl) rfl)⟩
  ·intro e L tm hJ
   obtain ⟨rfl,tm0_u7,hn1_u7,rfl,rfl⟩:=hJ
   refine ⟨(by intro hc; cases hc),?_⟩
   refine ex_block_here ?_
   refine ex_then (cx_seq (cx_region ?_))
   refine ox_y rfl (y_move_slice rfl) ?_
   refine ox_y rfl (y_move_int rfl) ?_
   obtain ⟨hg16,h⟩:=guardO_some h
   refine ox_y rfl (y_cutL sl_22 hg16.1 hg16.2 (RdL.row 1 rfl) rfl rfl) ?_
   obtain ⟨hg17,h⟩:=guardO_some h
   refine ox_n rfl (y_clearH 1 us_22 ze_49 rfl (by decide) rfl TLook_cells_len rfl hg17.1 hg17.2 rfl) ?_
   refine ox_nil (ex_then (cx_seq (cx_region ?_)))
   refine ox_y rfl (y_move_slice rfl) ?_
   refine ox_y rfl (y_move_int rfl) ?_
   refine ox_y rfl (y_cutHc sl_22 hg17.1 (fun W2 hW2 => (rowR_rd (hW2.mem (i:=1) rfl)).cap) rfl rfl) ?_
   refine ox_y rfl (y_assign_slice rfl) ?_
   refine ox_nil (ex_then (cx_ret ?_))
   obtain rfl:=Option.some.inj h
   exact ex_res1 (.inl rfl) rfl (resV_tmp (v:=.slice A0_0 (Int.toNat u7.1) c0_0) rfl) (fun W2 hW2 => ⟨Int.toNat u7.1,(cutH_len hg17.2 hn1_u7),rfl,hW2.take 2⟩)

theorem slices_Clone_Look_Look_ok (p0_s:(List TLook)) (res:(List TLook)) (h:slices_Clone_Look_Look p0_s = some res) (W:World) (A0_0:Option Addr) (n0_0 c0_0 : Nat) (hn0_0:n0_0 = p0_s.length) (hr0_0:Rd W A0_0 n0_0 c0_0 (encL TLook_cells p0_s)) :
  Calls Tryz.prog 88 [.slice A0_0 n0_0 c0_0].toArray W fun e W2 => ∃ x : Option Addr × Nat × Nat,x.2.1 = res.length ∧ e = .returned (.slice x.1 x.2.1 x.2.2) ∧ Ext W W2 [rowR x.1 x.2.2 49 5 x.2.1 (encL TLook_cells res)]:=by
 subst hn0_0
 unfold slices_Clone_Look_Look at h
 refine calls_enter (m:=8) Tryz.func88 rfl rfl (Nat.le_of_ble_eq_true rfl) ?_
 refine cx_seq (cx_region ?_)
 refine ox_y rfl (y_assign_slice rfl) ?_
 refine ox_nil (ex_then (cx_seq (cx_seq (cx_region ?_))))
 refine ox_y rfl (y_move_slice rfl) ?_
 refine ox_y rfl (y_eqnil us_22 rfl rfl) ?_
 refine ox_nil (ex_then ?_)
 rcases bool_cases (Option.isNone A0_0) with hp1 | hp1
 ·refine cx_true (congrArg Value.bool hp1) ?_
  have z6:=rd_none (Option.isNone_iff_eq_none.1 hp1 ▸ hr0_0) TLook_cells_len (by decide)
  replace h:=(guardO_some h).2
  rw [z6] at h
  refine cx_seq (cx_region ?_)
  refine ox_y rfl (y_assign_slice rfl) ?_
  refine ox_nil (ex_then (cx_ret (ex_then_ret ?_)))
  obtain rfl:=Option.some.inj h
  exact ex_res1 (.inl rfl) rfl (resV_tmp (v:=.slice none 0 0) rfl) (fun W2 hW2 => ⟨(none,0,0),rfl,rfl,((hW2.nilrow 49 5).pick 0 rfl)⟩)
 ·refine cx_false (congrArg Value.bool hp1) ?_
  refine cx_skip (ex_then (cx_seq (cx_region ?_)))
  refine ox_buildSlice0 TLook_cells us_22 ze_49 by_49 rfl (fun b2 => ?_)
  refine ox_y rfl (y_move_slice rfl) ?_
  obtain ⟨hg5,h⟩:=guardO_some h
  refine ox_append0 0 us_22 ze_49 by_49 rfl rfl rfl (RdL.arg hr0_0) (encL_len TLook_cells_len rfl) (encL_one TLook_cells_one _) (app_room hg5 (by decide)) rfl (fun A3 c4 => ?_)
  refine ox_y rfl (y_assign_slice rfl) ?_
  refine ox_nil (ex_then (cx_ret ?_))
  obtain rfl:=Option.some.inj h
  exact ex_res1 (.inl rfl) rfl (resV_tmp (v:=.slice A3 (0 + p0_s.length) c4) rfl) (fun W2 hW2 => ⟨(A3,(0 + p0_s.length),c4),(hn_app rfl rfl),rfl,(hW2.pick 0 rfl)⟩)

theorem fire_without_1_ok (p0_x:TLook) (cap0:(List (Int × Bool))) (res:Bool) (h:fire_without_1 p0_x cap0 = some res) (W:World) (bc0:Nat) (bm100_0:Nat) (hm100_0:(mapV Tryz.prog 3 kI rngB kB false bm100_0 cap0).holds W) (hcap0:Rd W (some ⟨bc0,0,none⟩) 1 1 [.map (some bm100_0)]) :
  Calls Tryz.prog 89 [.agg #[.int .i64 p0_x.fID,.int .i64 p0_x.fAt.fFoot,.int .i64 p0_x.fAt.fHour,.int .i64 p0_x.fHeat.fLo,.int .i64 p0_x.fHeat.fHi],.pointer (some ⟨bc0,0,none⟩)].toArray W fun e W2 => e = .returned (.bool res) ∧ Ext W W2 []:=by
 unfold fire_without_1 at h
 refine calls_enter (m:=8) Tryz.func89 rfl rfl (Nat.le_of_ble_eq_true rfl) ?_
 refine cx_seq (cx_region ?_)
 refine ox_box [.int .i64 p0_x.fID,.int .i64 p0_x.fAt.fFoot,.int .i64 p0_x.fAt.fHour,.int .i64 p0_x.fHeat.fLo,.int .i64 p0_x.fHeat.fHi] rfl rfl rfl (fun b1 => ?_)
 refine ox_y rfl (y_assign_bool rfl) ?_
 refine ox_nil (ex_then (cx_seq (cx_region ?_)))
 refine ox_y rfl (y_loadR1 (A:=(some ⟨bc0,0,none⟩)) (j:=0) (v:=.map (some bm100_0)) sc_124 (RdL.arg hcap0) rfl rfl) ?_
 refine ox_y rfl (y_fieldAddr fo_49_0 rfl) ?_
 refine ox_y rfl (y_load1 0 (v:=.int .i64 p0_x.fID) sc_3 rfl rfl rfl) ?_
 obtain ⟨hg2,h⟩:=guardO_some h
 refine ox_y rfl (y_lookupV (k:=p0_x.fID) (MpL.arg hm100_0) ke_3 um_124 ze_4 rfl rfl hg2) ?_
 refine ox_y rfl (y_assign_bool rfl) ?_
 refine ox_nil (ex_then (cx_ret ?_))
 obtain rfl:=Option.some.inj h
 exact ex_res1 (.inl rfl) rfl (resV_tmp (v:=.bool (mgetV false cap0 p0_x.fID)) rfl) (fun W2 hW2 => ⟨rfl,hW2.none⟩)

theorem fire_without_ok (p0_f:TFire) (p1_ids:(List Int)) (res:TFire) (h:fire_without p0_f p1_ids = some res) (W:World) (A0_4:Option Addr) (n0_4 c0_4 : Nat) (hn0_4:n0_4 = p0_f.fLooks.length) (hr0_4:Rd W A0_4 n0_4 c0_4 (encL TLook_cells p0_f.fLooks)) (A1_0:Option Addr) (n1_0 c1_0 : Nat) (hn1_0:n1_0 = p1_ids.length) (hr1_0:Rd W A1_0 n1_0 c1_0 (encL cI p1_ids)) :
  Calls Tryz.prog 44 [.agg #[.int .i64 p0_f.fRise,.int .i64 p0_f.fFall,.int .i64 p0_f.fUp,.int .i64 p0_f.fDown,.slice A0_4 n0_4 c0_4],.slice A1_0 n1_0 c1_0].toArray W fun e W2 => ∃ x : Option Addr × Nat × Nat,x.2.1 = res.fLooks.length ∧ e = .returned (.agg #[.int .i64 res.fRise,.int .i64 res.fFall,.int .i64 res.fUp,.int .i64 res.fDown,.slice x.1 x.2.1 x.2.2]) ∧ Ext W W2 [rowR x.1 x.2.2 49 5 x.2.1 (encL TLook_cells res.fLooks)]:=by
 subst hn0_4
 subst hn1_0
 unfold fire_without at h
 refine calls_enter (m:=25) Tryz.func44 rfl rfl (Nat.le_of_ble_eq_true rfl) ?_
 refine cx_seq (cx_region ?_)
 refine ox_box [.int .i64 p0_f.fRise,.int .i64 p0_f.fFall,.int .i64 p0_f.fUp,.int .i64 p0_f.fDown,.slice A0_4 p0_f.fLooks.length c0_4] rfl rfl rfl (fun b1 => ?_)
 refine ox_alloc ze_24 rfl (fun b2 => ?_)
 refine ox_nil (ex_then (cx_seq (cx_region ?_)))
 refine ox_makeMapV 3 kI rngB kB false rfl (fun b3 => ?_)
 refine ox_alloc ze_124 rfl (fun b4 => ?_)
 refine ox_n rfl (y_store1 3 (v:=.map (some b3)) sz_124 rfl (Nat.lt_of_lt_of_le (Nat.lt_succ_self _) (Nat.le_of_ble_eq_true rfl)) rfl rfl rfl) ?_
 refine ox_nil (ex_then (cx_seq (cx_seq (cx_region ?_))))
 refine ox_y rfl (y_move_slice rfl) ?_
 refine ox_y rfl (y_len (us:=[]) us_39 rfl) ?_
 refine ox_y rfl (y_move_int rfl) ?_
 refine ox_nil (ex_then (cx_block ?_))
 obtain ⟨u8,hl12,h⟩:=bind_some h
 refine cx_loop (fun (s:(Int × (List (Int × Bool)))) L tm => ∃ (tm0:Nat → Value),L = [cellsR b1 24 [.int .i64 p0_f.fRise,.int .i64 p0_f.fFall,.int .i64 p0_f.fUp,.int .i64 p0_f.fDown,.slice A0_4 p0_f.fLooks.length c0_4],cellsR b2 24 [.int .i64 0,.int .i64 0,.int .i64 0,.int .i64 0,.slice none 0 0],mapV Tryz.prog 3 kI rngB kB false b3 s.2,cellsR b4 124 [.map (some b3)]] ∧ tm = (upd (upd (upd (upd (upd (upd (upd (upd tm0 0 (.agg #[.int .i64 p0_f.fRise,.int .i64 p0_f.fFall,.int .i64 p0_f.fUp,.int .i64 p0_f.fDown,.slice A0_4 p0_f.fLooks.length c0_4])) 1 (.slice A1_0 p1_ids.length c1_0)) 2 (.pointer (some ⟨b1,0,none⟩))) 4 (.pointer (some ⟨b2,0,none⟩))) 5 (.pointer (some ⟨b4,0,none⟩))) 9 (.slice A1_0 p1_ids.length c1_0)) 10 (.int .i64 (p1_ids.length:Int))) 11 (.int .i64 s.1))) (fun s e L tm => e = .exit 0 ∧ ∃ (tm0:Nat → Value),L = [cellsR b1 24 [.int .i64 p0_f.fRise,.int .i64 p0_f.fFall,.int .i64 p0_f.fUp,.int .i64 p0_f.fDown,.slice A0_4 p0_f.fLooks.length c0_4],cellsR b2 24 [.int .i64 0,.int .i64 0,.int .i64 0,.int .i64 0,.slice none 0 0],mapV Tryz.prog 3 kI rngB kB false b3 s.2,cellsR b4 124 [.map (some b3)]] ∧ tm = (upd (upd (upd (upd (upd (upd (upd (upd tm0 0 (.agg #[.int .i64 p0_f.fRise,.int .i64 p0_f.fFall,.int .i64 p0_f.fUp,.int .i64 p0_f.fDown,.slice A0_4 p0_f.fLooks.length c0_4])) 1 (.slice A1_0 p1_ids.length c1_0)) 2 (.pointer (some ⟨b1,0,none⟩))) 4 (.pointer (some ⟨b2,0,none⟩))) 5 (.pointer (some ⟨b4,0,none⟩))) 9 (.slice A1_0 p1_ids.length c1_0)) 10 (.int .i64 (p1_ids.length:Int))) 11 (.int .i64 s.1))) hl12 ⟨_,rfl,(keep (keep (keep (keep (keep (keep (keep (keep rfl rfl) rfl) rfl) rfl) rfl) rfl) rfl) rfl)⟩ ?_ ?_
 ·rintro s7 L tm st ⟨tm0_s7,rfl,rfl⟩ h
  unfold fire_without_l1 at h
  refine cx_seq (cx_region ?_)
  refine ox_y rfl (y_lss rfl rfl) ?_
  refine ox_nil (ex_then (cx_seq ?_))
  rcases ite_some h with ⟨hp9,h⟩ | ⟨hp9,h⟩
  ·refine cx_true (congrArg Value.bool hp9) ?_
   refine cx_skip (ex_then (cx_seq (cx_block (cx_seq (cx_region ?_)))))
   obtain ⟨hg10,h⟩:=guardO_some h
   refine ox_y rfl (y_indexR sl_39 (by decide) hg10.1 hg10.2 (RdL.arg hr1_0) (encL_len cI_len rfl) rfl rfl) ?_
   refine ox_y rfl (y_loadR1 (A:=A1_0) (j:=(Int.toNat s7.1 * 1)) (v:=.int .i64 (rdL p1_ids s7.1)) sc_3 (RdL.arg hr1_0) rfl (encL_get0 cI_len hg10.1 (lt_nat hg10.2 rfl) rfl)) ?_
   refine ox_y rfl (y_assign_int rfl) ?_
   refine ox_nil (ex_then (cx_region ?_))
   refine ox_y rfl (y_load1 3 (v:=.map (some b3)) sc_124 rfl rfl rfl) ?_
   refine ox_y rfl (y_move_int rfl) ?_
   obtain ⟨hg11,h⟩:=guardO_some h
   refine ox_n rfl (y_updateV 2 (k:=(rdL p1_ids s7.1)) (v:=true) rfl ke_3 um_124 rfl rfl rfl hg11) ?_
   refine ox_nil ?_
   refine ex_block ?_
   refine ex_then (cx_region ?_)
   refine ox_y rfl (y_add rfl rfl) ?_
   refine ox_y rfl (y_move_int rfl) ?_
   refine ox_nil ?_
   obtain rfl:=Option.some.inj h
   exact ex_next ⟨_,rfl,(keep (keep (keep (keep (keep (keep (keep (keep rfl rfl) rfl) rfl) rfl) rfl) rfl) rfl) rfl)⟩
  ·refine cx_false (congrArg Value.bool hp9) ?_
   refine cx_exit ?_
   refine ex_then_exit ?_
   obtain rfl:=Option.some.inj h
   exact ex_stop ⟨rfl,_,rfl,(keep (keep (keep (keep (keep (keep (keep (keep rfl rfl) rfl) rfl) rfl) rfl) rfl) rfl) rfl)⟩
 ·intro e L tm hJ
  obtain ⟨rfl,tm0_u8,rfl,rfl⟩:=hJ
  refine ⟨(by intro hc; cases hc),?_⟩
  refine ex_block_here ?_
  refine ex_then (cx_seq (cx_region ?_))
  refine ox_y rfl (y_fieldAddr fo_24_4 rfl) ?_
  refine ox_y rfl (y_load1 0 (v:=.slice A0_4 p0_f.fLooks.length c0_4) sc_22 rfl rfl rfl) ?_
  obtain ⟨y13,hy14,h⟩:=bind_some h
  refine ox_call [.slice A0_4 p0_f.fLooks.length c0_4] _ _ _ rfl go_88 rfl (fun W2 hW2 => slices_Clone_Look_Look_ok p0_f.fLooks y13 hy14 W2 A0_4 p0_f.fLooks.length c0_4 rfl ((RdL.arg hr0_4) W2 hW2)) ?_
  rintro ⟨A15,n17,c16⟩ hn18
  replace hn18 : n17 = y13.length:=hn18; subst hn18
  refine ox_y rfl (y_makeFunc [.pointer (some ⟨b4,0,none⟩)] rfl rfl) ?_
  obtain ⟨y20,hy21,h⟩:=bind_some h
  refine ox_callT 4 [.slice A15 y13.length c16,.func (.func 89) #[] #[.pointer (some ⟨b4,0,none⟩)]] (fun k : Nat => k = y20.length) (fun k => .slice A15 k c16) (fun k => rowR A15 c16 49 5 k (encL TLook_cells y20)) (fun _ => []) rfl rfl go_87 rfl (fun W2 hW2 => (slices_DeleteFunc_Look_Look_ok y13 (fun x19 => fire_without_1 x19 u8.2) y20 hy21 W2 _ (restR [cellsR b1 24 [.int .i64 p0_f.fRise,.int .i64 p0_f.fFall,.int .i64 p0_f.fUp,.int .i64 p0_f.fDown,.slice A0_4 p0_f.fLooks.length c0_4],cellsR b2 24 [.int .i64 0,.int .i64 0,.int .i64 0,.int .i64 0,.slice none 0 0],mapV Tryz.prog 3 kI rngB kB false b3 u8.2,cellsR b4 124 [.map (some b3)],rowR A15 c16 49 5 y13.length (encL TLook_cells y13)] [4]) A15 y13.length c16 rfl 89 [.pointer (some ⟨b4,0,none⟩)] go_89 (fun W3 hb hR x y hxy => fire_without_1_ok x u8.2 y hxy W3 b4 b3 ((MpL.own 2 rfl) W3 (hW2.rest hb hR)) ((RdL.cells 3 rfl) W3 (hW2.rest hb hR))) hW2).mono (fun e W3 h3 => h3)) ?_
  rintro k22 hn23
  subst hn23
  try dsimp only [lsz,lss,List.append_nil]
  refine ox_y rfl (y_fieldAddr fo_24_4 rfl) ?_
  refine ox_n rfl (y_store1 0 (v:=.slice A15 y20.length c16) sz_22 rfl (Nat.lt_of_lt_of_le (Nat.lt_succ_self _) (Nat.le_of_ble_eq_true rfl)) rfl rfl rfl) ?_
  refine ox_nil (ex_then (cx_seq (cx_region ?_)))
  refine ox_y rfl (y_loadN 0 [.int .i64 p0_f.fRise,.int .i64 p0_f.fFall,.int .i64 p0_f.fUp,.int .i64 p0_f.fDown,.slice A15 y20.length c16] ag_24 rfl rfl rfl) ?_
  refine ox_n rfl (y_storeN 1 [.int .i64 p0_f.fRise,.int .i64 p0_f.fFall,.int .i64 p0_f.fUp,.int .i64 p0_f.fDown,.slice A15 y20.length c16] sz_24 rfl (Nat.le_of_ble_eq_true rfl) rfl rfl rfl) ?_
  refine ox_nil (ex_then (cx_ret ?_))
  obtain rfl:=Option.some.inj h
  exact ex_res1 (.inl rfl) rfl (resV_cellN 1 [.int .i64 p0_f.fRise,.int .i64 p0_f.fFall,.int .i64 p0_f.fUp,.int .i64 p0_f.fDown,.slice A15 y20.length c16] ag_24 rfl rfl rfl) (fun W2 hW2 => ⟨(A15,y20.length,c16),rfl,rfl,(hW2.pick 4 rfl)⟩)

theorem fire_Rests_1_ok (p0_id:Int) (cap0:TFire) (cap1:TSpot) (cap2:TSpan) (res:Bool) (h:fire_Rests_1 p0_id cap0 cap1 cap2 = some res) (W:World) (bc0:Nat) (A100_4:Option Addr) (n100_4 c100_4 : Nat) (hn100_4:n100_4 = cap0.fLooks.length) (hr100_4:Rd W A100_4 n100_4 c100_4 (encL TLook_cells cap0.fLooks)) (hcap0:Rd W (some ⟨bc0,0,none⟩) 1 1 [.int .i64 cap0.fRise,.int .i64 cap0.fFall,.int .i64 cap0.fUp,.int .i64 cap0.fDown,.slice A100_4 n100_4 c100_4]) (bc1:Nat) (hcap1:Rd W (some ⟨bc1,0,none⟩) 1 1 (TSpot_cells cap1)) (bc2:Nat) (hcap2:Rd W (some ⟨bc2,0,none⟩) 1 1 (TSpan_cells cap2)) :
  Calls Tryz.prog 43 [.int .i64 p0_id,.pointer (some ⟨bc0,0,none⟩),.pointer (some ⟨bc1,0,none⟩),.pointer (some ⟨bc2,0,none⟩)].toArray W fun e W2 => e = .returned (.bool res) ∧ Ext W W2 []:=by
 subst hn100_4
 unfold fire_Rests_1 at h
 refine calls_enter (m:=15) Tryz.func43 rfl rfl (Nat.le_of_ble_eq_true rfl) ?_
 refine cx_seq (cx_region ?_)
 refine ox_y rfl (y_assign_bool rfl) ?_
 refine ox_nil (ex_then (cx_seq ?_))
 obtain ⟨y3,hy4,h⟩:=bind_some h
 obtain ⟨y9,hy10,h⟩:=bind_some h
 refine cx_drawsG [[],[],[1],[0,1,2],[],[0,1,2,3,4],[0,1,2,3,4,5],[],[0,1,2,3,4,5,6,7],[0,1,2,3,4,5,6,7,8]] [(none,0,[]),(none,0,[]),(none,1,[]),(none,1,[true]),(none,0,[false,false]),(none,0,[true,true]),(none,0,[true,true]),(none,0,[false,false]),(none,0,[true,true]),(none,0,[true,true])] [⟨fun _ => .agg #[.int .i64 cap0.fRise,.int .i64 cap0.fFall,.int .i64 cap0.fUp,.int .i64 cap0.fDown,.slice A100_4 cap0.fLooks.length c100_4],fun _ => noR,fun _ => []⟩,⟨fun _ => .int .i64 p0_id,fun _ => noR,fun _ => []⟩,⟨fun ξ1 => .slice (some ⟨(ξ1 2 0).2.1,0,none⟩) 1 1,fun _ => noR,fun ξ1 => [rowR (some ⟨(ξ1 2 0).2.1,0,none⟩) 1 3 1 1 (encL cI [p0_id])]⟩,⟨fun ξ1 => .agg #[.int .i64 y3.fRise,.int .i64 y3.fFall,.int .i64 y3.fUp,.int .i64 y3.fDown,.slice (ξ1 3 0).1 y3.fLooks.length (ξ1 3 0).2.2],fun _ => noR,fun ξ1 => [rowR (ξ1 3 0).1 (ξ1 3 0).2.2 49 5 y3.fLooks.length (encL TLook_cells y3.fLooks)]⟩,⟨fun _ => .agg #[.int .i64 cap1.fFoot,.int .i64 cap1.fHour],fun _ => noR,fun _ => []⟩,⟨fun _ => .agg #[.int .i64 y9.fSpan.fLo,.int .i64 y9.fSpan.fHi,.int .i64 y9.fLow,.int .i64 y9.fHigh],fun _ => noR,fun _ => []⟩,⟨fun _ => .agg #[.int .i64 y9.fSpan.fLo,.int .i64 y9.fSpan.fHi],fun _ => noR,fun _ => []⟩,⟨fun _ => .agg #[.int .i64 cap2.fLo,.int .i64 cap2.fHi],fun _ => noR,fun _ => []⟩,⟨fun _ => .bool (!((y9.fSpan.fLo == cap2.fLo) && (y9.fSpan.fHi == cap2.fHi))),fun _ => noR,fun _ => []⟩,⟨fun _ => .bool (!((y9.fSpan.fLo == cap2.fLo) && (y9.fSpan.fHi == cap2.fHi))),fun _ => noR,fun _ => []⟩] 0 mixed (by kernel_rfl) (by kernel_rfl) ⟨⟨fun ξ1 ξ1' h => ⟨rfl,rfl,rfl⟩,fun _ => rfl⟩,⟨fun ξ1 ξ1' h => ⟨rfl,rfl,rfl⟩,fun _ => rfl⟩,⟨fun ξ1 ξ1' h => ⟨by simp only [h 2 (.inl rfl)],rfl,by simp only [h 2 (.inl rfl)]⟩,fun _ => rfl⟩,⟨fun ξ1 ξ1' h => ⟨by simp only [h 3 (.inl rfl)],rfl,by simp only [h 3 (.inl rfl)]⟩,fun _ => rfl⟩,⟨fun ξ1 ξ1' h => ⟨rfl,rfl,rfl⟩,fun _ => rfl⟩,⟨fun ξ1 ξ1' h => ⟨rfl,rfl,rfl⟩,fun _ => rfl⟩,⟨fun ξ1 ξ1' h => ⟨rfl,rfl,rfl⟩,fun _ => rfl⟩,⟨fun ξ1 ξ1' h => ⟨rfl,rfl,rfl⟩,fun _ => rfl⟩,⟨fun ξ1 ξ1' h => ⟨rfl,rfl,rfl⟩,fun _ => rfl⟩,⟨fun ξ1 ξ1' h => ⟨rfl,rfl,rfl⟩,fun _ => rfl⟩,trivial⟩ rfl (fun ξ1 => ?_)
 refine gx_o rfl (fun L2 => ?_) ?_
 ·dsimp only [maskL,lca,lna]
  refine ox_y rfl (y_loadRN (A:=(some ⟨bc0,0,none⟩)) (j:=0) [.int .i64 cap0.fRise,.int .i64 cap0.fFall,.int .i64 cap0.fUp,.int .i64 cap0.fDown,.slice A100_4 cap0.fLooks.length c100_4] ag_24 (Nat.succ_pos _) (RdL.arg hcap0) rfl (gets_all rfl)) ?_
  refine ox_nil ?_
  exact ex_capG (fun _ => (none,0,0)) rfl (List.append_nil _)
 dsimp only [aftL,lsz,lss,lna,lca,List.append_nil]
 refine gx_o rfl (fun L2 => ?_) ?_
 ·dsimp only [maskL,lca,lna]
  refine ox_y rfl (y_move_int rfl) ?_
  refine ox_nil ?_
  exact ex_capG (fun _ => (none,0,0)) rfl (List.append_nil _)
 dsimp only [aftL,lsz,lss,lna,lca,List.append_nil]
 refine gx_o rfl (fun L2 => ?_) ?_
 ·dsimp only [maskL,lca,lna]
  refine ox_buildSliceE 1 (encL cI [p0_id]) _ mc_3_1 us_39 ze_3 by_3 (by decide) (by decide) (by kernel_rfl) (encL_len cI_len rfl) rfl (fun b2 => ?_)
  refine ox_nil ?_
  exact ex_capG (fun _ => (none,b2,0)) rfl rfl
 dsimp only [aftL,lsz,lss,lna,lca,List.append_nil]
 refine gx_o rfl (fun L2 => ?_) ?_
 ·dsimp only [maskL,lca,lna]
  refine ox_call [.agg #[.int .i64 cap0.fRise,.int .i64 cap0.fFall,.int .i64 cap0.fUp,.int .i64 cap0.fDown,.slice A100_4 cap0.fLooks.length c100_4],.slice (some ⟨(ξ1 2 0).2.1,0,none⟩) 1 1] _ _ _ rfl go_44 rfl (fun W2 hW2 => fire_without_ok cap0 [p0_id] y3 hy4 W2 A100_4 cap0.fLooks.length c100_4 rfl ((RdL.arg hr100_4) W2 hW2) (some ⟨(ξ1 2 0).2.1,0,none⟩) 1 1 rfl ((RdL.row 0 rfl) W2 hW2)) ?_
  rintro ⟨A5,n7,c6⟩ hn8
  replace hn8 : n7 = y3.fLooks.length:=hn8; subst hn8
  refine ox_nil ?_
  exact ex_capG (fun _ => (A5,0,c6)) rfl rfl
 dsimp only [aftL,lsz,lss,lna,lca,List.append_nil]
 refine gx_o rfl (fun L2 => ?_) ?_
 ·dsimp only [maskL,lca,lna]
  refine ox_y rfl (y_loadRN (A:=(some ⟨bc1,0,none⟩)) (j:=0) [.int .i64 cap1.fFoot,.int .i64 cap1.fHour] ag_26 (Nat.succ_pos _) (RdL.arg hcap1) rfl (gets_all rfl)) ?_
  refine ox_nil ?_
  exact ex_capG (fun _ => (none,0,0)) rfl (List.append_nil _)
 dsimp only [aftL,lsz,lss,lna,lca,List.append_nil]
 refine gx_o rfl (fun L2 => ?_) ?_
 ·dsimp only [maskL,lca,lna]
  refine ox_y rfl (y_call [.agg #[.int .i64 y3.fRise,.int .i64 y3.fFall,.int .i64 y3.fUp,.int .i64 y3.fDown,.slice (ξ1 3 0).1 y3.fLooks.length (ξ1 3 0).2.2],.agg #[.int .i64 cap1.fFoot,.int .i64 cap1.fHour]] go_39 rfl (fun W2 hW2 => fire_ends_ok y3 cap1 y9 hy10 W2 (ξ1 3 0).1 y3.fLooks.length (ξ1 3 0).2.2 rfl ((RdL.row 1 rfl) W2 hW2)) rfl) ?_
  refine ox_nil ?_
  exact ex_capG (fun _ => (none,0,0)) rfl (List.append_nil _)
 dsimp only [aftL,lsz,lss,lna,lca,List.append_nil]
 refine gx_o rfl (fun L2 => ?_) ?_
 ·dsimp only [maskL,lca,lna]
  refine ox_y rfl (y_fieldN [.int .i64 y9.fSpan.fLo,.int .i64 y9.fSpan.fHi,.int .i64 y9.fLow,.int .i64 y9.fHigh] [.int .i64 y9.fSpan.fLo,.int .i64 y9.fSpan.fHi] fd_30_0 ag_28 rfl rfl) ?_
  refine ox_nil ?_
  exact ex_capG (fun _ => (none,0,0)) rfl (List.append_nil _)
 dsimp only [aftL,lsz,lss,lna,lca,List.append_nil]
 refine gx_o rfl (fun L2 => ?_) ?_
 ·dsimp only [maskL,lca,lna]
  refine ox_y rfl (y_loadRN (A:=(some ⟨bc2,0,none⟩)) (j:=0) [.int .i64 cap2.fLo,.int .i64 cap2.fHi] ag_28 (Nat.succ_pos _) (RdL.arg hcap2) rfl (gets_all rfl)) ?_
  refine ox_nil ?_
  exact ex_capG (fun _ => (none,0,0)) rfl (List.append_nil _)
 dsimp only [aftL,lsz,lss,lna,lca,List.append_nil]
 refine gx_o rfl (fun L2 => ?_) ?_
 ·dsimp only [maskL,lca,lna]
  refine ox_y rfl (y_neqa (b:=((y9.fSpan.fLo == cap2.fLo) && (y9.fSpan.fHi == cap2.fHi))) eg_28 rfl rfl (fun _ => (eqS2 fl_28 (part1 sc_3 rfl) (part1 sc_3 rfl) (part1 sc_3 rfl) (part1 sc_3 rfl) (run_equalIn_int _ _ _ _ _ _ _ ui_3) (run_equalIn_int _ _ _ _ _ _ _ ui_3)))) ?_
  refine ox_nil ?_
  exact ex_capG (fun _ => (none,0,0)) rfl (List.append_nil _)
 dsimp only [aftL,lsz,lss,lna,lca,List.append_nil]
 refine gx_o rfl (fun L2 => ?_) ?_
 ·dsimp only [maskL,lca,lna]
  refine ox_y rfl (y_assign_bool rfl) ?_
  refine ox_nil ?_
  exact ex_capG (fun _ => (none,0,0)) rfl (List.append_nil _)
 dsimp only [aftL,lsz,lss,lna,lca,List.append_nil]
 refine gx_nil ?_
 refine ex_then (cx_ret ?_)
 obtain rfl:=Option.some.inj h
 exact ex_res1 (.inl rfl) rfl (resV_tmp (v:=.bool (!((y9.fSpan.fLo == cap2.fLo) && (y9.fSpan.fHi == cap2.fHi)))) rfl) (fun W2 hW2 => ⟨rfl,hW2.none⟩)

theorem fire_Rests_ok (p0_f:TFire) (p1_at:TSpot) (res:((List Int) × Int)) (h:fire_Rests p0_f p1_at = some res) (W:World) (A0_4:Option Addr) (n0_4 c0_4 : Nat) (hn0_4:n0_4 = p0_f.fLooks.length) (hr0_4:Rd W A0_4 n0_4 c0_4 (encL TLook_cells p0_f.fLooks)) :
  Calls Tryz.prog 10 [.agg #[.int .i64 p0_f.fRise,.int .i64 p0_f.fFall,.int .i64 p0_f.fUp,.int .i64 p0_f.fDown,.slice A0_4 n0_4 c0_4],.agg #[.int .i64 p1_at.fFoot,.int .i64 p1_at.fHour]].toArray W fun e W2 => ∃ x : Option Addr × Nat × Nat,x.2.1 = res.1.length ∧ e = .returned (.tuple #[.slice x.1 x.2.1 x.2.2,.int .i64 res.2]) ∧ Ext W W2 [rowR x.1 x.2.2 3 1 x.2.1 (encL cI res.1)]:=by
 subst hn0_4
 unfold fire_Rests at h
 refine calls_enter (m:=24) Tryz.func10 rfl rfl (Nat.le_of_ble_eq_true rfl) ?_
 refine cx_seq (cx_region ?_)
 refine ox_box [.int .i64 p0_f.fRise,.int .i64 p0_f.fFall,.int .i64 p0_f.fUp,.int .i64 p0_f.fDown,.slice A0_4 p0_f.fLooks.length c0_4] rfl rfl rfl (fun b1 => ?_)
 refine ox_box [.int .i64 p1_at.fFoot,.int .i64 p1_at.fHour] rfl rfl rfl (fun b2 => ?_)
 refine ox_y rfl (y_assign_slice rfl) ?_
 refine ox_y rfl (y_assign_int rfl) ?_
 refine ox_nil (ex_then (cx_seq (cx_seq ?_)))
 obtain ⟨y5,hy6,h⟩:=bind_some h
 obtain ⟨y7,hy8,h⟩:=bind_some h
 refine cx_drawsG [[],[],[],[2],[1,2,3],[0,1,2,3,4],[0,1,2,3,4,5]] [(none,0,[true,true]),(none,0,[true,true]),(none,0,[true,true]),(none,1,[true,true]),(none,0,[true,true,true]),(none,0,[true,true,true]),(none,0,[true,true,true])] [⟨fun _ => .agg #[.int .i64 p0_f.fRise,.int .i64 p0_f.fFall,.int .i64 p0_f.fUp,.int .i64 p0_f.fDown,.slice A0_4 p0_f.fLooks.length c0_4],fun _ => noR,fun _ => []⟩,⟨fun _ => .agg #[.int .i64 p0_f.fRise,.int .i64 p0_f.fFall,.int .i64 p0_f.fUp,.int .i64 p0_f.fDown,.slice A0_4 p0_f.fLooks.length c0_4],fun _ => noR,fun _ => []⟩,⟨fun _ => .agg #[.int .i64 p1_at.fFoot,.int .i64 p1_at.fHour],fun _ => noR,fun _ => []⟩,⟨fun ξ3 => .slice (some ⟨(ξ3 3 0).2.1,0,none⟩) 1 1,fun _ => noR,fun ξ3 => [rowR (some ⟨(ξ3 3 0).2.1,0,none⟩) 1 26 2 1 (encL TSpot_cells [p1_at])]⟩,⟨fun _ => .int .i64 y5,fun _ => noR,fun _ => []⟩,⟨fun _ => .int .i64 y7,fun _ => noR,fun _ => []⟩,⟨fun _ => .int .i64 y7,fun _ => noR,fun _ => []⟩] 2 mixed (by kernel_rfl) (by kernel_rfl) ⟨⟨fun ξ3 ξ3' h => ⟨rfl,rfl,rfl⟩,fun _ => rfl⟩,⟨fun ξ3 ξ3' h => ⟨rfl,rfl,rfl⟩,fun _ => rfl⟩,⟨fun ξ3 ξ3' h => ⟨rfl,rfl,rfl⟩,fun _ => rfl⟩,⟨fun ξ3 ξ3' h => ⟨by simp only [h 3 (.inl rfl)],rfl,by simp only [h 3 (.inl rfl)]⟩,fun _ => rfl⟩,⟨fun ξ3 ξ3' h => ⟨rfl,rfl,rfl⟩,fun _ => rfl⟩,⟨fun ξ3 ξ3' h => ⟨rfl,rfl,rfl⟩,fun _ => rfl⟩,⟨fun ξ3 ξ3' h => ⟨rfl,rfl,rfl⟩,fun _ => rfl⟩,trivial⟩ rfl (fun ξ3 => ?_)
 refine gx_o rfl (fun L2 => ?_) ?_
 ·dsimp only [maskL,lca,lna]
  refine ox_y rfl (y_loadN 0 [.int .i64 p0_f.fRise,.int .i64 p0_f.fFall,.int .i64 p0_f.fUp,.int .i64 p0_f.fDown,.slice A0_4 p0_f.fLooks.length c0_4] ag_24 rfl rfl rfl) ?_
  refine ox_nil ?_
  exact ex_capG (fun _ => (none,0,0)) rfl (List.append_nil _)
 dsimp only [aftL,lsz,lss,lna,lca,List.append_nil]
 refine gx_o rfl (fun L2 => ?_) ?_
 ·dsimp only [maskL,lca,lna]
  refine ox_y rfl (y_loadN 0 [.int .i64 p0_f.fRise,.int .i64 p0_f.fFall,.int .i64 p0_f.fUp,.int .i64 p0_f.fDown,.slice A0_4 p0_f.fLooks.length c0_4] ag_24 rfl rfl rfl) ?_
  refine ox_nil ?_
  exact ex_capG (fun _ => (none,0,0)) rfl (List.append_nil _)
 dsimp only [aftL,lsz,lss,lna,lca,List.append_nil]
 refine gx_o rfl (fun L2 => ?_) ?_
 ·dsimp only [maskL,lca,lna]
  refine ox_y rfl (y_loadN 1 [.int .i64 p1_at.fFoot,.int .i64 p1_at.fHour] ag_26 rfl rfl rfl) ?_
  refine ox_nil ?_
  exact ex_capG (fun _ => (none,0,0)) rfl (List.append_nil _)
 dsimp only [aftL,lsz,lss,lna,lca,List.append_nil]
 refine gx_o rfl (fun L2 => ?_) ?_
 ·dsimp only [maskL,lca,lna]
  refine ox_buildSliceE 1 (encL TSpot_cells [p1_at]) _ mc_26_1 us_50 ze_26 by_26 (by decide) (by decide) (by kernel_rfl) (encL_len TSpot_cells_len rfl) rfl (fun b4 => ?_)
  refine ox_nil ?_
  exact ex_capG (fun _ => (none,b4,0)) rfl rfl
 dsimp only [aftL,lsz,lss,lna,lca,List.append_nil]
 refine gx_o rfl (fun L2 => ?_) ?_
 ·dsimp only [maskL,lca,lna]
  refine ox_y rfl (y_call [.agg #[.int .i64 p0_f.fRise,.int .i64 p0_f.fFall,.int .i64 p0_f.fUp,.int .i64 p0_f.fDown,.slice A0_4 p0_f.fLooks.length c0_4],.slice (some ⟨(ξ3 3 0).2.1,0,none⟩) 1 1] go_38 rfl (fun W2 hW2 => fire_spots_ok p0_f [p1_at] y5 hy6 W2 A0_4 p0_f.fLooks.length c0_4 rfl ((RdL.arg hr0_4) W2 hW2) (some ⟨(ξ3 3 0).2.1,0,none⟩) 1 1 rfl ((RdL.row 2 rfl) W2 hW2)) rfl) ?_
  refine ox_nil ?_
  exact ex_capG (fun _ => (none,0,0)) rfl (List.append_nil _)
 dsimp only [aftL,lsz,lss,lna,lca,List.append_nil]
 refine gx_o rfl (fun L2 => ?_) ?_
 ·dsimp only [maskL,lca,lna]
  refine ox_y rfl (y_call [.agg #[.int .i64 p0_f.fRise,.int .i64 p0_f.fFall,.int .i64 p0_f.fUp,.int .i64 p0_f.fDown,.slice A0_4 p0_f.fLooks.length c0_4],.int .i64 y5] go_37 rfl (fun W2 hW2 => fire_agreed_ok p0_f y5 y7 hy8 W2 A0_4 p0_f.fLooks.length c0_4 rfl ((RdL.arg hr0_4) W2 hW2)) rfl) ?_
  refine ox_nil ?_
  exact ex_capG (fun _ => (none,0,0)) rfl (List.append_nil _)
 dsimp only [aftL,lsz,lss,lna,lca,List.append_nil]
 refine gx_o rfl (fun L2 => ?_) ?_
 ·dsimp only [maskL,lca,lna]
  refine ox_y rfl (y_assign_int rfl) ?_
  refine ox_nil ?_
  exact ex_capG (fun _ => (none,0,0)) rfl (List.append_nil _)
 dsimp only [aftL,lsz,lss,lna,lca,List.append_nil]
 refine gx_nil ?_
 refine ex_then (cx_seq (cx_region ?_))
 refine ox_y rfl (y_move_int rfl) ?_
 refine ox_y rfl (y_neq rfl rfl) ?_
 refine ox_nil (ex_then ?_)
 rcases ite_some h with ⟨hp9,h⟩ | ⟨hp9,h⟩
 ·refine cx_true (congrArg Value.bool hp9) ?_
  refine cx_seq (cx_region ?_)
  refine ox_y rfl (y_move_int rfl) ?_
  refine ox_y rfl (y_assign_slice rfl) ?_
  refine ox_y rfl (y_assign_int rfl) ?_
  refine ox_nil (ex_then (cx_ret (ex_then_ret ?_)))
  obtain rfl:=Option.some.inj h
  exact ex_res2 (.inl rfl) rfl (resV_tmp (v:=.slice none 0 0) rfl) (resV_tmp (v:=.int .i64 y7) rfl) (fun W2 hW2 => ⟨(none,0,0),rfl,rfl,((hW2.nilrow 3 1).pick 3 rfl)⟩)
 ·refine cx_false (congrArg Value.bool hp9) ?_
  refine cx_skip (ex_then (cx_seq (cx_region ?_)))
  refine ox_y rfl (y_loadN 0 [.int .i64 p0_f.fRise,.int .i64 p0_f.fFall,.int .i64 p0_f.fUp,.int .i64 p0_f.fDown,.slice A0_4 p0_f.fLooks.length c0_4] ag_24 rfl rfl rfl) ?_
  refine ox_y rfl (y_loadN 1 [.int .i64 p1_at.fFoot,.int .i64 p1_at.fHour] ag_26 rfl rfl rfl) ?_
  obtain ⟨y10,hy11,h⟩:=bind_some h
  refine ox_y rfl (y_call [.agg #[.int .i64 p0_f.fRise,.int .i64 p0_f.fFall,.int .i64 p0_f.fUp,.int .i64 p0_f.fDown,.slice A0_4 p0_f.fLooks.length c0_4],.agg #[.int .i64 p1_at.fFoot,.int .i64 p1_at.fHour]] go_39 rfl (fun W2 hW2 => fire_ends_ok p0_f p1_at y10 hy11 W2 A0_4 p0_f.fLooks.length c0_4 rfl ((RdL.arg hr0_4) W2 hW2)) rfl) ?_
  refine ox_y rfl (y_fieldN [.int .i64 y10.fSpan.fLo,.int .i64 y10.fSpan.fHi,.int .i64 y10.fLow,.int .i64 y10.fHigh] [.int .i64 y10.fSpan.fLo,.int .i64 y10.fSpan.fHi] fd_30_0 ag_28 rfl rfl) ?_
  refine ox_alloc ze_28 rfl (fun b12 => ?_)
  refine ox_n rfl (y_storeN 3 [.int .i64 y10.fSpan.fLo,.int .i64 y10.fSpan.fHi] sz_28 rfl (Nat.le_of_ble_eq_true rfl) rfl rfl rfl) ?_
  refine ox_nil (ex_then (cx_seq (cx_region ?_)))
  refine ox_y rfl (y_loadN 0 [.int .i64 p0_f.fRise,.int .i64 p0_f.fFall,.int .i64 p0_f.fUp,.int .i64 p0_f.fDown,.slice A0_4 p0_f.fLooks.length c0_4] ag_24 rfl rfl rfl) ?_
  refine ox_y rfl (y_makeFunc [.pointer (some ⟨b1,0,none⟩),.pointer (some ⟨b2,0,none⟩),.pointer (some ⟨b12,0,none⟩)] rfl rfl) ?_
  obtain ⟨y14,hy15,h⟩:=bind_some h
  refine ox_call [.agg #[.int .i64 p0_f.fRise,.int .i64 p0_f.fFall,.int .i64 p0_f.fUp,.int .i64 p0_f.fDown,.slice A0_4 p0_f.fLooks.length c0_4],.func (.func 43) #[] #[.pointer (some ⟨b1,0,none⟩),.pointer (some ⟨b2,0,none⟩),.pointer (some ⟨b12,0,none⟩)]] _ _ _ rfl go_42 rfl (fun W2 hW2 => fire_named_ok p0_f (fun x13 => fire_Rests_1 x13 p0_f p1_at y10.fSpan) y14 hy15 W2 A0_4 p0_f.fLooks.length c0_4 rfl ((RdL.arg hr0_4) W2 hW2) 43 [.pointer (some ⟨b1,0,none⟩),.pointer (some ⟨b2,0,none⟩),.pointer (some ⟨b12,0,none⟩)] go_43 (fun W3 hb x y hxy => fire_Rests_1_ok x p0_f p1_at y10.fSpan y hxy W3 b1 A0_4 p0_f.fLooks.length c0_4 rfl (((RdL.arg hr0_4) W2 hW2).later hb) (((RdL.cells 0 rfl) W2 hW2).later hb) b2 (((RdL.cells 1 rfl) W2 hW2).later hb) b12 (((RdL.cells 3 rfl) W2 hW2).later hb))) ?_
  rintro ⟨A16,n18,c17⟩ hn19
  replace hn19 : n18 = y14.length:=hn19; subst hn19
  refine ox_y rfl (y_assign_slice rfl) ?_
  refine ox_y rfl (y_assign_int rfl) ?_
  refine ox_nil (ex_then (cx_ret ?_))
  obtain rfl:=Option.some.inj h
  exact ex_res2 (.inl rfl) rfl (resV_tmp (v:=.slice A16 y14.length c17) rfl) (resV_tmp (v:=.int .i64 0) rfl) (fun W2 hW2 => ⟨(A16,y14.length,c17),rfl,rfl,(hW2.pick 4 rfl)⟩)

theorem ref02_SameInts_ok (p0_a:(List Int)) (p1_b:(List Int)) (res:Bool) (h:ref02_SameInts p0_a p1_b = some res) (W:World) (A0_0:Option Addr) (n0_0 c0_0 : Nat) (hn0_0:n0_0 = p0_a.length) (hr0_0:Rd W A0_0 n0_0 c0_0 (encL cI p0_a)) (A1_0:Option Addr) (n1_0 c1_0 : Nat) (hn1_0:n1_0 = p1_b.length) (hr1_0:Rd W A1_0 n1_0 c1_0 (encL cI p1_b)) :
  Calls Tryz.prog 14 [.slice A0_0 n0_0 c0_0,.slice A1_0 n1_0 c1_0].toArray W fun e W2 => e = .returned (.bool res) ∧ Ext W W2 []:=by
 subst hn0_0
 subst hn1_0
 unfold ref02_SameInts at h
 refine calls_enter (m:=26) Tryz.func14 rfl rfl (Nat.le_of_ble_eq_true rfl) ?_
 refine cx_seq (cx_region ?_)
 refine ox_y rfl (y_assign_bool rfl) ?_
 refine ox_nil (ex_then (cx_seq (cx_seq (cx_region ?_))))
 refine ox_y rfl (y_move_slice rfl) ?_
 refine ox_y rfl (y_len (us:=[]) us_39 rfl) ?_
 refine ox_y rfl (y_move_slice rfl) ?_
 refine ox_y rfl (y_len (us:=[]) us_39 rfl) ?_
 refine ox_y rfl (y_neq rfl rfl) ?_
 refine ox_nil (ex_then ?_)
 rcases ite_some h with ⟨hp1,h⟩ | ⟨hp1,h⟩
 ·refine cx_true (congrArg Value.bool hp1) ?_
  refine cx_seq (cx_region ?_)
  refine ox_y rfl (y_assign_bool rfl) ?_
  refine ox_nil (ex_then (cx_ret (ex_then_ret ?_)))
  obtain rfl:=Option.some.inj h
  exact ex_res1 (.inl rfl) rfl (resV_tmp (v:=.bool false) rfl) (fun W2 hW2 => ⟨rfl,hW2.none⟩)
 ·refine cx_false (congrArg Value.bool hp1) ?_
  refine cx_skip (ex_then (cx_seq (cx_seq (cx_region ?_))))
  refine ox_y rfl (y_assign_int rfl) ?_
  refine ox_nil (ex_then (cx_block ?_))
  obtain ⟨u4,hl9,h⟩:=bind_some h
  refine cx_loop (fun (s:(Bool × Int)) L tm => ∃ (tm0:Nat → Value),L = [] ∧ tm = (upd (upd (upd (upd (upd tm0 0 (.slice A0_0 p0_a.length c0_0)) 1 (.slice A1_0 p1_b.length c1_0)) 4 (.bool s.1)) 10 (.bool ((p0_a.length:Int) != (p1_b.length:Int)))) 5 (.int .i64 s.2))) (fun | (.inl s),e,L,tm => e = .ret ∧ ∃ (tm0:Nat → Value),L = [] ∧ tm = (upd (upd (upd (upd (upd tm0 0 (.slice A0_0 p0_a.length c0_0)) 1 (.slice A1_0 p1_b.length c1_0)) 4 (.bool s.1)) 10 (.bool ((p0_a.length:Int) != (p1_b.length:Int)))) 5 (.int .i64 s.2)) | (.inr s),e,L,tm => e = .exit 0 ∧ ∃ (tm0:Nat → Value),L = [] ∧ tm = (upd (upd (upd (upd (upd tm0 0 (.slice A0_0 p0_a.length c0_0)) 1 (.slice A1_0 p1_b.length c1_0)) 4 (.bool s.1)) 10 (.bool ((p0_a.length:Int) != (p1_b.length:Int)))) 5 (.int .i64 s.2))) hl9 ⟨_,rfl,(keep (keep (keep (keep (keep rfl rfl) rfl) rfl) rfl) rfl)⟩ ?_ ?_
  ·rintro s3 L tm st ⟨tm0_s3,rfl,rfl⟩ h
   unfold ref02_SameInts_l1 at h
   refine cx_seq (cx_seq (cx_region ?_))
   refine ox_y rfl (y_move_int rfl) ?_
   refine ox_y rfl (y_move_slice rfl) ?_
   refine ox_y rfl (y_len (us:=[]) us_39 rfl) ?_
   refine ox_y rfl (y_lss rfl rfl) ?_
   refine ox_nil (ex_then ?_)
   rcases ite_some h with ⟨hp5,h⟩ | ⟨hp5,h⟩
   ·refine cx_true (congrArg Value.bool hp5) ?_
    refine cx_skip (ex_then (cx_seq (cx_block (cx_seq ?_))))
    refine cx_draws 9 mixed (by kernel_rfl) (by kernel_rfl) ?_
    refine qx_y rfl (y_move_slice rfl) ?_
    refine qx_y rfl (y_move_int rfl) ?_
    obtain ⟨hg6,h⟩:=guardO_some h
    refine qx_y rfl (y_indexR sl_39 (by decide) hg6.1 hg6.2 (RdL.arg hr0_0) (encL_len cI_len rfl) rfl rfl) ?_
    refine qx_y rfl (y_loadR1 (A:=A0_0) (j:=(Int.toNat s3.2 * 1)) (v:=.int .i64 (rdL p0_a s3.2)) sc_3 (RdL.arg hr0_0) rfl (encL_get0 cI_len hg6.1 (lt_nat hg6.2 rfl) rfl)) ?_
    refine qx_y rfl (y_move_slice rfl) ?_
    refine qx_y rfl (y_move_int rfl) ?_
    obtain ⟨hg7,h⟩:=guardO_some h
    refine qx_y rfl (y_indexR sl_39 (by decide) hg7.1 hg7.2 (RdL.arg hr1_0) (encL_len cI_len rfl) rfl rfl) ?_
    refine qx_y rfl (y_loadR1 (A:=A1_0) (j:=(Int.toNat s3.2 * 1)) (v:=.int .i64 (rdL p1_b s3.2)) sc_3 (RdL.arg hr1_0) rfl (encL_get0 cI_len hg7.1 (lt_nat hg7.2 rfl) rfl)) ?_
    refine qx_y rfl (y_neq rfl rfl) ?_
    refine qx_nil ?_
    refine ox_nil (ex_then ?_)
    rcases ite_some h with ⟨hp8,h⟩ | ⟨hp8,h⟩
    ·refine cx_true (congrArg Value.bool hp8) ?_
     refine cx_seq (cx_region ?_)
     refine ox_y rfl (y_assign_bool rfl) ?_
     refine ox_nil (ex_then (cx_ret (ex_block_ret (ex_then_ret ?_))))
     obtain rfl:=Option.some.inj h
     exact ex_stop ⟨rfl,_,rfl,(keep (keep (keep (keep (keep rfl rfl) rfl) rfl) rfl) rfl)⟩
    ·refine cx_false (congrArg Value.bool hp8) ?_
     refine cx_skip ?_
     refine ex_block ?_
     refine ex_then (cx_region ?_)
     refine ox_y rfl (y_move_int rfl) ?_
     refine ox_y rfl (y_add rfl rfl) ?_
     refine ox_y rfl (y_assign_int rfl) ?_
     refine ox_nil ?_
     obtain rfl:=Option.some.inj h
     exact ex_next ⟨_,rfl,(keep (keep (keep (keep (keep rfl rfl) rfl) rfl) rfl) rfl)⟩
   ·refine cx_false (congrArg Value.bool hp5) ?_
    refine cx_exit ?_
    refine ex_then_exit ?_
    obtain rfl:=Option.some.inj h
    exact ex_stop ⟨rfl,_,rfl,(keep (keep (keep (keep (keep rfl rfl) rfl) rfl) rfl) rfl)⟩
  ·intro e L tm hJ
   rcases u4 with u10 | u11
   ·dsimp only at h hJ
    obtain ⟨rfl,tm0_u10,rfl,rfl⟩:=hJ
    refine ⟨(by intro hc; cases hc),?_⟩
    refine ex_block_ret (ex_then_ret ?_)
    obtain rfl:=Option.some.inj h
    exact ex_res1 (.inl rfl) rfl (resV_tmp (v:=.bool u10.1) rfl) (fun W2 hW2 => ⟨rfl,hW2.none⟩)
   ·dsimp only at h hJ
    obtain ⟨rfl,tm0_u11,rfl,rfl⟩:=hJ
    refine ⟨(by intro hc; cases hc),?_⟩
    refine ex_block_here ?_
    refine ex_then (cx_seq (cx_region ?_))
    refine ox_y rfl (y_assign_bool rfl) ?_
    refine ox_nil (ex_then (cx_ret ?_))
    obtain rfl:=Option.some.inj h
    exact ex_res1 (.inl rfl) rfl (resV_tmp (v:=.bool true) rfl) (fun W2 hW2 => ⟨rfl,hW2.none⟩)

theorem fire_needed_ok (p0_f:TFire) (p1_look:TSpot) (p2_at:TSpot) (p3_need:Int) (res:(Int × Bool)) (h:fire_needed p0_f p1_look p2_at p3_need = some res) (W:World) (A0_4:Option Addr) (n0_4 c0_4 : Nat) (hn0_4:n0_4 = p0_f.fLooks.length) (hr0_4:Rd W A0_4 n0_4 c0_4 (encL TLook_cells p0_f.fLooks)) :
  Calls Tryz.prog 58 [.agg #[.int .i64 p0_f.fRise,.int .i64 p0_f.fFall,.int .i64 p0_f.fUp,.int .i64 p0_f.fDown,.slice A0_4 n0_4 c0_4],.agg #[.int .i64 p1_look.fFoot,.int .i64 p1_look.fHour],.agg #[.int .i64 p2_at.fFoot,.int .i64 p2_at.fHour],.int .i64 p3_need].toArray W fun e W2 => e = .returned (.tuple #[.int .i64 res.1,.bool res.2]) ∧ Ext W W2 []:=by
 subst hn0_4
 unfold fire_needed at h
 refine calls_enter (m:=39) Tryz.func58 rfl rfl (Nat.le_of_ble_eq_true rfl) ?_
 refine cx_seq (cx_region ?_)
 refine ox_box [.int .i64 p0_f.fRise,.int .i64 p0_f.fFall,.int .i64 p0_f.fUp,.int .i64 p0_f.fDown,.slice A0_4 p0_f.fLooks.length c0_4] rfl rfl rfl (fun b1 => ?_)
 refine ox_box [.int .i64 p1_look.fFoot,.int .i64 p1_look.fHour] rfl rfl rfl (fun b2 => ?_)
 refine ox_box [.int .i64 p2_at.fFoot,.int .i64 p2_at.fHour] rfl rfl rfl (fun b3 => ?_)
 refine ox_y rfl (y_assign_int rfl) ?_
 refine ox_y rfl (y_assign_bool rfl) ?_
 refine ox_nil (ex_then (cx_seq (cx_region ?_)))
 refine ox_y rfl (y_loadN 0 [.int .i64 p0_f.fRise,.int .i64 p0_f.fFall,.int .i64 p0_f.fUp,.int .i64 p0_f.fDown,.slice A0_4 p0_f.fLooks.length c0_4] ag_24 rfl rfl rfl) ?_
 refine ox_y rfl (y_loadN 1 [.int .i64 p1_look.fFoot,.int .i64 p1_look.fHour] ag_26 rfl rfl rfl) ?_
 obtain ⟨y4,hy5,h⟩:=bind_some h
 refine ox_y rfl (y_call [.agg #[.int .i64 p0_f.fRise,.int .i64 p0_f.fFall,.int .i64 p0_f.fUp,.int .i64 p0_f.fDown,.slice A0_4 p0_f.fLooks.length c0_4],.agg #[.int .i64 p1_look.fFoot,.int .i64 p1_look.fHour]] go_39 rfl (fun W2 hW2 => fire_ends_ok p0_f p1_look y4 hy5 W2 A0_4 p0_f.fLooks.length c0_4 rfl ((RdL.arg hr0_4) W2 hW2)) rfl) ?_
 refine ox_y rfl (y_fieldN [.int .i64 y4.fSpan.fLo,.int .i64 y4.fSpan.fHi,.int .i64 y4.fLow,.int .i64 y4.fHigh] [.int .i64 y4.fSpan.fLo,.int .i64 y4.fSpan.fHi] fd_30_0 ag_28 rfl rfl) ?_
 refine ox_alloc ze_28 rfl (fun b6 => ?_)
 refine ox_n rfl (y_storeN 3 [.int .i64 y4.fSpan.fLo,.int .i64 y4.fSpan.fHi] sz_28 rfl (Nat.le_of_ble_eq_true rfl) rfl rfl rfl) ?_
 refine ox_nil (ex_then (cx_seq (cx_seq (cx_region ?_))))
 refine ox_y rfl (y_loadN 0 [.int .i64 p0_f.fRise,.int .i64 p0_f.fFall,.int .i64 p0_f.fUp,.int .i64 p0_f.fDown,.slice A0_4 p0_f.fLooks.length c0_4] ag_24 rfl rfl rfl) ?_
 refine ox_y rfl (y_loadN 2 [.int .i64 p2_at.fFoot,.int .i64 p2_at.fHour] ag_26 rfl rfl rfl) ?_
 obtain ⟨y7,hy8,h⟩:=bind_some h
 refine ox_y rfl (y_call [.agg #[.int .i64 p0_f.fRise,.int .i64 p0_f.fFall,.int .i64 p0_f.fUp,.int .i64 p0_f.fDown,.slice A0_4 p0_f.fLooks.length c0_4],.agg #[.int .i64 p2_at.fFoot,.int .i64 p2_at.fHour]] go_39 rfl (fun W2 hW2 => fire_ends_ok p0_f p2_at y7 hy8 W2 A0_4 p0_f.fLooks.length c0_4 rfl ((RdL.arg hr0_4) W2 hW2)) rfl) ?_
 refine ox_y rfl (y_fieldN [.int .i64 y7.fSpan.fLo,.int .i64 y7.fSpan.fHi,.int .i64 y7.fLow,.int .i64 y7.fHigh] [.int .i64 y7.fSpan.fLo,.int .i64 y7.fSpan.fHi] fd_30_0 ag_28 rfl rfl) ?_
 refine ox_y rfl (y_field1 [.int .i64 y7.fSpan.fLo,.int .i64 y7.fSpan.fHi] (v:=.int .i64 y7.fSpan.fLo) fd_28_0 sc_3 rfl rfl) ?_
 refine ox_y rfl (y_move_int rfl) ?_
 refine ox_y rfl (y_geq rfl rfl) ?_
 refine ox_nil (ex_then ?_)
 rcases ite_some h with ⟨hp9,h⟩ | ⟨hp9,h⟩
 ·refine cx_true (congrArg Value.bool hp9) ?_
  refine cx_seq (cx_region ?_)
  refine ox_y rfl (y_fieldAddr fo_28_0 rfl) ?_
  refine ox_y rfl (y_load1 3 (v:=.int .i64 y4.fSpan.fLo) sc_3 rfl rfl rfl) ?_
  refine ox_y rfl (y_assign_int rfl) ?_
  refine ox_y rfl (y_assign_bool rfl) ?_
  refine ox_nil (ex_then (cx_ret (ex_then_ret ?_)))
  obtain rfl:=Option.some.inj h
  exact ex_res2 (.inl rfl) rfl (resV_tmp (v:=.int .i64 y4.fSpan.fLo) rfl) (resV_tmp (v:=.bool true) rfl) (fun W2 hW2 => ⟨rfl,hW2.none⟩)
 ·refine cx_false (congrArg Value.bool hp9) ?_
  refine cx_skip (ex_then (cx_seq ?_))
  refine cx_draws 10 mixed (by kernel_rfl) (by kernel_rfl) ?_
  refine qx_y rfl (y_fieldAddr fo_28_0 rfl) ?_
  refine qx_y rfl (y_load1 3 (v:=.int .i64 y4.fSpan.fLo) sc_3 rfl rfl rfl) ?_
  refine qx_y rfl (y_move_int rfl) ?_
  refine qx_y rfl (y_loadN 0 [.int .i64 p0_f.fRise,.int .i64 p0_f.fFall,.int .i64 p0_f.fUp,.int .i64 p0_f.fDown,.slice A0_4 p0_f.fLooks.length c0_4] ag_24 rfl rfl rfl) ?_
  refine qx_y rfl (y_loadN 2 [.int .i64 p2_at.fFoot,.int .i64 p2_at.fHour] ag_26 rfl rfl rfl) ?_
  refine qx_y rfl (y_loadN 1 [.int .i64 p1_look.fFoot,.int .i64 p1_look.fHour] ag_26 rfl rfl rfl) ?_
  obtain ⟨y10,hy11,h⟩:=bind_some h
  refine qx_y rfl (y_call [.agg #[.int .i64 p0_f.fRise,.int .i64 p0_f.fFall,.int .i64 p0_f.fUp,.int .i64 p0_f.fDown,.slice A0_4 p0_f.fLooks.length c0_4],.agg #[.int .i64 p2_at.fFoot,.int .i64 p2_at.fHour],.agg #[.int .i64 p1_look.fFoot,.int .i64 p1_look.fHour]] go_63 rfl (fun W2 hW2 => fire_far_ok p0_f p2_at p1_look y10 hy11 W2 A0_4 p0_f.fLooks.length c0_4 rfl ((RdL.arg hr0_4) W2 hW2)) rfl) ?_
  refine qx_y rfl (y_add rfl rfl) ?_
  refine qx_y rfl (y_max rfl rfl) ?_
  refine qx_y rfl (y_assign_int rfl) ?_
  refine qx_nil ?_
  refine ox_nil (ex_then (cx_seq (cx_seq (cx_region ?_))))
  refine ox_y rfl (y_move_int rfl) ?_
  refine ox_y rfl (y_fieldAddr fo_28_1 rfl) ?_
  refine ox_y rfl (y_load1 3 (v:=.int .i64 y4.fSpan.fHi) sc_3 rfl rfl rfl) ?_
  refine ox_y rfl (y_gtr rfl rfl) ?_
  refine ox_nil (ex_then ?_)
  rcases ite_some h with ⟨hp12,h⟩ | ⟨hp12,h⟩
  ·refine cx_true (congrArg Value.bool hp12) ?_
   refine cx_seq (cx_region ?_)
   refine ox_y rfl (y_assign_int rfl) ?_
   refine ox_y rfl (y_assign_bool rfl) ?_
   refine ox_nil (ex_then (cx_ret (ex_then_ret ?_)))
   obtain rfl:=Option.some.inj h
   exact ex_res2 (.inl rfl) rfl (resV_tmp (v:=.int .i64 0) rfl) (resV_tmp (v:=.bool false) rfl) (fun W2 hW2 => ⟨rfl,hW2.none⟩)
  ·refine cx_false (congrArg Value.bool hp12) ?_
   refine cx_skip (ex_then (cx_seq (cx_region ?_)))
   refine ox_y rfl (y_move_int rfl) ?_
   refine ox_y rfl (y_assign_int rfl) ?_
   refine ox_y rfl (y_assign_bool rfl) ?_
   refine ox_nil (ex_then (cx_ret ?_))
   obtain rfl:=Option.some.inj h
   exact ex_res2 (.inl rfl) rfl (resV_tmp (v:=.int .i64 (max y4.fSpan.fLo (w64 (p3_need + y10)))) rfl) (resV_tmp (v:=.bool true) rfl) (fun W2 hW2 => ⟨rfl,hW2.none⟩)

theorem fire_Needed_ok (p0_f:TFire) (p1_look:TSpot) (p2_at:TSpot) (p3_need:Int) (res:(Int × Bool × Int)) (h:fire_Needed p0_f p1_look p2_at p3_need = some res) (W:World) (A0_4:Option Addr) (n0_4 c0_4 : Nat) (hn0_4:n0_4 = p0_f.fLooks.length) (hr0_4:Rd W A0_4 n0_4 c0_4 (encL TLook_cells p0_f.fLooks)) :
  Calls Tryz.prog 18 [.agg #[.int .i64 p0_f.fRise,.int .i64 p0_f.fFall,.int .i64 p0_f.fUp,.int .i64 p0_f.fDown,.slice A0_4 n0_4 c0_4],.agg #[.int .i64 p1_look.fFoot,.int .i64 p1_look.fHour],.agg #[.int .i64 p2_at.fFoot,.int .i64 p2_at.fHour],.int .i64 p3_need].toArray W fun e W2 => e = .returned (.tuple #[.int .i64 res.1,.bool res.2.1,.int .i64 res.2.2]) ∧ Ext W W2 []:=by
 subst hn0_4
 unfold fire_Needed at h
 refine calls_enter (m:=42) Tryz.func18 rfl rfl (Nat.le_of_ble_eq_true rfl) ?_
 refine cx_seq (cx_region ?_)
 refine ox_box [.int .i64 p0_f.fRise,.int .i64 p0_f.fFall,.int .i64 p0_f.fUp,.int .i64 p0_f.fDown,.slice A0_4 p0_f.fLooks.length c0_4] rfl rfl rfl (fun b1 => ?_)
 refine ox_box [.int .i64 p1_look.fFoot,.int .i64 p1_look.fHour] rfl rfl rfl (fun b2 => ?_)
 refine ox_box [.int .i64 p2_at.fFoot,.int .i64 p2_at.fHour] rfl rfl rfl (fun b3 => ?_)
 refine ox_y rfl (y_assign_int rfl) ?_
 refine ox_y rfl (y_assign_bool rfl) ?_
 refine ox_y rfl (y_assign_int rfl) ?_
 refine ox_nil (ex_then (cx_seq (cx_region ?_)))
 refine ox_y rfl (y_loadN 0 [.int .i64 p0_f.fRise,.int .i64 p0_f.fFall,.int .i64 p0_f.fUp,.int .i64 p0_f.fDown,.slice A0_4 p0_f.fLooks.length c0_4] ag_24 rfl rfl rfl) ?_
 refine ox_y rfl (y_loadN 1 [.int .i64 p1_look.fFoot,.int .i64 p1_look.fHour] ag_26 rfl rfl rfl) ?_
 refine ox_y rfl (y_loadN 2 [.int .i64 p2_at.fFoot,.int .i64 p2_at.fHour] ag_26 rfl rfl rfl) ?_
 refine ox_buildSliceE 2 (encL TSpot_cells [p1_look,p2_at]) _ mc_26_2 us_50 ze_26 by_26 (by decide) (by decide) (by kernel_rfl) (encL_len TSpot_cells_len rfl) rfl (fun b4 => ?_)
 obtain ⟨y5,hy6,h⟩:=bind_some h
 refine ox_y rfl (y_call [.agg #[.int .i64 p0_f.fRise,.int .i64 p0_f.fFall,.int .i64 p0_f.fUp,.int .i64 p0_f.fDown,.slice A0_4 p0_f.fLooks.length c0_4],.slice (some ⟨b4,0,none⟩) 2 2] go_38 rfl (fun W2 hW2 => fire_spots_ok p0_f [p1_look,p2_at] y5 hy6 W2 A0_4 p0_f.fLooks.length c0_4 rfl ((RdL.arg hr0_4) W2 hW2) (some ⟨b4,0,none⟩) 2 2 rfl ((RdL.row 3 rfl) W2 hW2)) rfl) ?_
 refine ox_y rfl (y_assign_int rfl) ?_
 refine ox_nil (ex_then (cx_seq (cx_seq (cx_region ?_))))
 refine ox_y rfl (y_move_int rfl) ?_
 refine ox_y rfl (y_eql rfl rfl) ?_
 refine ox_y rfl (y_move_bool rfl) ?_
 obtain ⟨b8,hb9,h⟩:=bind_some h
 refine ox_join 4 (fun tm0 => (upd (upd (upd (upd (upd (upd (upd (upd (upd tm0 3 (.int .i64 p3_need)) 4 (.pointer (some ⟨b1,0,none⟩))) 5 (.pointer (some ⟨b2,0,none⟩))) 6 (.pointer (some ⟨b3,0,none⟩))) 8 (.int .i64 0)) 9 (.bool false)) 10 (.int .i64 0)) 11 (.int .i64 y5)) 25 (.bool b8))) (fun tm0 => ?_) (fun key => ?_)
 ·refine ox_nil (ex_then ?_)
  rcases ite_some h with ⟨hp10,h⟩ | ⟨hp10,h⟩
  ·refine cx_true (congrArg Value.bool hp10) ?_
   refine cx_region ?_
   refine ox_y rfl (y_assign_int rfl) ?_
   refine ox_nil (ex_then (cx_seq (cx_seq (cx_region ?_))))
   refine ox_y rfl (y_loadN 0 [.int .i64 p0_f.fRise,.int .i64 p0_f.fFall,.int .i64 p0_f.fUp,.int .i64 p0_f.fDown,.slice A0_4 p0_f.fLooks.length c0_4] ag_24 rfl rfl rfl) ?_
   refine ox_y rfl (y_move_int rfl) ?_
   obtain ⟨y11,hy12,h⟩:=bind_some h
   refine ox_y rfl (y_call [.agg #[.int .i64 p0_f.fRise,.int .i64 p0_f.fFall,.int .i64 p0_f.fUp,.int .i64 p0_f.fDown,.slice A0_4 p0_f.fLooks.length c0_4],.int .i64 1] go_37 rfl (fun W2 hW2 => fire_agreed_ok p0_f 1 y11 hy12 W2 A0_4 p0_f.fLooks.length c0_4 rfl ((RdL.arg hr0_4) W2 hW2)) rfl) ?_
   refine ox_y rfl (y_assign_int rfl) ?_
   refine ox_nil (ex_then (cx_seq (cx_region ?_)))
   refine ox_y rfl (y_move_int rfl) ?_
   refine ox_y rfl (y_neq rfl rfl) ?_
   refine ox_nil (ex_then ?_)
   rcases ite_some h with ⟨hp13,h⟩ | ⟨hp13,h⟩
   ·refine cx_true (congrArg Value.bool hp13) ?_
    refine cx_seq (cx_region ?_)
    refine ox_y rfl (y_move_int rfl) ?_
    refine ox_y rfl (y_assign_int rfl) ?_
    refine ox_y rfl (y_assign_bool rfl) ?_
    refine ox_y rfl (y_assign_int rfl) ?_
    refine ox_nil (ex_then (cx_ret (ex_then_ret ?_)))
    obtain rfl:=Option.some.inj h
    exact ex_res3 (.inl rfl) rfl (resV_tmp (v:=.int .i64 0) rfl) (resV_tmp (v:=.bool false) rfl) (resV_tmp (v:=.int .i64 y11) rfl) (fun W2 hW2 => ⟨rfl,hW2.none⟩)
   ·refine cx_false (congrArg Value.bool hp13) ?_
    refine cx_skip (ex_then (cx_seq (cx_region ?_)))
    refine ox_y rfl (y_loadN 0 [.int .i64 p0_f.fRise,.int .i64 p0_f.fFall,.int .i64 p0_f.fUp,.int .i64 p0_f.fDown,.slice A0_4 p0_f.fLooks.length c0_4] ag_24 rfl rfl rfl) ?_
    refine ox_y rfl (y_loadN 1 [.int .i64 p1_look.fFoot,.int .i64 p1_look.fHour] ag_26 rfl rfl rfl) ?_
    refine ox_y rfl (y_loadN 2 [.int .i64 p2_at.fFoot,.int .i64 p2_at.fHour] ag_26 rfl rfl rfl) ?_
    refine ox_y rfl (y_move_int rfl) ?_
    obtain ⟨y14,hy15,h⟩:=bind_some h
    refine ox_y rfl (y_call [.agg #[.int .i64 p0_f.fRise,.int .i64 p0_f.fFall,.int .i64 p0_f.fUp,.int .i64 p0_f.fDown,.slice A0_4 p0_f.fLooks.length c0_4],.agg #[.int .i64 p1_look.fFoot,.int .i64 p1_look.fHour],.agg #[.int .i64 p2_at.fFoot,.int .i64 p2_at.fHour],.int .i64 p3_need] go_58 rfl (fun W2 hW2 => fire_needed_ok p0_f p1_look p2_at p3_need y14 hy15 W2 A0_4 p0_f.fLooks.length c0_4 rfl ((RdL.arg hr0_4) W2 hW2)) rfl) ?_
    refine ox_y rfl (y_move_tuple rfl) ?_
    refine ox_y rfl (y_extract (vs:=[.int .i64 y14.1,.bool y14.2]) (v:=.int .i64 y14.1) rfl rfl) ?_
    refine ox_y rfl (y_extract (vs:=[.int .i64 y14.1,.bool y14.2]) (v:=.bool y14.2) rfl rfl) ?_
    refine ox_y rfl (y_assign_int rfl) ?_
    refine ox_y rfl (y_assign_bool rfl) ?_
    refine ox_nil (ex_then (cx_seq (cx_region ?_)))
    refine ox_y rfl (y_move_int rfl) ?_
    refine ox_y rfl (y_move_bool rfl) ?_
    refine ox_y rfl (y_assign_int rfl) ?_
    refine ox_y rfl (y_assign_bool rfl) ?_
    refine ox_y rfl (y_assign_int rfl) ?_
    refine ox_nil (ex_then (cx_ret ?_))
    obtain rfl:=Option.some.inj h
    exact ex_res3 (.inl rfl) rfl (resV_tmp (v:=.int .i64 y14.1) rfl) (resV_tmp (v:=.bool y14.2) rfl) (resV_tmp (v:=.int .i64 0) rfl) (fun W2 hW2 => ⟨rfl,hW2.none⟩)
  ·refine cx_false (congrArg Value.bool hp10) ?_
   refine cx_skip (ex_then (cx_seq (cx_seq (cx_region ?_))))
   refine ox_y rfl (y_loadN 0 [.int .i64 p0_f.fRise,.int .i64 p0_f.fFall,.int .i64 p0_f.fUp,.int .i64 p0_f.fDown,.slice A0_4 p0_f.fLooks.length c0_4] ag_24 rfl rfl rfl) ?_
   refine ox_y rfl (y_move_int rfl) ?_
   obtain ⟨y16,hy17,h⟩:=bind_some h
   refine ox_y rfl (y_call [.agg #[.int .i64 p0_f.fRise,.int .i64 p0_f.fFall,.int .i64 p0_f.fUp,.int .i64 p0_f.fDown,.slice A0_4 p0_f.fLooks.length c0_4],.int .i64 y5] go_37 rfl (fun W2 hW2 => fire_agreed_ok p0_f y5 y16 hy17 W2 A0_4 p0_f.fLooks.length c0_4 rfl ((RdL.arg hr0_4) W2 hW2)) rfl) ?_
   refine ox_y rfl (y_assign_int rfl) ?_
   refine ox_nil (ex_then (cx_seq (cx_region ?_)))
   refine ox_y rfl (y_move_int rfl) ?_
   refine ox_y rfl (y_neq rfl rfl) ?_
   refine ox_nil (ex_then ?_)
   rcases ite_some h with ⟨hp18,h⟩ | ⟨hp18,h⟩
   ·refine cx_true (congrArg Value.bool hp18) ?_
    refine cx_seq (cx_region ?_)
    refine ox_y rfl (y_move_int rfl) ?_
    refine ox_y rfl (y_assign_int rfl) ?_
    refine ox_y rfl (y_assign_bool rfl) ?_
    refine ox_y rfl (y_assign_int rfl) ?_
    refine ox_nil (ex_then (cx_ret (ex_then_ret ?_)))
    obtain rfl:=Option.some.inj h
    exact ex_res3 (.inl rfl) rfl (resV_tmp (v:=.int .i64 0) rfl) (resV_tmp (v:=.bool false) rfl) (resV_tmp (v:=.int .i64 y16) rfl) (fun W2 hW2 => ⟨rfl,hW2.none⟩)
   ·refine cx_false (congrArg Value.bool hp18) ?_
    refine cx_skip (ex_then (cx_seq (cx_region ?_)))
    refine ox_y rfl (y_loadN 0 [.int .i64 p0_f.fRise,.int .i64 p0_f.fFall,.int .i64 p0_f.fUp,.int .i64 p0_f.fDown,.slice A0_4 p0_f.fLooks.length c0_4] ag_24 rfl rfl rfl) ?_
    refine ox_y rfl (y_loadN 1 [.int .i64 p1_look.fFoot,.int .i64 p1_look.fHour] ag_26 rfl rfl rfl) ?_
    refine ox_y rfl (y_loadN 2 [.int .i64 p2_at.fFoot,.int .i64 p2_at.fHour] ag_26 rfl rfl rfl) ?_
    refine ox_y rfl (y_move_int rfl) ?_
    obtain ⟨y19,hy20,h⟩:=bind_some h
    refine ox_y rfl (y_call [.agg #[.int .i64 p0_f.fRise,.int .i64 p0_f.fFall,.int .i64 p0_f.fUp,.int .i64 p0_f.fDown,.slice A0_4 p0_f.fLooks.length c0_4],.agg #[.int .i64 p1_look.fFoot,.int .i64 p1_look.fHour],.agg #[.int .i64 p2_at.fFoot,.int .i64 p2_at.fHour],.int .i64 p3_need] go_58 rfl (fun W2 hW2 => fire_needed_ok p0_f p1_look p2_at p3_need y19 hy20 W2 A0_4 p0_f.fLooks.length c0_4 rfl ((RdL.arg hr0_4) W2 hW2)) rfl) ?_
    refine ox_y rfl (y_move_tuple rfl) ?_
    refine ox_y rfl (y_extract (vs:=[.int .i64 y19.1,.bool y19.2]) (v:=.int .i64 y19.1) rfl rfl) ?_
    refine ox_y rfl (y_extract (vs:=[.int .i64 y19.1,.bool y19.2]) (v:=.bool y19.2) rfl rfl) ?_
    refine ox_y rfl (y_assign_int rfl) ?_
    refine ox_y rfl (y_assign_bool rfl) ?_
    refine ox_nil (ex_then (cx_seq (cx_region ?_)))
    refine ox_y rfl (y_move_int rfl) ?_
    refine ox_y rfl (y_move_bool rfl) ?_
    refine ox_y rfl (y_assign_int rfl) ?_
    refine ox_y rfl (y_assign_bool rfl) ?_
    refine ox_y rfl (y_assign_int rfl) ?_
    refine ox_nil (ex_then (cx_ret ?_))
    obtain rfl:=Option.some.inj h
    exact ex_res3 (.inl rfl) rfl (resV_tmp (v:=.int .i64 y19.1) rfl) (resV_tmp (v:=.bool y19.2) rfl) (resV_tmp (v:=.int .i64 0) rfl) (fun W2 hW2 => ⟨rfl,hW2.none⟩)
 ·clear h; rcases ite_some hb9 with ⟨hp7,h⟩ | ⟨hp7,h⟩
  ·refine ox_y (sees_t rfl rfl rfl rfl hp7) (y_move_int rfl) ?_
   obtain ⟨y21,hy22,h⟩:=bind_some h
   refine ox_y (sees_t rfl rfl rfl rfl hp7) (y_call [.int .i64 p3_need] go_57 rfl (fun W2 hW2 => fire_heat_ok p3_need y21 hy22 W2 ) rfl) ?_
   refine ox_y (sees_t rfl rfl rfl rfl hp7) (y_not rfl) ?_
   refine ox_y rfl (y_pick_tb (congrArg Value.bool hp7) rfl) ?_
   obtain rfl:=Option.some.inj h
   exact key _ _ (keep (keep (keep (keep (keep (keep (keep (keep (keep rfl rfl) rfl) rfl) rfl) rfl) rfl) rfl) rfl) rfl)
  ·refine ox_skip (sees_f rfl rfl rfl rfl hp7) ?_
   refine ox_skip (sees_f rfl rfl rfl rfl hp7) ?_
   refine ox_skip (sees_f rfl rfl rfl rfl hp7) ?_
   refine ox_y rfl (y_pick_fb (congrArg Value.bool hp7) rfl) ?_
   obtain rfl:=Option.some.inj h
   exact key _ _ (keep (keep (keep (keep (keep (keep (keep (keep (keep rfl rfl) rfl) rfl) rfl) rfl) rfl) rfl) rfl) rfl)

theorem calxlaw02_Kiln_ok  (res:TFire) (h:calxlaw02_Kiln = some res) (W:World)  :
  Calls Tryz.prog 28 [].toArray W fun e W2 => ∃ x : Option Addr × Nat × Nat,x.2.1 = res.fLooks.length ∧ e = .returned (.agg #[.int .i64 res.fRise,.int .i64 res.fFall,.int .i64 res.fUp,.int .i64 res.fDown,.slice x.1 x.2.1 x.2.2]) ∧ Ext W W2 [rowR x.1 x.2.2 49 5 x.2.1 (encL TLook_cells res.fLooks)]:=by
 unfold calxlaw02_Kiln at h
 refine calls_enter (m:=12) Tryz.func28 rfl rfl (Nat.le_of_ble_eq_true rfl) ?_
 refine cx_seq (cx_region ?_)
 refine ox_alloc ze_24 rfl (fun b1 => ?_)
 refine ox_nil (ex_then (cx_seq (cx_region ?_)))
 refine ox_y rfl (y_buildS [.int .i64 10,.int .i64 5] [(0,1),(1,1)] ust_26 ze_26 (by kernel_rfl)) ?_
 refine ox_y rfl (y_buildS [.int .i64 800,.int .i64 900] [(0,1),(1,1)] ust_28 ze_28 (by kernel_rfl)) ?_
 refine ox_y rfl (y_buildS [.int .i64 1,.int .i64 10,.int .i64 5,.int .i64 800,.int .i64 900] [(0,1),(1,2),(3,2)] ust_49 ze_49 (by kernel_rfl)) ?_
 refine ox_y rfl (y_buildS [.int .i64 12,.int .i64 8] [(0,1),(1,1)] ust_26 ze_26 (by kernel_rfl)) ?_
 refine ox_y rfl (y_buildS [.int .i64 700,.int .i64 850] [(0,1),(1,1)] ust_28 ze_28 (by kernel_rfl)) ?_
 refine ox_y rfl (y_buildS [.int .i64 2,.int .i64 12,.int .i64 8,.int .i64 700,.int .i64 850] [(0,1),(1,2),(3,2)] ust_49 ze_49 (by kernel_rfl)) ?_
 refine ox_y rfl (y_buildS [.int .i64 10,.int .i64 20] [(0,1),(1,1)] ust_26 ze_26 (by kernel_rfl)) ?_
 refine ox_y rfl (y_buildS [.int .i64 950,.int .i64 1000] [(0,1),(1,1)] ust_28 ze_28 (by kernel_rfl)) ?_
 refine ox_y rfl (y_buildS [.int .i64 3,.int .i64 10,.int .i64 20,.int .i64 950,.int .i64 1000] [(0,1),(1,2),(3,2)] ust_49 ze_49 (by kernel_rfl)) ?_
 refine ox_buildSliceE 3 (encL TLook_cells [(TLook.mk 1 (TSpot.mk 10 5) (TSpan.mk 800 900)),(TLook.mk 2 (TSpot.mk 12 8) (TSpan.mk 700 850)),(TLook.mk 3 (TSpot.mk 10 20) (TSpan.mk 950 1000))]) _ mc_49_3 us_22 ze_49 by_49 (by decide) (by decide) (by kernel_rfl) (encL_len TLook_cells_len rfl) rfl (fun b2 => ?_)
 refine ox_y rfl (y_buildS [.int .i64 20,.int .i64 10,.int .i64 5,.int .i64 30,.slice (some ⟨b2,0,none⟩) 3 3] [(0,1),(1,1),(2,1),(3,1),(4,1)] ust_24 ze_24 (by kernel_rfl)) ?_
 refine ox_n rfl (y_storeN 0 [.int .i64 20,.int .i64 10,.int .i64 5,.int .i64 30,.slice (some ⟨b2,0,none⟩) 3 3] sz_24 rfl (Nat.le_of_ble_eq_true rfl) rfl rfl rfl) ?_
 refine ox_nil (ex_then (cx_ret ?_))
 obtain rfl:=Option.some.inj h
 exact ex_res1 (.inl rfl) rfl (resV_cellN 0 [.int .i64 20,.int .i64 10,.int .i64 5,.int .i64 30,.slice (some ⟨b2,0,none⟩) 3 3] ag_24 rfl rfl rfl) (fun W2 hW2 => ⟨((some ⟨b2,0,none⟩),3,3),rfl,rfl,(hW2.pick 1 rfl)⟩)

theorem fire_Far_ok (p0_f:TFire) (p1_from:TSpot) (p2_to:TSpot) (res:(Int × Int)) (h:fire_Far p0_f p1_from p2_to = some res) (W:World) (A0_4:Option Addr) (n0_4 c0_4 : Nat) (hn0_4:n0_4 = p0_f.fLooks.length) (hr0_4:Rd W A0_4 n0_4 c0_4 (encL TLook_cells p0_f.fLooks)) :
  Calls Tryz.prog 29 [.agg #[.int .i64 p0_f.fRise,.int .i64 p0_f.fFall,.int .i64 p0_f.fUp,.int .i64 p0_f.fDown,.slice A0_4 n0_4 c0_4],.agg #[.int .i64 p1_from.fFoot,.int .i64 p1_from.fHour],.agg #[.int .i64 p2_to.fFoot,.int .i64 p2_to.fHour]].toArray W fun e W2 => e = .returned (.tuple #[.int .i64 res.1,.int .i64 res.2]) ∧ Ext W W2 []:=by
 subst hn0_4
 unfold fire_Far at h
 refine calls_enter (m:=21) Tryz.func29 rfl rfl (Nat.le_of_ble_eq_true rfl) ?_
 refine cx_seq (cx_region ?_)
 refine ox_box [.int .i64 p0_f.fRise,.int .i64 p0_f.fFall,.int .i64 p0_f.fUp,.int .i64 p0_f.fDown,.slice A0_4 p0_f.fLooks.length c0_4] rfl rfl rfl (fun b1 => ?_)
 refine ox_box [.int .i64 p1_from.fFoot,.int .i64 p1_from.fHour] rfl rfl rfl (fun b2 => ?_)
 refine ox_box [.int .i64 p2_to.fFoot,.int .i64 p2_to.fHour] rfl rfl rfl (fun b3 => ?_)
 refine ox_y rfl (y_assign_int rfl) ?_
 refine ox_y rfl (y_assign_int rfl) ?_
 refine ox_nil (ex_then (cx_seq (cx_seq (cx_region ?_))))
 refine ox_y rfl (y_loadN 0 [.int .i64 p0_f.fRise,.int .i64 p0_f.fFall,.int .i64 p0_f.fUp,.int .i64 p0_f.fDown,.slice A0_4 p0_f.fLooks.length c0_4] ag_24 rfl rfl rfl) ?_
 refine ox_y rfl (y_loadN 1 [.int .i64 p1_from.fFoot,.int .i64 p1_from.fHour] ag_26 rfl rfl rfl) ?_
 refine ox_y rfl (y_loadN 2 [.int .i64 p2_to.fFoot,.int .i64 p2_to.fHour] ag_26 rfl rfl rfl) ?_
 refine ox_buildSliceE 2 (encL TSpot_cells [p1_from,p2_to]) _ mc_26_2 us_50 ze_26 by_26 (by decide) (by decide) (by kernel_rfl) (encL_len TSpot_cells_len rfl) rfl (fun b4 => ?_)
 obtain ⟨y5,hy6,h⟩:=bind_some h
 refine ox_y rfl (y_call [.agg #[.int .i64 p0_f.fRise,.int .i64 p0_f.fFall,.int .i64 p0_f.fUp,.int .i64 p0_f.fDown,.slice A0_4 p0_f.fLooks.length c0_4],.slice (some ⟨b4,0,none⟩) 2 2] go_38 rfl (fun W2 hW2 => fire_spots_ok p0_f [p1_from,p2_to] y5 hy6 W2 A0_4 p0_f.fLooks.length c0_4 rfl ((RdL.arg hr0_4) W2 hW2) (some ⟨b4,0,none⟩) 2 2 rfl ((RdL.row 3 rfl) W2 hW2)) rfl) ?_
 refine ox_y rfl (y_assign_int rfl) ?_
 refine ox_nil (ex_then (cx_seq (cx_region ?_)))
 refine ox_y rfl (y_move_int rfl) ?_
 refine ox_y rfl (y_neq rfl rfl) ?_
 refine ox_nil (ex_then ?_)
 rcases ite_some h with ⟨hp7,h⟩ | ⟨hp7,h⟩
 ·refine cx_true (congrArg Value.bool hp7) ?_
  refine cx_seq (cx_region ?_)
  refine ox_y rfl (y_move_int rfl) ?_
  refine ox_y rfl (y_assign_int rfl) ?_
  refine ox_y rfl (y_assign_int rfl) ?_
  refine ox_nil (ex_then (cx_ret (ex_then_ret ?_)))
  obtain rfl:=Option.some.inj h
  exact ex_res2 (.inl rfl) rfl (resV_tmp (v:=.int .i64 0) rfl) (resV_tmp (v:=.int .i64 y5) rfl) (fun W2 hW2 => ⟨rfl,hW2.none⟩)
 ·refine cx_false (congrArg Value.bool hp7) ?_
  refine cx_skip (ex_then (cx_seq (cx_region ?_)))
  refine ox_y rfl (y_loadN 0 [.int .i64 p0_f.fRise,.int .i64 p0_f.fFall,.int .i64 p0_f.fUp,.int .i64 p0_f.fDown,.slice A0_4 p0_f.fLooks.length c0_4] ag_24 rfl rfl rfl) ?_
  refine ox_y rfl (y_loadN 1 [.int .i64 p1_from.fFoot,.int .i64 p1_from.fHour] ag_26 rfl rfl rfl) ?_
  refine ox_y rfl (y_loadN 2 [.int .i64 p2_to.fFoot,.int .i64 p2_to.fHour] ag_26 rfl rfl rfl) ?_
  obtain ⟨y8,hy9,h⟩:=bind_some h
  refine ox_y rfl (y_call [.agg #[.int .i64 p0_f.fRise,.int .i64 p0_f.fFall,.int .i64 p0_f.fUp,.int .i64 p0_f.fDown,.slice A0_4 p0_f.fLooks.length c0_4],.agg #[.int .i64 p1_from.fFoot,.int .i64 p1_from.fHour],.agg #[.int .i64 p2_to.fFoot,.int .i64 p2_to.fHour]] go_63 rfl (fun W2 hW2 => fire_far_ok p0_f p1_from p2_to y8 hy9 W2 A0_4 p0_f.fLooks.length c0_4 rfl ((RdL.arg hr0_4) W2 hW2)) rfl) ?_
  refine ox_y rfl (y_assign_int rfl) ?_
  refine ox_y rfl (y_assign_int rfl) ?_
  refine ox_nil (ex_then (cx_ret ?_))
  obtain rfl:=Option.some.inj h
  exact ex_res2 (.inl rfl) rfl (resV_tmp (v:=.int .i64 y8) rfl) (resV_tmp (v:=.int .i64 0) rfl) (fun W2 hW2 => ⟨rfl,hW2.none⟩)

theorem calxlaw02_at_ok (p0_foot:Int) (p1_hour:Int) (res:TSpot) (h:calxlaw02_at p0_foot p1_hour = some res) (W:World)  :
  Calls Tryz.prog 30 [.int .i64 p0_foot,.int .i64 p1_hour].toArray W fun e W2 => e = .returned (.agg #[.int .i64 res.fFoot,.int .i64 res.fHour]) ∧ Ext W W2 []:=by
 unfold calxlaw02_at at h
 refine calls_enter (m:=8) Tryz.func30 rfl rfl (Nat.le_of_ble_eq_true rfl) ?_
 refine cx_seq (cx_region ?_)
 refine ox_alloc ze_26 rfl (fun b1 => ?_)
 refine ox_nil (ex_then (cx_seq (cx_region ?_)))
 refine ox_y rfl (y_move_int rfl) ?_
 refine ox_y rfl (y_move_int rfl) ?_
 refine ox_y rfl (y_buildS [.int .i64 p0_foot,.int .i64 p1_hour] [(0,1),(1,1)] ust_26 ze_26 (by kernel_rfl)) ?_
 refine ox_n rfl (y_storeN 0 [.int .i64 p0_foot,.int .i64 p1_hour] sz_26 rfl (Nat.le_of_ble_eq_true rfl) rfl rfl rfl) ?_
 refine ox_nil (ex_then (cx_ret ?_))
 obtain rfl:=Option.some.inj h
 exact ex_res1 (.inl rfl) rfl (resV_cellN 0 [.int .i64 p0_foot,.int .i64 p1_hour] ag_26 rfl rfl rfl) (fun W2 hW2 => ⟨rfl,hW2.none⟩)

end Go.Proofs.YtndajeiecdmhnaaGreat
