import Derived.Test.YtbblpokfbmekfaaGreatF
import Derived.Test.YtbblpokfbmekfaaGreatGy
import Derived.Test.YtbblpokfbmekfaaGreatC1
import Derived.Test.YtbblpokfbmekfaaGreatC2
import Derived.Test.YtbblpokfbmekfaaGreatC4
import Derived.Test.YtbblpokfbmekfaaGreatC10
set_option maxHeartbeats 4000000
set_option maxRecDepth 100000
set_option linter.unusedVariables false
namespace Go.Proofs.YtbblpokfbmekfaaGreat
open Go.RowKit (Below)
attribute [local irreducible] OX QX CX EX OpY Calls CallsIn
theorem slices_Clone_int_int_ok (p0:(List Int)) (res:(List Int)) (h:slices_Clone_int_int p0 = some res) (W:World) (A0_0:Option Addr) (n0_0 c0_0 : Nat) (hn0_0:n0_0 = p0.length) (hr0_0:Rd W A0_0 n0_0 c0_0 (encL cI p0)) :
  Calls Tryz.prog 138 [.slice A0_0 n0_0 c0_0].toArray W fun e W2 => ∃ x : Option Addr × Nat × Nat,x.2.1 = res.length ∧ e = .returned (.slice x.1 x.2.1 x.2.2) ∧ Ext W W2 [rowR x.1 x.2.2 3 1 x.2.1 (encL cI res)]:=by
 subst hn0_0
 unfold slices_Clone_int_int at h
 refine calls_enter (m:=8) Tryz.func138 rfl rfl (Nat.le_of_ble_eq_true rfl) ?_
 refine cS (cR ?_)
 refine ox_y rfl (yAS rfl) ?_
 refine oN (eT (cS (cS (cR ?_))))
 refine ox_y rfl (yMS rfl) (ox_y rfl (y_eqnil us_26 rfl rfl) ?_)
 refine oN (eT ?_)
 rcases bool_cases (Option.isNone A0_0) with hp1 | hp1
 ·refine cx_true (congrArg Value.bool hp1) ?_
  have z6:=rd_none (Option.isNone_iff_eq_none.1 hp1 ▸ hr0_0) cI_len (by decide)
  replace h:=(gOs h).2
  rw [z6] at h
  refine cS (cR ?_)
  refine ox_y rfl (yAS rfl) ?_
  refine oN (eT (cx_ret (ex_then_ret ?_)))
  obtain rfl:=Option.some.inj h
  exact ex_res1 (.inl rfl) rfl (rVt (v:=.slice none 0 0) rfl) (fun W2 hW2 => ⟨(none,0,0),rfl,rfl,((hW2.nilrow 3 1).pick 0 rfl)⟩)
 ·refine cx_false (congrArg Value.bool hp1) ?_
  refine cx_skip (eT (cS (cR ?_)))
  refine ox_buildSlice0 cI us_26 ze_3 by_3 rfl (fun b2 => ?_)
  refine ox_y rfl (yMS rfl) ?_
  obtain ⟨hg5,h⟩:=gOs h
  refine ox_append0 0 us_26 ze_3 by_3 rfl rfl rfl (RdL.arg hr0_0) (encL_len cI_len rfl) (encL_one cI_one _) (app_room hg5 (by decide)) rfl (fun A3 c4 => ?_)
  refine ox_y rfl (yAS rfl) ?_
  refine oN (eT (cx_ret ?_))
  obtain rfl:=Option.some.inj h
  exact ex_res1 (.inl rfl) rfl (rVt (v:=.slice A3 (0 + p0.length) c4) rfl) (fun W2 hW2 => ⟨(A3,(0 + p0.length),c4),(hn_app rfl rfl),rfl,(hW2.pick 0 rfl)⟩)
theorem recall_find_ok (p0:TLineage) (p1:(List Int)) (p2:Int) (p3:Bool) (res:((List Int) × Bool)) (h:recall_find p0 p1 p2 p3 = some res) (W:World) (A0_0:Option Addr) (n0_0 c0_0 : Nat) (hn0_0:n0_0 = p0.fNodes.length) (hr0_0:Rd W A0_0 n0_0 c0_0 (encL TNode_cells p0.fNodes)) (A0_1:Option Addr) (n0_1 c0_1 : Nat) (ys0_1:List (Hd × TClaim)) (hn0_1:n0_1 = p0.fClaims.length) (hr0_1:Rd W A0_1 n0_1 c0_1 (encL TClaim_cells2 ys0_1)) (hN0_1:NestW W (fun z : TClaim => z.fOptions) THop_cells ys0_1 p0.fClaims) (A1_0:Option Addr) (n1_0 c1_0 : Nat) (hn1_0:n1_0 = p1.length) (hr1_0:Rd W A1_0 n1_0 c1_0 (encL cI p1)) :
  Calls Tryz.prog 103 [.agg #[.slice A0_0 n0_0 c0_0,.slice A0_1 n0_1 c0_1],.slice A1_0 n1_0 c1_0,.int .i64 p2,.bool p3].toArray W fun e W2 => ∃ x : Option Addr × Nat × Nat,x.2.1 = res.1.length ∧ e = .returned (.tuple #[.slice x.1 x.2.1 x.2.2,.bool res.2]) ∧ Ext W W2 [rowR x.1 x.2.2 3 1 x.2.1 (encL cI res.1)]:=by
 subst hn0_0
 subst hn0_1
 subst hn1_0
 unfold recall_find at h
 refine calls_enterM (m:=29) Tryz.func103 rfl rfl (Nat.le_of_ble_eq_true rfl) ?_
 refine cS (cR ?_)
 refine ox_box [.slice A0_0 p0.fNodes.length c0_0,.slice A0_1 p0.fClaims.length c0_1] rfl rfl rfl (fun b1 => ?_)
 refine ox_box [.slice A1_0 p1.length c1_0] rfl rfl rfl (fun b2 => ?_)
 refine ox_box [.int .i64 p2] rfl rfl rfl (fun b3 => ?_)
 refine ox_box [.bool p3] rfl rfl rfl (fun b4 => ?_)
 refine ox_y rfl (yAS rfl) (ox_y rfl (y_assign_bool rfl) ?_)
 refine oN (eT ?_)
 refine cx_scope ?_
 refine cS (cR ?_)
 refine ox_alloc ze_26 rfl (fun b5 => ?_)
 refine oN (eT (cS (cR ?_)))
 refine ox_alloc ze_4 rfl (fun b6 => ?_)
 try dsimp only [lna,lca,lsz,lss]
 refine ox_n rfl (y_store1 5 (v:=.bool false) sz_4 rfl (Nat.lt_of_lt_of_le (Nat.lt_succ_self _) (Nat.le_of_ble_eq_true rfl)) rfl rfl rfl) ?_
 refine oN (eT (cS ?_))
 refine cx_label ?_
 refine eT (cS (cS (cR ?_)))
 refine ox_y rfl (y_loadN 0 [.slice A0_0 p0.fNodes.length c0_0,.slice A0_1 p0.fClaims.length c0_1] ag_25 rfl rfl rfl) ?_
 obtain ⟨y7,hy8,h⟩:=bOs h
 refine ox_call1 [.agg #[.slice A0_0 p0.fNodes.length c0_0,.slice A0_1 p0.fClaims.length c0_1]] _ _ rfl go_86 rfl (fun W2 hW2 => recall_cases_ok p0 y7 hy8 W2 A0_0 p0.fNodes.length c0_0 rfl ((RdL.arg hr0_0) W2 hW2) A0_1 p0.fClaims.length c0_1 ys0_1 rfl ((RdL.arg hr0_1) W2 hW2) (NestL.at (NestL.arg hN0_1) W2 hW2)) ?_
 rintro b9
 try dsimp only [lna,lca,lsz,lss]
 refine oN (eT (cx_block ?_))
 refine cx_nilrow 3 1 ?_
 obtain ⟨hok40,h⟩:=gOs h
 obtain ⟨u22,hl39,h⟩:=bOs h
 refine cx_rangeC (caps:=[.pointer (some ⟨b9,0,none⟩)]) (fun (s:(Bool × (List Int))) L => ∃ (A7_s:Option Addr) (c7_s:Nat) (n7_s:Nat),n7_s = s.2.length ∧ L = [cellsR b1 25 [.slice A0_0 p0.fNodes.length c0_0,.slice A0_1 p0.fClaims.length c0_1],cellsR b2 26 [.slice A1_0 p1.length c1_0],cellsR b3 3 [.int .i64 p2],cellsR b4 4 [.bool p3],cellsR b5 26 [.slice A7_s n7_s c7_s],cellsR b6 4 [.bool s.1],cellsR b9 25 [.slice A0_0 p0.fNodes.length c0_0,.slice A0_1 p0.fClaims.length c0_1],rowR A7_s c7_s 3 1 n7_s (encL cI s.2)]) (fun (s:(Bool × (List Int))) e L => e = .exit 0 ∧ ∃ (A7_s:Option Addr) (c7_s:Nat) (n7_s:Nat),n7_s = s.2.length ∧ L = [cellsR b1 25 [.slice A0_0 p0.fNodes.length c0_0,.slice A0_1 p0.fClaims.length c0_1],cellsR b2 26 [.slice A1_0 p1.length c1_0],cellsR b3 3 [.int .i64 p2],cellsR b4 4 [.bool p3],cellsR b5 26 [.slice A7_s n7_s c7_s],cellsR b6 4 [.bool s.1],cellsR b9 25 [.slice A0_0 p0.fNodes.length c0_0,.slice A0_1 p0.fClaims.length c0_1],rowR A7_s c7_s 3 1 n7_s (encL cI s.2)]) hl39 rfl go_130 (recall_cases_1_seq p0 hok40 b9 A0_0 p0.fNodes.length c0_0 A0_1 p0.fClaims.length c0_1 rfl ys0_1 hN0_1.p) (fun W2 s L hI hW2 => by obtain ⟨A7_s,c7_s,n7_s,rfl,rfl⟩:=hI; exact ⟨(RdL.cells 6 rfl) W2 hW2,(RdL.arg hr0_1) W2 hW2⟩) ⟨none,0,0,rfl,rfl⟩ (fun s e L hI => by obtain ⟨rfl,_⟩:=hI; exact .inr ⟨_,rfl⟩) ?_ ?_ ?_
 ·rintro D10 l11 rec12 A14 c15 s20 x21 L st hrec13 ⟨A7_s20,c7_s20,n7_s20,rfl,rfl⟩ h
  unfold recall_find_r1 at h
  refine cR ?_
  try dsimp only [lna,lca,lsz,lss]
  refine ox_y rfl (yAS rfl) (oN (ex_begin 9 rfl hrec13 ?_))
  refine cx_block (cS ?_)
  obtain ⟨y24,hy25,h⟩:=bOs h
  obtain ⟨y28,hy29,h⟩:=bOs h
  obtain ⟨hg31,h⟩:=gOs h
  refine cx_drawsG [[],[],[],[2],[0,1,2,3],[],[0,1,2,3,4,5],[],[0,1,2,3,4,5,6,7]] [(none,0,[true,true,true,true,true,true,true,true,true,true,true]),(none,0,[true,true,true,true,true,true,true,true,true,true,true]),(none,0,[true,true,true,true,true,true,true,true,true,true,true]),(none,0,[true,true,true,true,true,true,true,true,true,true,true]),(none,1,[true,true,true,true,true,true,true,true,true,true,true]),(none,0,[true,true,true,true,true,true,true,true,true,true,true,false]),(none,0,[true,true,true,true,true,true,true,true,true,true,true,true]),(none,0,[true,true,true,true,true,true,true,true,true,true,true,false]),(none,0,[true,true,true,true,true,true,true,true,true,true,true,true])] [⟨fun _ => .agg #[.slice A0_0 p0.fNodes.length c0_0,.slice A0_1 p0.fClaims.length c0_1],fun _ => noR,fun _ => []⟩,⟨fun _ => .slice A1_0 p1.length c1_0,fun _ => noR,fun _ => []⟩,⟨fun _ => .slice A14 x21.length c15,fun _ => noR,fun _ => []⟩,⟨fun _ => .func (.func 132) #[.slice A14 x21.length c15] #[],fun _ => noR,fun _ => []⟩,⟨fun ξ23 => .map (some (ξ23 4 0).2.1),fun _ => noR,fun ξ23 => [mapV Tryz.prog 3 kI rngB kB false (ξ23 4 0).2.1 y28]⟩,⟨fun _ => .int .i64 p2,fun _ => noR,fun _ => []⟩,⟨fun _ => .bool (mgetV false y28 p2),fun _ => noR,fun _ => []⟩,⟨fun _ => .bool p3,fun _ => noR,fun _ => []⟩,⟨fun _ => .bool ((mgetV false y28 p2) == p3),fun _ => noR,fun _ => []⟩] 11 mixed (by kernel_rfl) (by kernel_rfl) ⟨⟨fun ξ23 ξ23' h => ⟨rfl,rfl,rfl⟩,fun _ => rfl⟩,⟨fun ξ23 ξ23' h => ⟨rfl,rfl,rfl⟩,fun _ => rfl⟩,⟨fun ξ23 ξ23' h => ⟨rfl,rfl,rfl⟩,fun _ => rfl⟩,⟨fun ξ23 ξ23' h => ⟨rfl,rfl,rfl⟩,fun _ => rfl⟩,⟨fun ξ23 ξ23' h => ⟨by simp only [h 4 (.inl rfl)],rfl,by simp only [h 4 (.inl rfl)]⟩,fun _ => rfl⟩,⟨fun ξ23 ξ23' h => ⟨rfl,rfl,rfl⟩,fun _ => rfl⟩,⟨fun ξ23 ξ23' h => ⟨rfl,rfl,rfl⟩,fun _ => rfl⟩,⟨fun ξ23 ξ23' h => ⟨rfl,rfl,rfl⟩,fun _ => rfl⟩,⟨fun ξ23 ξ23' h => ⟨rfl,rfl,rfl⟩,fun _ => rfl⟩,trivial⟩ rfl (fun ξ23 => ?_)
  refine gx_o rfl (fun L2 => ?_) ?_
  ·dsimp only [maskL,lca,lna]
   refine ox_y rfl (y_loadN 0 [.slice A0_0 p0.fNodes.length c0_0,.slice A0_1 p0.fClaims.length c0_1] ag_25 rfl rfl rfl) (oN ?_)
   exact ex_capG (fun _ => (none,0,0,[],noR)) rfl (List.append_nil _)
  dsimp only [aftL,lsz,lss,lna,lca,List.append_nil]
  refine gx_o rfl (fun L2 => ?_) ?_
  ·dsimp only [maskL,lca,lna]
   refine ox_y rfl (y_load1 1 (v:=.slice A1_0 p1.length c1_0) sc_26 rfl rfl rfl) (oN ?_)
   exact ex_capG (fun _ => (none,0,0,[],noR)) rfl (List.append_nil _)
  dsimp only [aftL,lsz,lss,lna,lca,List.append_nil]
  refine gx_o rfl (fun L2 => ?_) ?_
  ·dsimp only [maskL,lca,lna]
   refine ox_y rfl (yMS rfl) (oN ?_)
   exact ex_capG (fun _ => (none,0,0,[],noR)) rfl (List.append_nil _)
  dsimp only [aftL,lsz,lss,lna,lca,List.append_nil]
  refine gx_o rfl (fun L2 => ?_) ?_
  ·dsimp only [maskL,lca,lna]
   refine ox_y rfl (y_call [.slice A14 x21.length c15] go_88 rfl (fun W2 hW2 => recall_inCase_ok x21 y24 hy25 W2 A14 x21.length c15 rfl ((RdL.row 10 rfl) W2 hW2)) rfl) (oN ?_)
   exact ex_capG (fun _ => (none,0,0,[],noR)) rfl (List.append_nil _)
  dsimp only [aftL,lsz,lss,lna,lca,List.append_nil]
  refine gx_o rfl (fun L2 => ?_) ?_
  ·dsimp only [maskL,lca,lna]
   refine ox_call1 [.agg #[.slice A0_0 p0.fNodes.length c0_0,.slice A0_1 p0.fClaims.length c0_1],.slice A1_0 p1.length c1_0,.func (.func 132) #[.slice A14 x21.length c15] #[]] _ _ rfl go_87 rfl (fun W2 hW2 => recall_reach_ok p0 p1 (fun x26 x27 => recall_fixed_has x21 x26 x27) y28 hy29 W2 A0_0 p0.fNodes.length c0_0 rfl ((RdL.arg hr0_0) W2 hW2) A0_1 p0.fClaims.length c0_1 ys0_1 rfl ((RdL.arg hr0_1) W2 hW2) (NestL.at (NestL.arg hN0_1) W2 hW2) A1_0 p1.length c1_0 rfl ((RdL.arg hr1_0) W2 hW2) 132 [.slice A14 x21.length c15] [] go_132 (fun W3 hb x0 x1 y hxy => recall_fixed_has_ok x21 x0 x1  y hxy W3 A14 x21.length c15 rfl (((RdL.row 10 rfl) W2 hW2).later hb))) ?_
   rintro b30
   refine oN ?_
   exact ex_capG (fun _ => (none,b30,0,[],noR)) rfl rfl
  dsimp only [aftL,lsz,lss,lna,lca,List.append_nil]
  refine gx_o rfl (fun L2 => ?_) ?_
  ·dsimp only [maskL,lca,lna]
   refine ox_y rfl (y_load1 2 (v:=.int .i64 p2) sc_3 rfl rfl rfl) (oN ?_)
   exact ex_capG (fun _ => (none,0,0,[],noR)) rfl (List.append_nil _)
  dsimp only [aftL,lsz,lss,lna,lca,List.append_nil]
  refine gx_o rfl (fun L2 => ?_) ?_
  ·dsimp only [maskL,lca,lna]
   refine ox_y rfl (y_lookupV (k:=p2) (MpL.own 11 rfl) ke_3 um_94 ze_4 rfl rfl hg31) (oN ?_)
   exact ex_capG (fun _ => (none,0,0,[],noR)) rfl (List.append_nil _)
  dsimp only [aftL,lsz,lss,lna,lca,List.append_nil]
  refine gx_o rfl (fun L2 => ?_) ?_
  ·dsimp only [maskL,lca,lna]
   refine ox_y rfl (y_load1 3 (v:=.bool p3) sc_4 rfl rfl rfl) (oN ?_)
   exact ex_capG (fun _ => (none,0,0,[],noR)) rfl (List.append_nil _)
  dsimp only [aftL,lsz,lss,lna,lca,List.append_nil]
  refine gx_o rfl (fun L2 => ?_) ?_
  ·dsimp only [maskL,lca,lna]
   refine ox_y rfl (y_eqlb ub_4 rfl rfl) (oN ?_)
   exact ex_capG (fun _ => (none,0,0,[],noR)) rfl (List.append_nil _)
  dsimp only [aftL,lsz,lss,lna,lca,List.append_nil]
  refine gx_nil (eT ?_)
  rcases iOs h with ⟨hp32,h⟩ | ⟨hp32,h⟩
  ·refine cx_true (congrArg Value.bool hp32) ?_
   refine cS (cR ?_)
   try dsimp only [lna,lca,lsz,lss]
   refine ox_y rfl (yMS rfl) ?_
   obtain ⟨y33,hy34,h⟩:=bOs h
   refine ox_call [.slice A14 x21.length c15] _ _ _ rfl go_138 rfl (fun W2 hW2 => slices_Clone_int_int_ok x21 y33 hy34 W2 A14 x21.length c15 rfl ((RdL.row 10 rfl) W2 hW2)) ?_
   rintro ⟨A35,n37,c36⟩ hn38
   replace hn38 : n37 = y33.length:=hn38; subst hn38
   try dsimp only [lna,lca,lsz,lss]
   refine ox_n rfl (y_store1 4 (v:=.slice A35 y33.length c36) sz_26 rfl (Nat.lt_of_lt_of_le (Nat.lt_succ_self _) (Nat.le_of_ble_eq_true rfl)) rfl rfl rfl) (ox_n rfl (y_store1 5 (v:=.bool true) sz_4 rfl (Nat.lt_of_lt_of_le (Nat.lt_succ_self _) (Nat.le_of_ble_eq_true rfl)) rfl rfl rfl) ?_)
   refine oN (eT ?_)
   refine cx_exit (ex_block_past rfl ?_)
   refine ex_mv 7 12 (by decide) rfl ?_
   try dsimp only [lsz,lss]
   refine ex_take 11 ?_
   obtain rfl:=Option.some.inj h
   exact ex_cstop [cellsR b1 25 [.slice A0_0 p0.fNodes.length c0_0,.slice A0_1 p0.fClaims.length c0_1],cellsR b2 26 [.slice A1_0 p1.length c1_0],cellsR b3 3 [.int .i64 p2],cellsR b4 4 [.bool p3],cellsR b5 26 [.slice A35 y33.length c36],cellsR b6 4 [.bool true],cellsR b9 25 [.slice A0_0 p0.fNodes.length c0_0,.slice A0_1 p0.fClaims.length c0_1],rowR A35 c36 3 1 y33.length (encL cI y33)] ⟨rfl,A35,c36,y33.length,rfl,rfl⟩
  ·refine cx_false (congrArg Value.bool hp32) (cx_skip (ex_block (ex_take 11 ?_)))
   obtain rfl:=Option.some.inj h
   exact ex_cnext [cellsR b1 25 [.slice A0_0 p0.fNodes.length c0_0,.slice A0_1 p0.fClaims.length c0_1],cellsR b2 26 [.slice A1_0 p1.length c1_0],cellsR b3 3 [.int .i64 p2],cellsR b4 4 [.bool p3],cellsR b5 26 [.slice A7_s20 s20.2.length c7_s20],cellsR b6 4 [.bool s20.1],cellsR b9 25 [.slice A0_0 p0.fNodes.length c0_0,.slice A0_1 p0.fClaims.length c0_1],rowR A7_s20 c7_s20 3 1 s20.2.length (encL cI s20.2)] ⟨A7_s20,c7_s20,s20.2.length,rfl,rfl⟩
 ·rintro D10 u41 L hst ⟨A7_u41,c7_u41,n7_u41,rfl,rfl⟩
  subst hst
  dsimp only at h
  refine ex_block ?_
  refine eT (cS ?_)
  refine cx_draws 4 mixed (by kernel_rfl) (by kernel_rfl) ?_
  try dsimp only [lna,lca,lsz,lss]
  refine qx_y rfl (y_load1 4 (v:=.slice A7_u41 u41.2.length c7_u41) sc_26 rfl rfl rfl) (qx_y rfl (y_load1 5 (v:=.bool u41.1) sc_4 rfl rfl rfl) (qx_y rfl (yAS rfl) (qx_y rfl (y_assign_bool rfl) (qx_nil ?_))))
  refine oN (eT (cx_ret ?_))
  refine ex_scope_ret (ex_M1 8 rfl (.inl rfl) ?_)
  obtain rfl:=Option.some.inj h
  exact ex_res2 (.inl rfl) rfl (rVt (v:=.slice A7_u41 u41.2.length c7_u41) rfl) (rVt (v:=.bool u41.1) rfl) (fun W2 hW2 => ⟨(A7_u41,u41.2.length,c7_u41),rfl,rfl,(hW2.pick 7 rfl)⟩)
 ·rintro D10 u42 e L hst ⟨rfl,A7_u42,c7_u42,n7_u42,rfl,rfl⟩
  subst hst
  dsimp only at h
  refine ex_block_here ?_
  refine eT (cS ?_)
  refine cx_draws 4 mixed (by kernel_rfl) (by kernel_rfl) ?_
  try dsimp only [lna,lca,lsz,lss]
  refine qx_y rfl (y_load1 4 (v:=.slice A7_u42 u42.2.length c7_u42) sc_26 rfl rfl rfl) (qx_y rfl (y_load1 5 (v:=.bool u42.1) sc_4 rfl rfl rfl) (qx_y rfl (yAS rfl) (qx_y rfl (y_assign_bool rfl) (qx_nil ?_))))
  refine oN (eT (cx_ret ?_))
  refine ex_scope_ret (ex_M1 8 rfl (.inl rfl) ?_)
  obtain rfl:=Option.some.inj h
  exact ex_res2 (.inl rfl) rfl (rVt (v:=.slice A7_u42 u42.2.length c7_u42) rfl) (rVt (v:=.bool u42.1) rfl) (fun W2 hW2 => ⟨(A7_u42,u42.2.length,c7_u42),rfl,rfl,(hW2.pick 7 rfl)⟩)
theorem recall_Clear_ok (p0:TLineage) (p1:(List Int)) (p2:Int) (res:((List Int) × Int)) (h:recall_Clear p0 p1 p2 = some res) (W:World) (A0_0:Option Addr) (n0_0 c0_0 : Nat) (hn0_0:n0_0 = p0.fNodes.length) (hr0_0:Rd W A0_0 n0_0 c0_0 (encL TNode_cells p0.fNodes)) (A0_1:Option Addr) (n0_1 c0_1 : Nat) (ys0_1:List (Hd × TClaim)) (hn0_1:n0_1 = p0.fClaims.length) (hr0_1:Rd W A0_1 n0_1 c0_1 (encL TClaim_cells2 ys0_1)) (hN0_1:NestW W (fun z : TClaim => z.fOptions) THop_cells ys0_1 p0.fClaims) (A1_0:Option Addr) (n1_0 c1_0 : Nat) (hn1_0:n1_0 = p1.length) (hr1_0:Rd W A1_0 n1_0 c1_0 (encL cI p1)) :
  Calls Tryz.prog 37 [.agg #[.slice A0_0 n0_0 c0_0,.slice A0_1 n0_1 c0_1],.slice A1_0 n1_0 c1_0,.int .i64 p2].toArray W fun e W2 => ∃ x : Option Addr × Nat × Nat,x.2.1 = res.1.length ∧ e = .returned (.tuple #[.slice x.1 x.2.1 x.2.2,.int .i64 res.2]) ∧ Ext W W2 [rowR x.1 x.2.2 3 1 x.2.1 (encL cI res.1)]:=by
 subst hn0_0
 subst hn0_1
 subst hn1_0
 unfold recall_Clear at h
 refine calls_enter (m:=28) Tryz.func37 rfl rfl (Nat.le_of_ble_eq_true rfl) ?_
 refine cS (cR ?_)
 refine ox_box [.slice A0_0 p0.fNodes.length c0_0,.slice A0_1 p0.fClaims.length c0_1] rfl rfl rfl (fun b1 => ?_)
 refine ox_y rfl (yAS rfl) (ox_y rfl (yAI rfl) ?_)
 refine oN (eT (cS (cS (cR ?_))))
 refine ox_y rfl (y_loadN 0 [.slice A0_0 p0.fNodes.length c0_0,.slice A0_1 p0.fClaims.length c0_1] ag_25 rfl rfl rfl) (ox_y rfl (yMS rfl) (ox_y rfl (yMI rfl) ?_))
 obtain ⟨y2,hy3,h⟩:=bOs h
 refine ox_y rfl (y_call [.agg #[.slice A0_0 p0.fNodes.length c0_0,.slice A0_1 p0.fClaims.length c0_1],.slice A1_0 p1.length c1_0,.int .i64 p2] go_74 rfl (fun W2 hW2 => recall_askedTo_ok p0 p1 p2 y2 hy3 W2 A0_0 p0.fNodes.length c0_0 rfl ((RdL.arg hr0_0) W2 hW2) A0_1 p0.fClaims.length c0_1 ys0_1 rfl ((RdL.arg hr0_1) W2 hW2) (NestL.at (NestL.arg hN0_1) W2 hW2) A1_0 p1.length c1_0 rfl ((RdL.arg hr1_0) W2 hW2)) rfl) (ox_y rfl (yAI rfl) ?_)
 refine oN (eT (cS (cR ?_)))
 refine ox_y rfl (yMI rfl) (ox_y rfl (y_neq rfl rfl) ?_)
 refine oN (eT ?_)
 rcases iOs h with ⟨hp4,h⟩ | ⟨hp4,h⟩
 ·refine cx_true (congrArg Value.bool hp4) ?_
  refine cS (cR ?_)
  refine ox_y rfl (yMI rfl) (ox_y rfl (yAS rfl) (ox_y rfl (yAI rfl) ?_))
  refine oN (eT (cx_ret (ex_then_ret ?_)))
  obtain rfl:=Option.some.inj h
  exact ex_res2 (.inl rfl) rfl (rVt (v:=.slice none 0 0) rfl) (rVt (v:=.int .i64 y2) rfl) (fun W2 hW2 => ⟨(none,0,0),rfl,rfl,((hW2.nilrow 3 1).pick 1 rfl)⟩)
 ·refine cx_false (congrArg Value.bool hp4) ?_
  refine cx_skip (eT (cS (cR ?_)))
  refine ox_y rfl (y_loadN 0 [.slice A0_0 p0.fNodes.length c0_0,.slice A0_1 p0.fClaims.length c0_1] ag_25 rfl rfl rfl) (ox_y rfl (yMS rfl) (ox_y rfl (yMI rfl) ?_))
  obtain ⟨y5,hy6,h⟩:=bOs h
  refine ox_call [.agg #[.slice A0_0 p0.fNodes.length c0_0,.slice A0_1 p0.fClaims.length c0_1],.slice A1_0 p1.length c1_0,.int .i64 p2,.bool false] _ _ _ rfl go_103 rfl (fun W2 hW2 => recall_find_ok p0 p1 p2 false y5 hy6 W2 A0_0 p0.fNodes.length c0_0 rfl ((RdL.arg hr0_0) W2 hW2) A0_1 p0.fClaims.length c0_1 ys0_1 rfl ((RdL.arg hr0_1) W2 hW2) (NestL.at (NestL.arg hN0_1) W2 hW2) A1_0 p1.length c1_0 rfl ((RdL.arg hr1_0) W2 hW2)) ?_
  rintro ⟨A7,n9,c8⟩ hn10
  replace hn10 : n9 = y5.1.length:=hn10; subst hn10
  refine ox_y rfl (y_move_tuple rfl) (ox_y rfl (y_extract (vs:=[.slice A7 y5.1.length c8,.bool y5.2]) (v:=.slice A7 y5.1.length c8) rfl rfl) (ox_y rfl (y_extract (vs:=[.slice A7 y5.1.length c8,.bool y5.2]) (v:=.bool y5.2) rfl rfl) (ox_y rfl (yAS rfl) (ox_y rfl (y_assign_bool rfl) ?_))))
  refine oN (eT (cS (cS (cR ?_))))
  refine ox_y rfl (y_move_bool rfl) (ox_y rfl (y_not rfl) ?_)
  refine oN (eT ?_)
  rcases iOs h with ⟨hp11,h⟩ | ⟨hp11,h⟩
  ·refine cx_true (congrArg Value.bool hp11) ?_
   refine cS (cR ?_)
   refine ox_y rfl (yAS rfl) (ox_y rfl (yAI rfl) ?_)
   refine oN (eT (cx_ret (ex_then_ret ?_)))
   obtain rfl:=Option.some.inj h
   exact ex_res2 (.inl rfl) rfl (rVt (v:=.slice none 0 0) rfl) (rVt (v:=.int .i64 5) rfl) (fun W2 hW2 => ⟨(none,0,0),rfl,rfl,((hW2.nilrow 3 1).pick 2 rfl)⟩)
  ·refine cx_false (congrArg Value.bool hp11) ?_
   refine cx_skip (eT (cS (cR ?_)))
   refine ox_y rfl (yMS rfl) (ox_y rfl (yAS rfl) (ox_y rfl (yAI rfl) ?_))
   refine oN (eT (cx_ret ?_))
   obtain rfl:=Option.some.inj h
   exact ex_res2 (.inl rfl) rfl (rVt (v:=.slice A7 y5.1.length c8) rfl) (rVt (v:=.int .i64 0) rfl) (fun W2 hW2 => ⟨(A7,y5.1.length,c8),rfl,rfl,(hW2.pick 1 rfl)⟩)
theorem ref09_Sure_ok (p0:TLineage) (p1:(List Int)) (p2:Int) (res:Bool) (h:ref09_Sure p0 p1 p2 = some res) (W:World) (A0_0:Option Addr) (n0_0 c0_0 : Nat) (hn0_0:n0_0 = p0.fNodes.length) (hr0_0:Rd W A0_0 n0_0 c0_0 (encL TNode_cells p0.fNodes)) (A0_1:Option Addr) (n0_1 c0_1 : Nat) (ys0_1:List (Hd × TClaim)) (hn0_1:n0_1 = p0.fClaims.length) (hr0_1:Rd W A0_1 n0_1 c0_1 (encL TClaim_cells2 ys0_1)) (hN0_1:NestW W (fun z : TClaim => z.fOptions) THop_cells ys0_1 p0.fClaims) (A1_0:Option Addr) (n1_0 c1_0 : Nat) (hn1_0:n1_0 = p1.length) (hr1_0:Rd W A1_0 n1_0 c1_0 (encL cI p1)) :
  Calls Tryz.prog 39 [.agg #[.slice A0_0 n0_0 c0_0,.slice A0_1 n0_1 c0_1],.slice A1_0 n1_0 c1_0,.int .i64 p2].toArray W fun e W2 => e = .returned (.bool res) ∧ Ext W W2 []:=by
 subst hn0_0
 subst hn0_1
 subst hn1_0
 unfold ref09_Sure at h
 refine calls_enter (m:=21) Tryz.func39 rfl rfl (Nat.le_of_ble_eq_true rfl) ?_
 refine cS (cR ?_)
 refine ox_box [.slice A0_0 p0.fNodes.length c0_0,.slice A0_1 p0.fClaims.length c0_1] rfl rfl rfl (fun b1 => ?_)
 refine ox_y rfl (y_assign_bool rfl) ?_
 refine oN (eT (cS (cR ?_)))
 refine ox_y rfl (y_loadN 0 [.slice A0_0 p0.fNodes.length c0_0,.slice A0_1 p0.fClaims.length c0_1] ag_25 rfl rfl rfl) (ox_y rfl (yMS rfl) ?_)
 obtain ⟨y2,hy3,h⟩:=bOs h
 refine ox_call [.agg #[.slice A0_0 p0.fNodes.length c0_0,.slice A0_1 p0.fClaims.length c0_1],.slice A1_0 p1.length c1_0] _ _ _ rfl go_68 rfl (fun W2 hW2 => ref09_both_ok p0 p1 y2 hy3 W2 A0_0 p0.fNodes.length c0_0 rfl ((RdL.arg hr0_0) W2 hW2) A0_1 p0.fClaims.length c0_1 ys0_1 rfl ((RdL.arg hr0_1) W2 hW2) (NestL.at (NestL.arg hN0_1) W2 hW2) A1_0 p1.length c1_0 rfl ((RdL.arg hr1_0) W2 hW2)) ?_
 rintro ⟨⟨A4,n8,c5⟩,⟨A6,n10,c7⟩⟩ ⟨hn9,hn11⟩
 replace hn9 : n8 = y2.1.length:=hn9; subst hn9
 replace hn11 : n10 = y2.2.length:=hn11; subst hn11
 refine ox_y rfl (y_move_tuple rfl) (ox_y rfl (y_extract (vs:=[.slice A4 y2.1.length c5,.slice A6 y2.2.length c7]) (v:=.slice A4 y2.1.length c5) rfl rfl) (ox_y rfl (y_extract (vs:=[.slice A4 y2.1.length c5,.slice A6 y2.2.length c7]) (v:=.slice A6 y2.2.length c7) rfl rfl) (ox_y rfl (yAS rfl) (ox_y rfl (yAS rfl) ?_))))
 refine oN (eT (cS (cR ?_)))
 refine ox_y rfl (yMS rfl) (ox_y rfl (y_loadN 0 [.slice A0_0 p0.fNodes.length c0_0,.slice A0_1 p0.fClaims.length c0_1] ag_25 rfl rfl rfl) (ox_y rfl (yMI rfl) ?_))
 obtain ⟨y12,hy13,h⟩:=bOs h
 refine ox_y rfl (y_call [.agg #[.slice A0_0 p0.fNodes.length c0_0,.slice A0_1 p0.fClaims.length c0_1],.int .i64 p2] go_67 rfl (fun W2 hW2 => ref09_Node_ok p0 p2 y12 hy13 W2 A0_0 p0.fNodes.length c0_0 rfl ((RdL.arg hr0_0) W2 hW2) A0_1 p0.fClaims.length c0_1 ys0_1 rfl ((RdL.arg hr0_1) W2 hW2) (NestL.at (NestL.arg hN0_1) W2 hW2)) rfl) ?_
 obtain ⟨hg14,h⟩:=gOs h
 refine ox_y rfl (y_indexR sl_98 (by decide) hg14.1 hg14.2 (RdL.row 1 rfl) (encL_len cB_len rfl) rfl rfl) ?_
 refine ox_y rfl (y_loadR1 (A:=A4) (j:=(Int.toNat y12 * 1)) (v:=.bool (rdL y2.1 y12)) sc_4 (RdL.row 1 rfl) rfl (encL_get0 cB_len hg14.1 (lt_nat hg14.2 rfl) rfl)) (ox_y rfl (y_assign_bool rfl) ?_)
 refine oN (eT (cx_ret ?_))
 obtain rfl:=Option.some.inj h
 exact ex_res1 (.inl rfl) rfl (rVt (v:=.bool (rdL y2.1 y12)) rfl) (fun W2 hW2 => ⟨rfl,hW2.none⟩)
theorem ref09_CheckClear_ok (p0:TLineage) (p1:(List Int)) (p2:Int) (p3:(List Int)) (res:Int) (h:ref09_CheckClear p0 p1 p2 p3 = some res) (W:World) (A0_0:Option Addr) (n0_0 c0_0 : Nat) (hn0_0:n0_0 = p0.fNodes.length) (hr0_0:Rd W A0_0 n0_0 c0_0 (encL TNode_cells p0.fNodes)) (A0_1:Option Addr) (n0_1 c0_1 : Nat) (ys0_1:List (Hd × TClaim)) (hn0_1:n0_1 = p0.fClaims.length) (hr0_1:Rd W A0_1 n0_1 c0_1 (encL TClaim_cells2 ys0_1)) (hN0_1:NestW W (fun z : TClaim => z.fOptions) THop_cells ys0_1 p0.fClaims) (A1_0:Option Addr) (n1_0 c1_0 : Nat) (hn1_0:n1_0 = p1.length) (hr1_0:Rd W A1_0 n1_0 c1_0 (encL cI p1)) (A3_0:Option Addr) (n3_0 c3_0 : Nat) (hn3_0:n3_0 = p3.length) (hr3_0:Rd W A3_0 n3_0 c3_0 (encL cI p3)) :
  Calls Tryz.prog 40 [.agg #[.slice A0_0 n0_0 c0_0,.slice A0_1 n0_1 c0_1],.slice A1_0 n1_0 c1_0,.int .i64 p2,.slice A3_0 n3_0 c3_0].toArray W fun e W2 => e = .returned (.int .i64 res) ∧ Ext W W2 []:=by
 subst hn0_0
 subst hn0_1
 subst hn1_0
 subst hn3_0
 unfold ref09_CheckClear at h
 refine calls_enter (m:=30) Tryz.func40 rfl rfl (Nat.le_of_ble_eq_true rfl) ?_
 refine cS (cR ?_)
 refine ox_box [.slice A0_0 p0.fNodes.length c0_0,.slice A0_1 p0.fClaims.length c0_1] rfl rfl rfl (fun b1 => ?_)
 refine ox_y rfl (yAI rfl) ?_
 refine oN (eT (cS (cR ?_)))
 refine ox_y rfl (y_loadN 0 [.slice A0_0 p0.fNodes.length c0_0,.slice A0_1 p0.fClaims.length c0_1] ag_25 rfl rfl rfl) (ox_y rfl (yMS rfl) (ox_y rfl (yMI rfl) ?_))
 obtain ⟨y2,hy3,h⟩:=bOs h
 refine ox_y rfl (y_call [.agg #[.slice A0_0 p0.fNodes.length c0_0,.slice A0_1 p0.fClaims.length c0_1],.slice A1_0 p1.length c1_0,.int .i64 p2] go_38 rfl (fun W2 hW2 => ref09_To_ok p0 p1 p2 y2 hy3 W2 A0_0 p0.fNodes.length c0_0 rfl ((RdL.arg hr0_0) W2 hW2) A0_1 p0.fClaims.length c0_1 ys0_1 rfl ((RdL.arg hr0_1) W2 hW2) (NestL.at (NestL.arg hN0_1) W2 hW2) A1_0 p1.length c1_0 rfl ((RdL.arg hr1_0) W2 hW2)) rfl) (ox_y rfl (yAI rfl) ?_)
 refine oN (eT (cS (cS (cR ?_))))
 refine ox_y rfl (yMI rfl) (ox_y rfl (y_neq rfl rfl) ?_)
 refine oN (eT ?_)
 rcases iOs h with ⟨hp4,h⟩ | ⟨hp4,h⟩
 ·refine cx_true (congrArg Value.bool hp4) ?_
  refine cS (cR ?_)
  refine ox_y rfl (yMI rfl) (ox_y rfl (yAI rfl) ?_)
  refine oN (eT (cx_ret (ex_then_ret ?_)))
  obtain rfl:=Option.some.inj h
  exact ex_res1 (.inl rfl) rfl (rVt (v:=.int .i64 y2) rfl) (fun W2 hW2 => ⟨rfl,hW2.none⟩)
 ·refine cx_false (congrArg Value.bool hp4) ?_
  refine cx_skip (eT (cS (cS (cR ?_))))
  refine ox_y rfl (y_loadN 0 [.slice A0_0 p0.fNodes.length c0_0,.slice A0_1 p0.fClaims.length c0_1] ag_25 rfl rfl rfl) (ox_y rfl (yMS rfl) ?_)
  obtain ⟨y5,hy6,h⟩:=bOs h
  refine ox_y rfl (y_call [.agg #[.slice A0_0 p0.fNodes.length c0_0,.slice A0_1 p0.fClaims.length c0_1],.slice A3_0 p3.length c3_0] go_101 rfl (fun W2 hW2 => ref09_right_ok p0 p3 y5 hy6 W2 A0_0 p0.fNodes.length c0_0 rfl ((RdL.arg hr0_0) W2 hW2) A0_1 p0.fClaims.length c0_1 ys0_1 rfl ((RdL.arg hr0_1) W2 hW2) (NestL.at (NestL.arg hN0_1) W2 hW2) A3_0 p3.length c3_0 rfl ((RdL.arg hr3_0) W2 hW2)) rfl) (ox_y rfl (y_not rfl) ?_)
  refine oN (eT ?_)
  rcases iOs h with ⟨hp7,h⟩ | ⟨hp7,h⟩
  ·refine cx_true (congrArg Value.bool hp7) ?_
   refine cS (cR ?_)
   refine ox_y rfl (yAI rfl) ?_
   refine oN (eT (cx_ret (ex_then_ret ?_)))
   obtain rfl:=Option.some.inj h
   exact ex_res1 (.inl rfl) rfl (rVt (v:=.int .i64 1) rfl) (fun W2 hW2 => ⟨rfl,hW2.none⟩)
  ·refine cx_false (congrArg Value.bool hp7) ?_
   refine cx_skip (eT (cS (cS ?_)))
   obtain ⟨y8,hy9,h⟩:=bOs h
   refine cx_drawsQ 3 6 (fun v L1 => ∃ x : (Option Addr × Nat × Nat),x.2.1 = y8.length ∧ v = .slice x.1 x.2.1 x.2.2 ∧ L1 = [rowR x.1 x.2.2 4 1 x.2.1 (encL cB y8)]) mixed (by kernel_rfl) (by kernel_rfl) (by kernel_rfl) ?_
   refine bx_y rfl (fun _ => y_loadN 0 [.slice A0_0 p0.fNodes.length c0_0,.slice A0_1 p0.fClaims.length c0_1] ag_25 rfl rfl rfl) (bx_y rfl (fun _ => yMS rfl) (bx_y rfl (fun _ => yMS rfl) (bx_q rfl (ox_call [.agg #[.slice A0_0 p0.fNodes.length c0_0,.slice A0_1 p0.fClaims.length c0_1],.slice A1_0 p1.length c1_0,.slice A3_0 p3.length c3_0] _ _ _ rfl go_89 rfl (fun W2 hW2 => ref09_reached_ok p0 p1 p3 y8 hy9 W2 A0_0 p0.fNodes.length c0_0 rfl ((RdL.arg hr0_0) W2 hW2) A0_1 p0.fClaims.length c0_1 ys0_1 rfl ((RdL.arg hr0_1) W2 hW2) (NestL.at (NestL.arg hN0_1) W2 hW2) A1_0 p1.length c1_0 rfl ((RdL.arg hr1_0) W2 hW2) A3_0 p3.length c3_0 rfl ((RdL.arg hr3_0) W2 hW2)) (fun x hx => oN (ex_cap ⟨x,hx,rfl,rfl⟩))) (kx_y rfl (fun _ => y_loadN 0 [.slice A0_0 p0.fNodes.length c0_0,.slice A0_1 p0.fClaims.length c0_1] ag_25 rfl rfl rfl) (kx_y rfl (fun _ => yMI rfl) (kx_nil rfl ?_))))))
   rintro v L1 ⟨⟨A10,n12,c11⟩,hn13,rfl,rfl⟩
   replace hn13 : n12 = y8.length:=hn13; subst hn13
   obtain ⟨y14,hy15,h⟩:=bOs h
   refine ox_y rfl (y_call [.agg #[.slice A0_0 p0.fNodes.length c0_0,.slice A0_1 p0.fClaims.length c0_1],.int .i64 p2] go_67 rfl (fun W2 hW2 => ref09_Node_ok p0 p2 y14 hy15 W2 A0_0 p0.fNodes.length c0_0 rfl ((RdL.arg hr0_0) W2 hW2) A0_1 p0.fClaims.length c0_1 ys0_1 rfl ((RdL.arg hr0_1) W2 hW2) (NestL.at (NestL.arg hN0_1) W2 hW2)) rfl) ?_
   obtain ⟨hg16,h⟩:=gOs h
   refine ox_y rfl (y_indexR sl_98 (by decide) hg16.1 hg16.2 (RdL.row 1 rfl) (encL_len cB_len rfl) rfl rfl) ?_
   refine ox_y rfl (y_loadR1 (A:=A10) (j:=(Int.toNat y14 * 1)) (v:=.bool (rdL y8 y14)) sc_4 (RdL.row 1 rfl) rfl (encL_get0 cB_len hg16.1 (lt_nat hg16.2 rfl) rfl)) (oN (ex_only (eT ?_)))
   rcases iOs h with ⟨hp17,h⟩ | ⟨hp17,h⟩
   ·refine cx_true (congrArg Value.bool hp17) ?_
    refine cS (cR ?_)
    refine ox_y rfl (yAI rfl) ?_
    refine oN (eT (cx_ret (ex_then_ret ?_)))
    obtain rfl:=Option.some.inj h
    exact ex_res1 (.inl rfl) rfl (rVt (v:=.int .i64 8) rfl) (fun W2 hW2 => ⟨rfl,hW2.none⟩)
   ·refine cx_false (congrArg Value.bool hp17) ?_
    refine cx_skip (eT (cS (cR ?_)))
    refine ox_y rfl (yAI rfl) ?_
    refine oN (eT (cx_ret ?_))
    obtain rfl:=Option.some.inj h
    exact ex_res1 (.inl rfl) rfl (rVt (v:=.int .i64 0) rfl) (fun W2 hW2 => ⟨rfl,hW2.none⟩)
theorem recall_CheckClear_ok (p0:TLineage) (p1:(List Int)) (p2:Int) (p3:(List Int)) (res:Int) (h:recall_CheckClear p0 p1 p2 p3 = some res) (W:World) (A0_0:Option Addr) (n0_0 c0_0 : Nat) (hn0_0:n0_0 = p0.fNodes.length) (hr0_0:Rd W A0_0 n0_0 c0_0 (encL TNode_cells p0.fNodes)) (A0_1:Option Addr) (n0_1 c0_1 : Nat) (ys0_1:List (Hd × TClaim)) (hn0_1:n0_1 = p0.fClaims.length) (hr0_1:Rd W A0_1 n0_1 c0_1 (encL TClaim_cells2 ys0_1)) (hN0_1:NestW W (fun z : TClaim => z.fOptions) THop_cells ys0_1 p0.fClaims) (A1_0:Option Addr) (n1_0 c1_0 : Nat) (hn1_0:n1_0 = p1.length) (hr1_0:Rd W A1_0 n1_0 c1_0 (encL cI p1)) (A3_0:Option Addr) (n3_0 c3_0 : Nat) (hn3_0:n3_0 = p3.length) (hr3_0:Rd W A3_0 n3_0 c3_0 (encL cI p3)) :
  Calls Tryz.prog 41 [.agg #[.slice A0_0 n0_0 c0_0,.slice A0_1 n0_1 c0_1],.slice A1_0 n1_0 c1_0,.int .i64 p2,.slice A3_0 n3_0 c3_0].toArray W fun e W2 => e = .returned (.int .i64 res) ∧ Ext W W2 []:=by
 subst hn0_0
 subst hn0_1
 subst hn1_0
 subst hn3_0
 unfold recall_CheckClear at h
 refine calls_enter (m:=28) Tryz.func41 rfl rfl (Nat.le_of_ble_eq_true rfl) ?_
 refine cS (cR ?_)
 refine ox_box [.slice A0_0 p0.fNodes.length c0_0,.slice A0_1 p0.fClaims.length c0_1] rfl rfl rfl (fun b1 => ?_)
 refine ox_y rfl (yAI rfl) ?_
 refine oN (eT (cS (cS (cR ?_))))
 refine ox_y rfl (y_loadN 0 [.slice A0_0 p0.fNodes.length c0_0,.slice A0_1 p0.fClaims.length c0_1] ag_25 rfl rfl rfl) (ox_y rfl (yMS rfl) (ox_y rfl (yMI rfl) ?_))
 obtain ⟨y2,hy3,h⟩:=bOs h
 refine ox_y rfl (y_call [.agg #[.slice A0_0 p0.fNodes.length c0_0,.slice A0_1 p0.fClaims.length c0_1],.slice A1_0 p1.length c1_0,.int .i64 p2] go_74 rfl (fun W2 hW2 => recall_askedTo_ok p0 p1 p2 y2 hy3 W2 A0_0 p0.fNodes.length c0_0 rfl ((RdL.arg hr0_0) W2 hW2) A0_1 p0.fClaims.length c0_1 ys0_1 rfl ((RdL.arg hr0_1) W2 hW2) (NestL.at (NestL.arg hN0_1) W2 hW2) A1_0 p1.length c1_0 rfl ((RdL.arg hr1_0) W2 hW2)) rfl) (ox_y rfl (yAI rfl) ?_)
 refine oN (eT (cS (cR ?_)))
 refine ox_y rfl (yMI rfl) (ox_y rfl (y_neq rfl rfl) ?_)
 refine oN (eT ?_)
 rcases iOs h with ⟨hp4,h⟩ | ⟨hp4,h⟩
 ·refine cx_true (congrArg Value.bool hp4) ?_
  refine cS (cR ?_)
  refine ox_y rfl (yMI rfl) (ox_y rfl (yAI rfl) ?_)
  refine oN (eT (cx_ret (ex_then_ret ?_)))
  obtain rfl:=Option.some.inj h
  exact ex_res1 (.inl rfl) rfl (rVt (v:=.int .i64 y2) rfl) (fun W2 hW2 => ⟨rfl,hW2.none⟩)
 ·refine cx_false (congrArg Value.bool hp4) ?_
  refine cx_skip (eT (cS (cS (cR ?_))))
  refine ox_y rfl (y_loadN 0 [.slice A0_0 p0.fNodes.length c0_0,.slice A0_1 p0.fClaims.length c0_1] ag_25 rfl rfl rfl) (ox_y rfl (yMS rfl) ?_)
  obtain ⟨y5,hy6,h⟩:=bOs h
  refine ox_y rfl (y_call [.agg #[.slice A0_0 p0.fNodes.length c0_0,.slice A0_1 p0.fClaims.length c0_1],.slice A3_0 p3.length c3_0] go_100 rfl (fun W2 hW2 => recall_isCase_ok p0 p3 y5 hy6 W2 A0_0 p0.fNodes.length c0_0 rfl ((RdL.arg hr0_0) W2 hW2) A0_1 p0.fClaims.length c0_1 ys0_1 rfl ((RdL.arg hr0_1) W2 hW2) (NestL.at (NestL.arg hN0_1) W2 hW2) A3_0 p3.length c3_0 rfl ((RdL.arg hr3_0) W2 hW2)) rfl) (ox_y rfl (y_not rfl) ?_)
  refine oN (eT ?_)
  rcases iOs h with ⟨hp7,h⟩ | ⟨hp7,h⟩
  ·refine cx_true (congrArg Value.bool hp7) ?_
   refine cS (cR ?_)
   refine ox_y rfl (yAI rfl) ?_
   refine oN (eT (cx_ret (ex_then_ret ?_)))
   obtain rfl:=Option.some.inj h
   exact ex_res1 (.inl rfl) rfl (rVt (v:=.int .i64 1) rfl) (fun W2 hW2 => ⟨rfl,hW2.none⟩)
  ·refine cx_false (congrArg Value.bool hp7) ?_
   refine cx_skip (eT (cS (cS ?_)))
   obtain ⟨y9,hy10,h⟩:=bOs h
   obtain ⟨y13,hy14,h⟩:=bOs h
   obtain ⟨hg16,h⟩:=gOs h
   refine cx_drawsG [[],[],[],[2],[0,1,2,3],[],[0,1,2,3,4,5]] [(none,0,[true]),(none,0,[true]),(none,0,[true]),(none,0,[true]),(none,1,[true]),(none,0,[true,false]),(none,0,[true,true])] [⟨fun _ => .agg #[.slice A0_0 p0.fNodes.length c0_0,.slice A0_1 p0.fClaims.length c0_1],fun _ => noR,fun _ => []⟩,⟨fun _ => .slice A1_0 p1.length c1_0,fun _ => noR,fun _ => []⟩,⟨fun _ => .slice A3_0 p3.length c3_0,fun _ => noR,fun _ => []⟩,⟨fun _ => .func (.func 132) #[.slice A3_0 p3.length c3_0] #[],fun _ => noR,fun _ => []⟩,⟨fun ξ8 => .map (some (ξ8 4 0).2.1),fun _ => noR,fun ξ8 => [mapV Tryz.prog 3 kI rngB kB false (ξ8 4 0).2.1 y13]⟩,⟨fun _ => .int .i64 p2,fun _ => noR,fun _ => []⟩,⟨fun _ => .bool (mgetV false y13 p2),fun _ => noR,fun _ => []⟩] 1 mixed (by kernel_rfl) (by kernel_rfl) ⟨⟨fun ξ8 ξ8' h => ⟨rfl,rfl,rfl⟩,fun _ => rfl⟩,⟨fun ξ8 ξ8' h => ⟨rfl,rfl,rfl⟩,fun _ => rfl⟩,⟨fun ξ8 ξ8' h => ⟨rfl,rfl,rfl⟩,fun _ => rfl⟩,⟨fun ξ8 ξ8' h => ⟨rfl,rfl,rfl⟩,fun _ => rfl⟩,⟨fun ξ8 ξ8' h => ⟨by simp only [h 4 (.inl rfl)],rfl,by simp only [h 4 (.inl rfl)]⟩,fun _ => rfl⟩,⟨fun ξ8 ξ8' h => ⟨rfl,rfl,rfl⟩,fun _ => rfl⟩,⟨fun ξ8 ξ8' h => ⟨rfl,rfl,rfl⟩,fun _ => rfl⟩,trivial⟩ rfl (fun ξ8 => ?_)
   refine gx_o rfl (fun L2 => ?_) ?_
   ·dsimp only [maskL,lca,lna]
    refine ox_y rfl (y_loadN 0 [.slice A0_0 p0.fNodes.length c0_0,.slice A0_1 p0.fClaims.length c0_1] ag_25 rfl rfl rfl) (oN ?_)
    exact ex_capG (fun _ => (none,0,0,[],noR)) rfl (List.append_nil _)
   dsimp only [aftL,lsz,lss,lna,lca,List.append_nil]
   refine gx_o rfl (fun L2 => ?_) ?_
   ·dsimp only [maskL,lca,lna]
    refine ox_y rfl (yMS rfl) (oN ?_)
    exact ex_capG (fun _ => (none,0,0,[],noR)) rfl (List.append_nil _)
   dsimp only [aftL,lsz,lss,lna,lca,List.append_nil]
   refine gx_o rfl (fun L2 => ?_) ?_
   ·dsimp only [maskL,lca,lna]
    refine ox_y rfl (yMS rfl) (oN ?_)
    exact ex_capG (fun _ => (none,0,0,[],noR)) rfl (List.append_nil _)
   dsimp only [aftL,lsz,lss,lna,lca,List.append_nil]
   refine gx_o rfl (fun L2 => ?_) ?_
   ·dsimp only [maskL,lca,lna]
    refine ox_y rfl (y_call [.slice A3_0 p3.length c3_0] go_88 rfl (fun W2 hW2 => recall_inCase_ok p3 y9 hy10 W2 A3_0 p3.length c3_0 rfl ((RdL.arg hr3_0) W2 hW2)) rfl) (oN ?_)
    exact ex_capG (fun _ => (none,0,0,[],noR)) rfl (List.append_nil _)
   dsimp only [aftL,lsz,lss,lna,lca,List.append_nil]
   refine gx_o rfl (fun L2 => ?_) ?_
   ·dsimp only [maskL,lca,lna]
    refine ox_call1 [.agg #[.slice A0_0 p0.fNodes.length c0_0,.slice A0_1 p0.fClaims.length c0_1],.slice A1_0 p1.length c1_0,.func (.func 132) #[.slice A3_0 p3.length c3_0] #[]] _ _ rfl go_87 rfl (fun W2 hW2 => recall_reach_ok p0 p1 (fun x11 x12 => recall_fixed_has p3 x11 x12) y13 hy14 W2 A0_0 p0.fNodes.length c0_0 rfl ((RdL.arg hr0_0) W2 hW2) A0_1 p0.fClaims.length c0_1 ys0_1 rfl ((RdL.arg hr0_1) W2 hW2) (NestL.at (NestL.arg hN0_1) W2 hW2) A1_0 p1.length c1_0 rfl ((RdL.arg hr1_0) W2 hW2) 132 [.slice A3_0 p3.length c3_0] [] go_132 (fun W3 hb x0 x1 y hxy => recall_fixed_has_ok p3 x0 x1  y hxy W3 A3_0 p3.length c3_0 rfl (((RdL.arg hr3_0) W2 hW2).later hb))) ?_
    rintro b15
    refine oN ?_
    exact ex_capG (fun _ => (none,b15,0,[],noR)) rfl rfl
   dsimp only [aftL,lsz,lss,lna,lca,List.append_nil]
   refine gx_o rfl (fun L2 => ?_) ?_
   ·dsimp only [maskL,lca,lna]
    refine ox_y rfl (yMI rfl) (oN ?_)
    exact ex_capG (fun _ => (none,0,0,[],noR)) rfl (List.append_nil _)
   dsimp only [aftL,lsz,lss,lna,lca,List.append_nil]
   refine gx_o rfl (fun L2 => ?_) ?_
   ·dsimp only [maskL,lca,lna]
    refine ox_y rfl (y_lookupV (k:=p2) (MpL.own 1 rfl) ke_3 um_94 ze_4 rfl rfl hg16) (oN ?_)
    exact ex_capG (fun _ => (none,0,0,[],noR)) rfl (List.append_nil _)
   dsimp only [aftL,lsz,lss,lna,lca,List.append_nil]
   refine gx_nil (eT ?_)
   rcases iOs h with ⟨hp17,h⟩ | ⟨hp17,h⟩
   ·refine cx_true (congrArg Value.bool hp17) ?_
    refine cS (cR ?_)
    refine ox_y rfl (yAI rfl) ?_
    refine oN (eT (cx_ret (ex_then_ret ?_)))
    obtain rfl:=Option.some.inj h
    exact ex_res1 (.inl rfl) rfl (rVt (v:=.int .i64 8) rfl) (fun W2 hW2 => ⟨rfl,hW2.none⟩)
   ·refine cx_false (congrArg Value.bool hp17) ?_
    refine cx_skip (eT (cS (cR ?_)))
    refine ox_y rfl (yAI rfl) ?_
    refine oN (eT (cx_ret ?_))
    obtain rfl:=Option.some.inj h
    exact ex_res1 (.inl rfl) rfl (rVt (v:=.int .i64 0) rfl) (fun W2 hW2 => ⟨rfl,hW2.none⟩)
theorem calxlaw09_RecallClears_ok (p0:TLineage) (p1:(List Int)) (p2:Int) (p3:(List Int)) (res:Bool) (h:calxlaw09_RecallClears p0 p1 p2 p3 = some res) (W:World) (A0_0:Option Addr) (n0_0 c0_0 : Nat) (hn0_0:n0_0 = p0.fNodes.length) (hr0_0:Rd W A0_0 n0_0 c0_0 (encL TNode_cells p0.fNodes)) (A0_1:Option Addr) (n0_1 c0_1 : Nat) (ys0_1:List (Hd × TClaim)) (hn0_1:n0_1 = p0.fClaims.length) (hr0_1:Rd W A0_1 n0_1 c0_1 (encL TClaim_cells2 ys0_1)) (hN0_1:NestW W (fun z : TClaim => z.fOptions) THop_cells ys0_1 p0.fClaims) (A1_0:Option Addr) (n1_0 c1_0 : Nat) (hn1_0:n1_0 = p1.length) (hr1_0:Rd W A1_0 n1_0 c1_0 (encL cI p1)) (A3_0:Option Addr) (n3_0 c3_0 : Nat) (hn3_0:n3_0 = p3.length) (hr3_0:Rd W A3_0 n3_0 c3_0 (encL cI p3)) :
  Calls Tryz.prog 8 [.agg #[.slice A0_0 n0_0 c0_0,.slice A0_1 n0_1 c0_1],.slice A1_0 n1_0 c1_0,.int .i64 p2,.slice A3_0 n3_0 c3_0].toArray W fun e W2 => e = .returned (.bool res) ∧ Ext W W2 []:=by
 subst hn0_0
 subst hn0_1
 subst hn1_0
 subst hn3_0
 unfold calxlaw09_RecallClears at h
 refine calls_enter (m:=85) Tryz.func8 rfl rfl (Nat.le_of_ble_eq_true rfl) ?_
 refine cS (cR ?_)
 refine ox_box [.slice A0_0 p0.fNodes.length c0_0,.slice A0_1 p0.fClaims.length c0_1] rfl rfl rfl (fun b1 => ?_)
 refine ox_y rfl (y_assign_bool rfl) ?_
 refine oN (eT (cS (cR ?_)))
 obtain ⟨y2,hy3,h⟩:=bOs h
 refine ox_y rfl (y_call [] go_13 rfl (fun W2 hW2 => calxlaw09_head_ok  y2 hy3 W2 ) rfl) (ox_y rfl (y_assign_bool rfl) ?_)
 refine oN (eT (cS (cS (cR ?_))))
 refine ox_y rfl (y_loadN 0 [.slice A0_0 p0.fNodes.length c0_0,.slice A0_1 p0.fClaims.length c0_1] ag_25 rfl rfl rfl) ?_
 obtain ⟨y4,hy5,h⟩:=bOs h
 refine ox_y rfl (y_call [.agg #[.slice A0_0 p0.fNodes.length c0_0,.slice A0_1 p0.fClaims.length c0_1]] go_14 rfl (fun W2 hW2 => calxlaw09_few_ok p0 y4 hy5 W2 A0_0 p0.fNodes.length c0_0 rfl ((RdL.arg hr0_0) W2 hW2) A0_1 p0.fClaims.length c0_1 ys0_1 rfl ((RdL.arg hr0_1) W2 hW2) (NestL.at (NestL.arg hN0_1) W2 hW2)) rfl) (ox_y rfl (y_not rfl) (ox_y rfl (y_move_bool rfl) ?_))
 refine ox_join 4 (fun tm0 => (upd (upd (upd (upd (upd (upd (upd tm0 1 (.slice A1_0 p1.length c1_0)) 2 (.int .i64 p2)) 3 (.slice A3_0 p3.length c3_0)) 4 (.pointer (some ⟨b1,0,none⟩))) 8 (.bool false)) 9 (.bool y2)) 21 (.bool ((!y4) || (decide (30 < (p1.length:Int))))))) (fun tm0 => ?_) (fun key => ?_)
 ·refine ox_y rfl (y_move_bool rfl) ?_
  refine ox_join 4 (fun tm0 => (upd (upd (upd (upd (upd (upd (upd tm0 1 (.slice A1_0 p1.length c1_0)) 2 (.int .i64 p2)) 3 (.slice A3_0 p3.length c3_0)) 4 (.pointer (some ⟨b1,0,none⟩))) 8 (.bool false)) 9 (.bool y2)) 26 (.bool (((!y4) || (decide (30 < (p1.length:Int)))) || (decide (100 < (p3.length:Int))))))) (fun tm0 => ?_) (fun key => ?_)
  ·refine oN (eT ?_)
   rcases iOs h with ⟨hp8,h⟩ | ⟨hp8,h⟩
   ·refine cx_true (congrArg Value.bool hp8) ?_
    refine cS (cR ?_)
    refine ox_y rfl (y_move_bool rfl) (ox_y rfl (y_assign_bool rfl) ?_)
    refine oN (eT (cx_ret (ex_then_ret ?_)))
    obtain rfl:=Option.some.inj h
    exact ex_res1 (.inl rfl) rfl (rVt (v:=.bool y2) rfl) (fun W2 hW2 => ⟨rfl,hW2.none⟩)
   ·refine cx_false (congrArg Value.bool hp8) ?_
    refine cx_skip (eT (cS (cR ?_)))
    refine ox_y rfl (y_loadN 0 [.slice A0_0 p0.fNodes.length c0_0,.slice A0_1 p0.fClaims.length c0_1] ag_25 rfl rfl rfl) (ox_y rfl (yMS rfl) (ox_y rfl (yMI rfl) ?_))
    obtain ⟨y9,hy10,h⟩:=bOs h
    refine ox_call [.agg #[.slice A0_0 p0.fNodes.length c0_0,.slice A0_1 p0.fClaims.length c0_1],.slice A1_0 p1.length c1_0,.int .i64 p2] _ _ _ rfl go_37 rfl (fun W2 hW2 => recall_Clear_ok p0 p1 p2 y9 hy10 W2 A0_0 p0.fNodes.length c0_0 rfl ((RdL.arg hr0_0) W2 hW2) A0_1 p0.fClaims.length c0_1 ys0_1 rfl ((RdL.arg hr0_1) W2 hW2) (NestL.at (NestL.arg hN0_1) W2 hW2) A1_0 p1.length c1_0 rfl ((RdL.arg hr1_0) W2 hW2)) ?_
    rintro ⟨A11,n13,c12⟩ hn14
    replace hn14 : n13 = y9.1.length:=hn14; subst hn14
    refine ox_y rfl (y_move_tuple rfl) (ox_y rfl (y_extract (vs:=[.slice A11 y9.1.length c12,.int .i64 y9.2]) (v:=.slice A11 y9.1.length c12) rfl rfl) (ox_y rfl (y_extract (vs:=[.slice A11 y9.1.length c12,.int .i64 y9.2]) (v:=.int .i64 y9.2) rfl rfl) (ox_y rfl (yAS rfl) (ox_y rfl (yAI rfl) ?_))))
    refine oN (eT (cS (cR ?_)))
    refine ox_y rfl (y_loadN 0 [.slice A0_0 p0.fNodes.length c0_0,.slice A0_1 p0.fClaims.length c0_1] ag_25 rfl rfl rfl) (ox_y rfl (yMS rfl) (ox_y rfl (yMI rfl) ?_))
    obtain ⟨y15,hy16,h⟩:=bOs h
    refine ox_y rfl (y_call [.agg #[.slice A0_0 p0.fNodes.length c0_0,.slice A0_1 p0.fClaims.length c0_1],.slice A1_0 p1.length c1_0,.int .i64 p2] go_38 rfl (fun W2 hW2 => ref09_To_ok p0 p1 p2 y15 hy16 W2 A0_0 p0.fNodes.length c0_0 rfl ((RdL.arg hr0_0) W2 hW2) A0_1 p0.fClaims.length c0_1 ys0_1 rfl ((RdL.arg hr0_1) W2 hW2) (NestL.at (NestL.arg hN0_1) W2 hW2) A1_0 p1.length c1_0 rfl ((RdL.arg hr1_0) W2 hW2)) rfl) (ox_y rfl (yAI rfl) ?_)
    refine oN (eT (cS (cS (cR ?_))))
    refine ox_y rfl (yMI rfl) (ox_y rfl (y_eql rfl rfl) (ox_y rfl (y_move_bool rfl) ?_))
    obtain ⟨b18,hb19,h⟩:=bOs h
    refine ox_join 5 (fun tm0 => (upd (upd (upd (upd (upd (upd (upd (upd (upd (upd tm0 1 (.slice A1_0 p1.length c1_0)) 2 (.int .i64 p2)) 3 (.slice A3_0 p3.length c3_0)) 4 (.pointer (some ⟨b1,0,none⟩))) 8 (.bool false)) 9 (.bool y2)) 10 (.slice A11 y9.1.length c12)) 11 (.int .i64 y9.2)) 12 (.int .i64 y15)) 46 (.bool b18))) (fun tm0 => ?_) (fun key => ?_)
    ·refine oN (eT ?_)
     rcases iOs h with ⟨hp20,h⟩ | ⟨hp20,h⟩
     ·refine cx_true (congrArg Value.bool hp20) (cR (ox_y rfl (yAI rfl) ?_))
      refine oN (eT (cS (cS (cR ?_))))
      refine ox_y rfl (yMI rfl) (ox_y rfl (yMI rfl) (ox_y rfl (y_neq rfl rfl) (ox_y rfl (y_move_bool rfl) ?_)))
      obtain ⟨b22,hb23,h⟩:=bOs h
      refine ox_join 11 (fun tm0 => (upd (upd (upd (upd (upd (upd (upd (upd (upd tm0 1 (.slice A1_0 p1.length c1_0)) 2 (.int .i64 p2)) 3 (.slice A3_0 p3.length c3_0)) 4 (.pointer (some ⟨b1,0,none⟩))) 8 (.bool false)) 9 (.bool y2)) 10 (.slice A11 y9.1.length c12)) 11 (.int .i64 y9.2)) 61 (.bool b22))) (fun tm0 => ?_) (fun key => ?_)
      ·refine ox_y rfl (y_move_bool rfl) ?_
       refine ox_join 8 (fun tm0 => (upd (upd (upd (upd (upd (upd (upd tm0 1 (.slice A1_0 p1.length c1_0)) 2 (.int .i64 p2)) 3 (.slice A3_0 p3.length c3_0)) 4 (.pointer (some ⟨b1,0,none⟩))) 8 (.bool false)) 9 (.bool y2)) 70 (.bool (b22 || ((y9.2 != 0) && (decide (0 < (y9.1.length:Int)))))))) (fun tm0 => ?_) (fun key => ?_)
       ·refine oN (eT ?_)
        rcases iOs h with ⟨hp25,h⟩ | ⟨hp25,h⟩
        ·refine cx_true (congrArg Value.bool hp25) ?_
         refine cS (cR ?_)
         refine ox_y rfl (y_assign_bool rfl) ?_
         refine oN (eT (cx_ret (ex_then_ret ?_)))
         obtain rfl:=Option.some.inj h
         exact ex_res1 (.inl rfl) rfl (rVt (v:=.bool false) rfl) (fun W2 hW2 => ⟨rfl,hW2.none⟩)
        ·refine cx_false (congrArg Value.bool hp25) ?_
         refine cx_skip (eT (cS ?_))
         refine cx_draws 15 mixed (by kernel_rfl) (by kernel_rfl) ?_
         refine qx_y rfl (y_move_bool rfl) (qx_y rfl (y_move_bool rfl) ?_)
         obtain ⟨b27,hb28,h⟩:=bOs h
         refine qx_join 12 (fun tm0 => (upd (upd tm0 8 (.bool false)) 84 (.bool b27))) (fun tm0 => ?_) (fun key => ?_)
         ·refine qx_y rfl (y_assign_bool rfl) (qx_nil ?_)
          refine oN (eT (cx_ret ?_))
          obtain rfl:=Option.some.inj h
          exact ex_res1 (.inl rfl) rfl (rVt (v:=.bool b27) rfl) (fun W2 hW2 => ⟨rfl,hW2.none⟩)
         ·clear h; rcases iOs hb28 with ⟨hp26,h⟩ | ⟨hp26,h⟩
          ·refine qx_y (sT rfl rfl rfl rfl hp26) (y_loadN 0 [.slice A0_0 p0.fNodes.length c0_0,.slice A0_1 p0.fClaims.length c0_1] ag_25 rfl rfl rfl) (qx_y (sT rfl rfl rfl rfl hp26) (yMS rfl) (qx_y (sT rfl rfl rfl rfl hp26) (yMI rfl) (qx_y (sT rfl rfl rfl rfl hp26) (yMS rfl) ?_)))
           obtain ⟨y29,hy30,h⟩:=bOs h
           refine qx_y (sT rfl rfl rfl rfl hp26) (y_call [.agg #[.slice A0_0 p0.fNodes.length c0_0,.slice A0_1 p0.fClaims.length c0_1],.slice A1_0 p1.length c1_0,.int .i64 p2,.slice A3_0 p3.length c3_0] go_41 rfl (fun W2 hW2 => recall_CheckClear_ok p0 p1 p2 p3 y29 hy30 W2 A0_0 p0.fNodes.length c0_0 rfl ((RdL.arg hr0_0) W2 hW2) A0_1 p0.fClaims.length c0_1 ys0_1 rfl ((RdL.arg hr0_1) W2 hW2) (NestL.at (NestL.arg hN0_1) W2 hW2) A1_0 p1.length c1_0 rfl ((RdL.arg hr1_0) W2 hW2) A3_0 p3.length c3_0 rfl ((RdL.arg hr3_0) W2 hW2)) rfl) (qx_y (sT rfl rfl rfl rfl hp26) (y_loadN 0 [.slice A0_0 p0.fNodes.length c0_0,.slice A0_1 p0.fClaims.length c0_1] ag_25 rfl rfl rfl) (qx_y (sT rfl rfl rfl rfl hp26) (yMS rfl) (qx_y (sT rfl rfl rfl rfl hp26) (yMI rfl) (qx_y (sT rfl rfl rfl rfl hp26) (yMS rfl) ?_))))
           obtain ⟨y31,hy32,h⟩:=bOs h
           refine qx_y (sT rfl rfl rfl rfl hp26) (y_call [.agg #[.slice A0_0 p0.fNodes.length c0_0,.slice A0_1 p0.fClaims.length c0_1],.slice A1_0 p1.length c1_0,.int .i64 p2,.slice A3_0 p3.length c3_0] go_40 rfl (fun W2 hW2 => ref09_CheckClear_ok p0 p1 p2 p3 y31 hy32 W2 A0_0 p0.fNodes.length c0_0 rfl ((RdL.arg hr0_0) W2 hW2) A0_1 p0.fClaims.length c0_1 ys0_1 rfl ((RdL.arg hr0_1) W2 hW2) (NestL.at (NestL.arg hN0_1) W2 hW2) A1_0 p1.length c1_0 rfl ((RdL.arg hr1_0) W2 hW2) A3_0 p3.length c3_0 rfl ((RdL.arg hr3_0) W2 hW2)) rfl) (qx_y (sT rfl rfl rfl rfl hp26) (y_eql rfl rfl) (qx_y rfl (y_pick_tb (congrArg Value.bool hp26) rfl) ?_))
           obtain rfl:=Option.some.inj h
           exact key _ _ (kp (kp rfl))
          ·refine qx_skip (sF rfl rfl rfl rfl hp26) (qx_skip (sF rfl rfl rfl rfl hp26) (qx_skip (sF rfl rfl rfl rfl hp26) (qx_skip (sF rfl rfl rfl rfl hp26) (qx_skip (sF rfl rfl rfl rfl hp26) (qx_skip (sF rfl rfl rfl rfl hp26) (qx_skip (sF rfl rfl rfl rfl hp26) (qx_skip (sF rfl rfl rfl rfl hp26) (qx_skip (sF rfl rfl rfl rfl hp26) (qx_skip (sF rfl rfl rfl rfl hp26) (qx_skip (sF rfl rfl rfl rfl hp26) (qx_y rfl (y_pick_fb (congrArg Value.bool hp26) rfl) ?_)))))))))))
           obtain rfl:=Option.some.inj h
           exact key _ _ (kp (kp rfl))
       ·rcases bool_cases b22 with hp24 | hp24
        ·refine oSk (sF rfl rfl rfl rfl hp24) (oSk (sF rfl rfl rfl rfl hp24) (oSk (sF rfl rfl rfl rfl hp24) (oSk rfl (oSk rfl (oSk rfl (oSk (sF rfl rfl rfl rfl hp24) (ox_y rfl (y_pick_tb (congrArg Value.bool hp24) rfl) ?_)))))))
         exact key _ _ (keep (keep (keep (keep (keep (keep (keep rfl rfl) rfl) rfl) rfl) rfl) rfl) (congrArg Value.bool (or_t hp24)))
        ·refine ox_y (sT rfl rfl rfl rfl hp24) (yMI rfl) (ox_y (sT rfl rfl rfl rfl hp24) (y_neq rfl rfl) (ox_y (sT rfl rfl rfl rfl hp24) (y_move_bool rfl) ?_))
         refine ox_join 4 (fun tm0 => (upd (upd (upd (upd (upd (upd (upd (upd tm0 1 (.slice A1_0 p1.length c1_0)) 2 (.int .i64 p2)) 3 (.slice A3_0 p3.length c3_0)) 4 (.pointer (some ⟨b1,0,none⟩))) 8 (.bool false)) 9 (.bool y2)) 62 (.bool b22)) 69 (.bool ((y9.2 != 0) && (decide (0 < (y9.1.length:Int))))))) (fun tm0 => ?_) (fun key => ?_)
         ·refine ox_y rfl (y_pick_fb (congrArg Value.bool hp24) rfl) ?_
          exact key _ _ (keep (keep (keep (keep (keep (keep (keep rfl rfl) rfl) rfl) rfl) rfl) rfl) (congrArg Value.bool (or_f hp24)))
         ·rcases bool_cases (y9.2 != 0) with hp33 | hp33
          ·refine ox_y (sT rfl rfl rfl rfl hp33) (yMS rfl) (ox_y (sT rfl rfl rfl rfl hp33) (y_len (us:=[]) us_26 rfl) (ox_y (sT rfl rfl rfl rfl hp33) (y_gtr rfl rfl) (ox_y (sT rfl rfl rfl rfl hp24) (y_pick_tb (congrArg Value.bool hp33) rfl) ?_)))
           exact key _ _ (keep (keep (keep (keep (keep (keep (keep (keep rfl rfl) rfl) rfl) rfl) rfl) rfl) rfl) (congrArg Value.bool (and_t hp33)))
          ·refine oSk (sF rfl rfl rfl rfl hp33) (oSk (sF rfl rfl rfl rfl hp33) (oSk (sF rfl rfl rfl rfl hp33) (ox_y (sT rfl rfl rfl rfl hp24) (y_pick_fb (congrArg Value.bool hp33) rfl) ?_)))
           exact key _ _ (keep (keep (keep (keep (keep (keep (keep (keep rfl rfl) rfl) rfl) rfl) rfl) rfl) rfl) (congrArg Value.bool (and_f hp33)))
      ·clear h; rcases iOs hb23 with ⟨hp21,h⟩ | ⟨hp21,h⟩
       ·refine oSk (sF rfl rfl rfl rfl hp21) (oSk (sF rfl rfl rfl rfl hp21) (oSk (sF rfl rfl rfl rfl hp21) (oSk rfl (oSk rfl (oSk rfl (oSk rfl (oSk rfl (oSk rfl (oSk (sF rfl rfl rfl rfl hp21) (ox_y rfl (y_pick_tb (congrArg Value.bool hp21) rfl) ?_))))))))))
        obtain rfl:=Option.some.inj h
        exact key _ _ (kp4 (kp4 (kp rfl)))
       ·refine ox_y (sT rfl rfl rfl rfl hp21) (yMI rfl) (ox_y (sT rfl rfl rfl rfl hp21) (y_eql rfl rfl) (ox_y (sT rfl rfl rfl rfl hp21) (y_move_bool rfl) ?_))
        obtain ⟨b35,hb36,h⟩:=bOs h
        refine ox_join 7 (fun tm0 => (upd (upd (upd (upd (upd (upd (upd (upd (upd (upd tm0 1 (.slice A1_0 p1.length c1_0)) 2 (.int .i64 p2)) 3 (.slice A3_0 p3.length c3_0)) 4 (.pointer (some ⟨b1,0,none⟩))) 8 (.bool false)) 9 (.bool y2)) 10 (.slice A11 y9.1.length c12)) 11 (.int .i64 y9.2)) 50 (.bool (y9.2 != 5))) 60 (.bool b35))) (fun tm0 => ?_) (fun key => ?_)
        ·refine ox_y rfl (y_pick_fb (congrArg Value.bool hp21) rfl) ?_
         obtain rfl:=Option.some.inj h
         exact key _ _ (kp4 (kp4 (kp rfl)))
        ·clear h; rcases iOs hb36 with ⟨hp34,h⟩ | ⟨hp34,h⟩
         ·refine ox_y (sT rfl rfl rfl rfl hp34) (y_loadN 0 [.slice A0_0 p0.fNodes.length c0_0,.slice A0_1 p0.fClaims.length c0_1] ag_25 rfl rfl rfl) (ox_y (sT rfl rfl rfl rfl hp34) (yMS rfl) (ox_y (sT rfl rfl rfl rfl hp34) (yMI rfl) (ox_y (sT rfl rfl rfl rfl hp34) (yMS rfl) ?_)))
          obtain ⟨y37,hy38,h⟩:=bOs h
          refine ox_y (sT rfl rfl rfl rfl hp34) (y_call [.agg #[.slice A0_0 p0.fNodes.length c0_0,.slice A0_1 p0.fClaims.length c0_1],.slice A1_0 p1.length c1_0,.int .i64 p2,.slice A11 y9.1.length c12] go_40 rfl (fun W2 hW2 => ref09_CheckClear_ok p0 p1 p2 y9.1 y37 hy38 W2 A0_0 p0.fNodes.length c0_0 rfl ((RdL.arg hr0_0) W2 hW2) A0_1 p0.fClaims.length c0_1 ys0_1 rfl ((RdL.arg hr0_1) W2 hW2) (NestL.at (NestL.arg hN0_1) W2 hW2) A1_0 p1.length c1_0 rfl ((RdL.arg hr1_0) W2 hW2) A11 y9.1.length c12 rfl ((RdL.row 1 rfl) W2 hW2)) rfl) (ox_y (sT rfl rfl rfl rfl hp34) (y_neq rfl rfl) (ox_y (sT rfl rfl rfl rfl hp21) (y_pick_tb (congrArg Value.bool hp34) rfl) ?_))
          obtain rfl:=Option.some.inj h
          exact key _ _ (kp4 (kp4 (kp (kp rfl))))
         ·refine oSk (sF rfl rfl rfl rfl hp34) (oSk (sF rfl rfl rfl rfl hp34) (oSk (sF rfl rfl rfl rfl hp34) (oSk (sF rfl rfl rfl rfl hp34) (oSk (sF rfl rfl rfl rfl hp34) (oSk (sF rfl rfl rfl rfl hp34) (ox_y (sT rfl rfl rfl rfl hp21) (y_pick_fb (congrArg Value.bool hp34) rfl) ?_))))))
          obtain rfl:=Option.some.inj h
          exact key _ _ (kp4 (kp4 (kp (kp rfl))))
     ·refine cx_false (congrArg Value.bool hp20) ?_
      refine cx_skip (eT (cS (cS (cR ?_))))
      refine ox_y rfl (yMI rfl) (ox_y rfl (yMI rfl) (ox_y rfl (y_neq rfl rfl) (ox_y rfl (y_move_bool rfl) ?_)))
      obtain ⟨b40,hb41,h⟩:=bOs h
      refine ox_join 11 (fun tm0 => (upd (upd (upd (upd (upd (upd (upd (upd (upd tm0 1 (.slice A1_0 p1.length c1_0)) 2 (.int .i64 p2)) 3 (.slice A3_0 p3.length c3_0)) 4 (.pointer (some ⟨b1,0,none⟩))) 8 (.bool false)) 9 (.bool y2)) 10 (.slice A11 y9.1.length c12)) 11 (.int .i64 y9.2)) 61 (.bool b40))) (fun tm0 => ?_) (fun key => ?_)
      ·refine ox_y rfl (y_move_bool rfl) ?_
       refine ox_join 8 (fun tm0 => (upd (upd (upd (upd (upd (upd (upd tm0 1 (.slice A1_0 p1.length c1_0)) 2 (.int .i64 p2)) 3 (.slice A3_0 p3.length c3_0)) 4 (.pointer (some ⟨b1,0,none⟩))) 8 (.bool false)) 9 (.bool y2)) 70 (.bool (b40 || ((y9.2 != 0) && (decide (0 < (y9.1.length:Int)))))))) (fun tm0 => ?_) (fun key => ?_)
       ·refine oN (eT ?_)
        rcases iOs h with ⟨hp43,h⟩ | ⟨hp43,h⟩
        ·refine cx_true (congrArg Value.bool hp43) ?_
         refine cS (cR ?_)
         refine ox_y rfl (y_assign_bool rfl) ?_
         refine oN (eT (cx_ret (ex_then_ret ?_)))
         obtain rfl:=Option.some.inj h
         exact ex_res1 (.inl rfl) rfl (rVt (v:=.bool false) rfl) (fun W2 hW2 => ⟨rfl,hW2.none⟩)
        ·refine cx_false (congrArg Value.bool hp43) ?_
         refine cx_skip (eT (cS ?_))
         refine cx_draws 15 mixed (by kernel_rfl) (by kernel_rfl) ?_
         refine qx_y rfl (y_move_bool rfl) (qx_y rfl (y_move_bool rfl) ?_)
         obtain ⟨b45,hb46,h⟩:=bOs h
         refine qx_join 12 (fun tm0 => (upd (upd tm0 8 (.bool false)) 84 (.bool b45))) (fun tm0 => ?_) (fun key => ?_)
         ·refine qx_y rfl (y_assign_bool rfl) (qx_nil ?_)
          refine oN (eT (cx_ret ?_))
          obtain rfl:=Option.some.inj h
          exact ex_res1 (.inl rfl) rfl (rVt (v:=.bool b45) rfl) (fun W2 hW2 => ⟨rfl,hW2.none⟩)
         ·clear h; rcases iOs hb46 with ⟨hp44,h⟩ | ⟨hp44,h⟩
          ·refine qx_y (sT rfl rfl rfl rfl hp44) (y_loadN 0 [.slice A0_0 p0.fNodes.length c0_0,.slice A0_1 p0.fClaims.length c0_1] ag_25 rfl rfl rfl) (qx_y (sT rfl rfl rfl rfl hp44) (yMS rfl) (qx_y (sT rfl rfl rfl rfl hp44) (yMI rfl) (qx_y (sT rfl rfl rfl rfl hp44) (yMS rfl) ?_)))
           obtain ⟨y47,hy48,h⟩:=bOs h
           refine qx_y (sT rfl rfl rfl rfl hp44) (y_call [.agg #[.slice A0_0 p0.fNodes.length c0_0,.slice A0_1 p0.fClaims.length c0_1],.slice A1_0 p1.length c1_0,.int .i64 p2,.slice A3_0 p3.length c3_0] go_41 rfl (fun W2 hW2 => recall_CheckClear_ok p0 p1 p2 p3 y47 hy48 W2 A0_0 p0.fNodes.length c0_0 rfl ((RdL.arg hr0_0) W2 hW2) A0_1 p0.fClaims.length c0_1 ys0_1 rfl ((RdL.arg hr0_1) W2 hW2) (NestL.at (NestL.arg hN0_1) W2 hW2) A1_0 p1.length c1_0 rfl ((RdL.arg hr1_0) W2 hW2) A3_0 p3.length c3_0 rfl ((RdL.arg hr3_0) W2 hW2)) rfl) (qx_y (sT rfl rfl rfl rfl hp44) (y_loadN 0 [.slice A0_0 p0.fNodes.length c0_0,.slice A0_1 p0.fClaims.length c0_1] ag_25 rfl rfl rfl) (qx_y (sT rfl rfl rfl rfl hp44) (yMS rfl) (qx_y (sT rfl rfl rfl rfl hp44) (yMI rfl) (qx_y (sT rfl rfl rfl rfl hp44) (yMS rfl) ?_))))
           obtain ⟨y49,hy50,h⟩:=bOs h
           refine qx_y (sT rfl rfl rfl rfl hp44) (y_call [.agg #[.slice A0_0 p0.fNodes.length c0_0,.slice A0_1 p0.fClaims.length c0_1],.slice A1_0 p1.length c1_0,.int .i64 p2,.slice A3_0 p3.length c3_0] go_40 rfl (fun W2 hW2 => ref09_CheckClear_ok p0 p1 p2 p3 y49 hy50 W2 A0_0 p0.fNodes.length c0_0 rfl ((RdL.arg hr0_0) W2 hW2) A0_1 p0.fClaims.length c0_1 ys0_1 rfl ((RdL.arg hr0_1) W2 hW2) (NestL.at (NestL.arg hN0_1) W2 hW2) A1_0 p1.length c1_0 rfl ((RdL.arg hr1_0) W2 hW2) A3_0 p3.length c3_0 rfl ((RdL.arg hr3_0) W2 hW2)) rfl) (qx_y (sT rfl rfl rfl rfl hp44) (y_eql rfl rfl) (qx_y rfl (y_pick_tb (congrArg Value.bool hp44) rfl) ?_))
           obtain rfl:=Option.some.inj h
           exact key _ _ (kp (kp rfl))
          ·refine qx_skip (sF rfl rfl rfl rfl hp44) (qx_skip (sF rfl rfl rfl rfl hp44) (qx_skip (sF rfl rfl rfl rfl hp44) (qx_skip (sF rfl rfl rfl rfl hp44) (qx_skip (sF rfl rfl rfl rfl hp44) (qx_skip (sF rfl rfl rfl rfl hp44) (qx_skip (sF rfl rfl rfl rfl hp44) (qx_skip (sF rfl rfl rfl rfl hp44) (qx_skip (sF rfl rfl rfl rfl hp44) (qx_skip (sF rfl rfl rfl rfl hp44) (qx_skip (sF rfl rfl rfl rfl hp44) (qx_y rfl (y_pick_fb (congrArg Value.bool hp44) rfl) ?_)))))))))))
           obtain rfl:=Option.some.inj h
           exact key _ _ (kp (kp rfl))
       ·rcases bool_cases b40 with hp42 | hp42
        ·refine oSk (sF rfl rfl rfl rfl hp42) (oSk (sF rfl rfl rfl rfl hp42) (oSk (sF rfl rfl rfl rfl hp42) (oSk rfl (oSk rfl (oSk rfl (oSk (sF rfl rfl rfl rfl hp42) (ox_y rfl (y_pick_tb (congrArg Value.bool hp42) rfl) ?_)))))))
         exact key _ _ (keep (keep (keep (keep (keep (keep (keep rfl rfl) rfl) rfl) rfl) rfl) rfl) (congrArg Value.bool (or_t hp42)))
        ·refine ox_y (sT rfl rfl rfl rfl hp42) (yMI rfl) (ox_y (sT rfl rfl rfl rfl hp42) (y_neq rfl rfl) (ox_y (sT rfl rfl rfl rfl hp42) (y_move_bool rfl) ?_))
         refine ox_join 4 (fun tm0 => (upd (upd (upd (upd (upd (upd (upd (upd tm0 1 (.slice A1_0 p1.length c1_0)) 2 (.int .i64 p2)) 3 (.slice A3_0 p3.length c3_0)) 4 (.pointer (some ⟨b1,0,none⟩))) 8 (.bool false)) 9 (.bool y2)) 62 (.bool b40)) 69 (.bool ((y9.2 != 0) && (decide (0 < (y9.1.length:Int))))))) (fun tm0 => ?_) (fun key => ?_)
         ·refine ox_y rfl (y_pick_fb (congrArg Value.bool hp42) rfl) ?_
          exact key _ _ (keep (keep (keep (keep (keep (keep (keep rfl rfl) rfl) rfl) rfl) rfl) rfl) (congrArg Value.bool (or_f hp42)))
         ·rcases bool_cases (y9.2 != 0) with hp51 | hp51
          ·refine ox_y (sT rfl rfl rfl rfl hp51) (yMS rfl) (ox_y (sT rfl rfl rfl rfl hp51) (y_len (us:=[]) us_26 rfl) (ox_y (sT rfl rfl rfl rfl hp51) (y_gtr rfl rfl) (ox_y (sT rfl rfl rfl rfl hp42) (y_pick_tb (congrArg Value.bool hp51) rfl) ?_)))
           exact key _ _ (keep (keep (keep (keep (keep (keep (keep (keep rfl rfl) rfl) rfl) rfl) rfl) rfl) rfl) (congrArg Value.bool (and_t hp51)))
          ·refine oSk (sF rfl rfl rfl rfl hp51) (oSk (sF rfl rfl rfl rfl hp51) (oSk (sF rfl rfl rfl rfl hp51) (ox_y (sT rfl rfl rfl rfl hp42) (y_pick_fb (congrArg Value.bool hp51) rfl) ?_)))
           exact key _ _ (keep (keep (keep (keep (keep (keep (keep (keep rfl rfl) rfl) rfl) rfl) rfl) rfl) rfl) (congrArg Value.bool (and_f hp51)))
      ·clear h; rcases iOs hb41 with ⟨hp39,h⟩ | ⟨hp39,h⟩
       ·refine oSk (sF rfl rfl rfl rfl hp39) (oSk (sF rfl rfl rfl rfl hp39) (oSk (sF rfl rfl rfl rfl hp39) (oSk rfl (oSk rfl (oSk rfl (oSk rfl (oSk rfl (oSk rfl (oSk (sF rfl rfl rfl rfl hp39) (ox_y rfl (y_pick_tb (congrArg Value.bool hp39) rfl) ?_))))))))))
        obtain rfl:=Option.some.inj h
        exact key _ _ (kp4 (kp4 (kp rfl)))
       ·refine ox_y (sT rfl rfl rfl rfl hp39) (yMI rfl) (ox_y (sT rfl rfl rfl rfl hp39) (y_eql rfl rfl) (ox_y (sT rfl rfl rfl rfl hp39) (y_move_bool rfl) ?_))
        obtain ⟨b53,hb54,h⟩:=bOs h
        refine ox_join 7 (fun tm0 => (upd (upd (upd (upd (upd (upd (upd (upd (upd (upd tm0 1 (.slice A1_0 p1.length c1_0)) 2 (.int .i64 p2)) 3 (.slice A3_0 p3.length c3_0)) 4 (.pointer (some ⟨b1,0,none⟩))) 8 (.bool false)) 9 (.bool y2)) 10 (.slice A11 y9.1.length c12)) 11 (.int .i64 y9.2)) 50 (.bool (y9.2 != y15))) 60 (.bool b53))) (fun tm0 => ?_) (fun key => ?_)
        ·refine ox_y rfl (y_pick_fb (congrArg Value.bool hp39) rfl) ?_
         obtain rfl:=Option.some.inj h
         exact key _ _ (kp4 (kp4 (kp rfl)))
        ·clear h; rcases iOs hb54 with ⟨hp52,h⟩ | ⟨hp52,h⟩
         ·refine ox_y (sT rfl rfl rfl rfl hp52) (y_loadN 0 [.slice A0_0 p0.fNodes.length c0_0,.slice A0_1 p0.fClaims.length c0_1] ag_25 rfl rfl rfl) (ox_y (sT rfl rfl rfl rfl hp52) (yMS rfl) (ox_y (sT rfl rfl rfl rfl hp52) (yMI rfl) (ox_y (sT rfl rfl rfl rfl hp52) (yMS rfl) ?_)))
          obtain ⟨y55,hy56,h⟩:=bOs h
          refine ox_y (sT rfl rfl rfl rfl hp52) (y_call [.agg #[.slice A0_0 p0.fNodes.length c0_0,.slice A0_1 p0.fClaims.length c0_1],.slice A1_0 p1.length c1_0,.int .i64 p2,.slice A11 y9.1.length c12] go_40 rfl (fun W2 hW2 => ref09_CheckClear_ok p0 p1 p2 y9.1 y55 hy56 W2 A0_0 p0.fNodes.length c0_0 rfl ((RdL.arg hr0_0) W2 hW2) A0_1 p0.fClaims.length c0_1 ys0_1 rfl ((RdL.arg hr0_1) W2 hW2) (NestL.at (NestL.arg hN0_1) W2 hW2) A1_0 p1.length c1_0 rfl ((RdL.arg hr1_0) W2 hW2) A11 y9.1.length c12 rfl ((RdL.row 1 rfl) W2 hW2)) rfl) (ox_y (sT rfl rfl rfl rfl hp52) (y_neq rfl rfl) (ox_y (sT rfl rfl rfl rfl hp39) (y_pick_tb (congrArg Value.bool hp52) rfl) ?_))
          obtain rfl:=Option.some.inj h
          exact key _ _ (kp4 (kp4 (kp (kp rfl))))
         ·refine oSk (sF rfl rfl rfl rfl hp52) (oSk (sF rfl rfl rfl rfl hp52) (oSk (sF rfl rfl rfl rfl hp52) (oSk (sF rfl rfl rfl rfl hp52) (oSk (sF rfl rfl rfl rfl hp52) (oSk (sF rfl rfl rfl rfl hp52) (ox_y (sT rfl rfl rfl rfl hp39) (y_pick_fb (congrArg Value.bool hp52) rfl) ?_))))))
          obtain rfl:=Option.some.inj h
          exact key _ _ (kp4 (kp4 (kp (kp rfl))))
    ·clear h; rcases iOs hb19 with ⟨hp17,h⟩ | ⟨hp17,h⟩
     ·refine ox_y (sT rfl rfl rfl rfl hp17) (y_loadN 0 [.slice A0_0 p0.fNodes.length c0_0,.slice A0_1 p0.fClaims.length c0_1] ag_25 rfl rfl rfl) (ox_y (sT rfl rfl rfl rfl hp17) (yMS rfl) (ox_y (sT rfl rfl rfl rfl hp17) (yMI rfl) ?_))
      obtain ⟨y57,hy58,h⟩:=bOs h
      refine ox_y (sT rfl rfl rfl rfl hp17) (y_call [.agg #[.slice A0_0 p0.fNodes.length c0_0,.slice A0_1 p0.fClaims.length c0_1],.slice A1_0 p1.length c1_0,.int .i64 p2] go_39 rfl (fun W2 hW2 => ref09_Sure_ok p0 p1 p2 y57 hy58 W2 A0_0 p0.fNodes.length c0_0 rfl ((RdL.arg hr0_0) W2 hW2) A0_1 p0.fClaims.length c0_1 ys0_1 rfl ((RdL.arg hr0_1) W2 hW2) (NestL.at (NestL.arg hN0_1) W2 hW2) A1_0 p1.length c1_0 rfl ((RdL.arg hr1_0) W2 hW2)) rfl) (ox_y rfl (y_pick_tb (congrArg Value.bool hp17) rfl) ?_)
      obtain rfl:=Option.some.inj h
      exact key _ _ (kp4 (kp4 (kp (kp rfl))))
     ·refine oSk (sF rfl rfl rfl rfl hp17) (oSk (sF rfl rfl rfl rfl hp17) (oSk (sF rfl rfl rfl rfl hp17) (oSk (sF rfl rfl rfl rfl hp17) (ox_y rfl (y_pick_fb (congrArg Value.bool hp17) rfl) ?_))))
      obtain rfl:=Option.some.inj h
      exact key _ _ (kp4 (kp4 (kp (kp rfl))))
  ·rcases bool_cases ((!y4) || (decide (30 < (p1.length:Int)))) with hp7 | hp7
   ·refine oSk (sF rfl rfl rfl rfl hp7) (oSk (sF rfl rfl rfl rfl hp7) (oSk (sF rfl rfl rfl rfl hp7) (ox_y rfl (y_pick_tb (congrArg Value.bool hp7) rfl) ?_)))
    exact key _ _ (keep (keep (keep (keep (keep (keep (keep rfl rfl) rfl) rfl) rfl) rfl) rfl) (congrArg Value.bool (or_t hp7)))
   ·refine ox_y (sT rfl rfl rfl rfl hp7) (yMS rfl) (ox_y (sT rfl rfl rfl rfl hp7) (y_len (us:=[]) us_26 rfl) (ox_y (sT rfl rfl rfl rfl hp7) (y_gtr rfl rfl) (ox_y rfl (y_pick_fb (congrArg Value.bool hp7) rfl) ?_)))
    exact key _ _ (keep (keep (keep (keep (keep (keep (keep rfl rfl) rfl) rfl) rfl) rfl) rfl) (congrArg Value.bool (or_f hp7)))
 ·rcases bool_cases (!y4) with hp6 | hp6
  ·refine oSk (sF rfl rfl rfl rfl hp6) (oSk (sF rfl rfl rfl rfl hp6) (oSk (sF rfl rfl rfl rfl hp6) (ox_y rfl (y_pick_tb (congrArg Value.bool hp6) rfl) ?_)))
   exact key _ _ (keep (keep (keep (keep (keep (keep (keep rfl rfl) rfl) rfl) rfl) rfl) rfl) (congrArg Value.bool (or_t hp6)))
  ·refine ox_y (sT rfl rfl rfl rfl hp6) (yMS rfl) (ox_y (sT rfl rfl rfl rfl hp6) (y_len (us:=[]) us_26 rfl) (ox_y (sT rfl rfl rfl rfl hp6) (y_gtr rfl rfl) (ox_y rfl (y_pick_fb (congrArg Value.bool hp6) rfl) ?_)))
   exact key _ _ (keep (keep (keep (keep (keep (keep (keep rfl rfl) rfl) rfl) rfl) rfl) rfl) (congrArg Value.bool (or_f hp6)))
end Go.Proofs.YtbblpokfbmekfaaGreat
