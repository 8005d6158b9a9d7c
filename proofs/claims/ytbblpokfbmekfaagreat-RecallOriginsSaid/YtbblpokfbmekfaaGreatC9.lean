import Derived.Test.YtbblpokfbmekfaaGreatF
import Derived.Test.YtbblpokfbmekfaaGreatGj
import Derived.Test.YtbblpokfbmekfaaGreatC2
import Derived.Test.YtbblpokfbmekfaaGreatC4
import Derived.Test.YtbblpokfbmekfaaGreatC8
set_option maxHeartbeats 4000000
set_option maxRecDepth 100000
set_option linter.unusedVariables false
namespace Go.Proofs.YtbblpokfbmekfaaGreat
open Go.RowKit (Below)
attribute [local irreducible] OX QX CX EX OpY Calls CallsIn
theorem ref09_Origins_ok (p0:TLineage) (p1:Int) (res:TTwo) (h:ref09_Origins p0 p1 = some res) (W:World) (A0_0:Option Addr) (n0_0 c0_0 : Nat) (hn0_0:n0_0 = p0.fNodes.length) (hr0_0:Rd W A0_0 n0_0 c0_0 (encL TNode_cells p0.fNodes)) (A0_1:Option Addr) (n0_1 c0_1 : Nat) (ys0_1:List (Hd × TClaim)) (hn0_1:n0_1 = p0.fClaims.length) (hr0_1:Rd W A0_1 n0_1 c0_1 (encL TClaim_cells2 ys0_1)) (hN0_1:NestW W (fun z : TClaim => z.fOptions) THop_cells ys0_1 p0.fClaims) :
  Calls Tryz.prog 16 [.agg #[.slice A0_0 n0_0 c0_0,.slice A0_1 n0_1 c0_1],.int .i64 p1].toArray W fun e W2 => ∃ x : ((Option Addr × Nat × Nat) × (Option Addr × Nat × Nat)),(x.1.2.1 = res.fA.length ∧ x.2.2.1 = res.fB.length) ∧ e = .returned (.agg #[.slice x.1.1 x.1.2.1 x.1.2.2,.slice x.2.1 x.2.2.1 x.2.2.2,.int .i64 res.fE]) ∧ Ext W W2 [rowR x.1.1 x.1.2.2 3 1 x.1.2.1 (encL cI res.fA),rowR x.2.1 x.2.2.2 3 1 x.2.2.1 (encL cI res.fB)]:=by
 subst hn0_0
 subst hn0_1
 unfold ref09_Origins at h
 refine calls_enter (m:=83) Tryz.func16 rfl rfl (Nat.le_of_ble_eq_true rfl) ?_
 refine cS (cR ?_)
 refine ox_box [.slice A0_0 p0.fNodes.length c0_0,.slice A0_1 p0.fClaims.length c0_1] rfl rfl rfl (fun b1 => ?_)
 refine ox_alloc ze_33 rfl (fun b2 => ?_)
 refine oN (eT (cS (cR ?_)))
 refine ox_y rfl (y_loadN 0 [.slice A0_0 p0.fNodes.length c0_0,.slice A0_1 p0.fClaims.length c0_1] ag_25 rfl rfl rfl) ?_
 obtain ⟨y3,hy4,h⟩:=bOs h
 refine ox_y rfl (y_call [.agg #[.slice A0_0 p0.fNodes.length c0_0,.slice A0_1 p0.fClaims.length c0_1]] go_66 rfl (fun W2 hW2 => ref09_Check_ok p0 y3 hy4 W2 A0_0 p0.fNodes.length c0_0 rfl ((RdL.arg hr0_0) W2 hW2) A0_1 p0.fClaims.length c0_1 ys0_1 rfl ((RdL.arg hr0_1) W2 hW2) (NestL.at (NestL.arg hN0_1) W2 hW2)) rfl) (ox_y rfl (yAI rfl) ?_)
 refine oN (eT (cS (cS (cR ?_))))
 refine ox_y rfl (yMI rfl) (ox_y rfl (y_eql rfl rfl) (ox_y rfl (y_move_bool rfl) ?_))
 obtain ⟨b6,hb7,h⟩:=bOs h
 refine ox_join 5 (fun tm0 => (upd (upd (upd (upd (upd tm0 1 (.int .i64 p1)) 2 (.pointer (some ⟨b1,0,none⟩))) 4 (.pointer (some ⟨b2,0,none⟩))) 5 (.int .i64 y3)) 20 (.bool b6))) (fun tm0 => ?_) (fun key => ?_)
 ·refine oN (eT ?_)
  rcases iOs h with ⟨hp8,h⟩ | ⟨hp8,h⟩
  ·refine cx_true (congrArg Value.bool hp8) (cR (ox_y rfl (yAI rfl) ?_))
   refine oN (eT (cS (cS (cR ?_))))
   refine ox_y rfl (yMI rfl) (ox_y rfl (y_neq rfl rfl) ?_)
   refine oN (eT ?_)
   rcases iOs h with ⟨hp9,h⟩ | ⟨hp9,h⟩
   ·refine cx_true (congrArg Value.bool hp9) ?_
    refine cS (cR ?_)
    refine ox_y rfl (yMI rfl) ?_
    refine ox_y rfl (y_buildS [.slice none 0 0,.slice none 0 0,.int .i64 5] [(0,1),(1,1),(2,1)] ust_33 ze_33 (by kernel_rfl)) ?_
    refine ox_n rfl (y_storeN 1 [.slice none 0 0,.slice none 0 0,.int .i64 5] sz_33 rfl (Nat.le_of_ble_eq_true rfl) rfl rfl rfl) ?_
    refine oN (eT (cx_ret (ex_then_ret ?_)))
    obtain rfl:=Option.some.inj h
    exact ex_res1 (.inl rfl) rfl (resV_cellN 1 [.slice none 0 0,.slice none 0 0,.int .i64 5] ag_33 rfl rfl rfl) (fun W2 hW2 => ⟨((none,0,0),(none,0,0)),⟨rfl,rfl⟩,rfl,((hW2.nilrow 3 1).nilrow 3 1).pickL [2,3] (by decide) rfl⟩)
   ·refine cx_false (congrArg Value.bool hp9) ?_
    refine cx_skip (eT (cS (cR ?_)))
    refine ox_alloc ze_33 rfl (fun b10 => ?_)
    refine oN (eT (cS (cS (cR ?_))))
    refine ox_y rfl (yAI rfl) ?_
    refine oN (eT (cx_block ?_))
    obtain ⟨u14,hl60,h⟩:=bOs h
    refine cx_nilrow 3 1 (cx_nilrow 3 1 (cx_nilrow 3 1 (cx_nilrow 3 1 ?_)))
    refine cx_loop (fun (s:(Int × (List Int) × (List Int))) L tm => ∃ (tm0:Nat → Value) (A5_s:Option Addr) (c5_s:Nat) (n5_s:Nat) (A6_s:Option Addr) (c6_s:Nat) (n6_s:Nat),n5_s = s.2.1.length ∧ n6_s = s.2.2.length ∧ L = [cellsR b1 25 [.slice A0_0 p0.fNodes.length c0_0,.slice A0_1 p0.fClaims.length c0_1],cellsR b2 33 [.slice none 0 0,.slice none 0 0,.int .i64 0],cellsR b10 33 [.slice A5_s n5_s c5_s,.slice A6_s n6_s c6_s,.int .i64 0],rowR none 0 3 1 0 (encL cI ([]:List Int)),rowR none 0 3 1 0 (encL cI ([]:List Int)),rowR A5_s c5_s 3 1 n5_s (encL cI s.2.1),rowR A6_s c6_s 3 1 n6_s (encL cI s.2.2)] ∧ tm = (upd (upd (upd (upd (upd (upd (upd (upd tm0 1 (.int .i64 p1)) 2 (.pointer (some ⟨b1,0,none⟩))) 4 (.pointer (some ⟨b2,0,none⟩))) 5 (.int .i64 5)) 20 (.bool b6)) 22 (.bool (5 != 0))) 6 (.pointer (some ⟨b10,0,none⟩))) 7 (.int .i64 s.1))) (fun s e L tm => e = .exit 0 ∧ ∃ (tm0:Nat → Value) (A5_s:Option Addr) (c5_s:Nat) (n5_s:Nat) (A6_s:Option Addr) (c6_s:Nat) (n6_s:Nat),n5_s = s.2.1.length ∧ n6_s = s.2.2.length ∧ L = [cellsR b1 25 [.slice A0_0 p0.fNodes.length c0_0,.slice A0_1 p0.fClaims.length c0_1],cellsR b2 33 [.slice none 0 0,.slice none 0 0,.int .i64 0],cellsR b10 33 [.slice A5_s n5_s c5_s,.slice A6_s n6_s c6_s,.int .i64 0],rowR none 0 3 1 0 (encL cI ([]:List Int)),rowR none 0 3 1 0 (encL cI ([]:List Int)),rowR A5_s c5_s 3 1 n5_s (encL cI s.2.1),rowR A6_s c6_s 3 1 n6_s (encL cI s.2.2)] ∧ tm = (upd (upd (upd (upd (upd (upd (upd (upd tm0 1 (.int .i64 p1)) 2 (.pointer (some ⟨b1,0,none⟩))) 4 (.pointer (some ⟨b2,0,none⟩))) 5 (.int .i64 5)) 20 (.bool b6)) 22 (.bool (5 != 0))) 6 (.pointer (some ⟨b10,0,none⟩))) 7 (.int .i64 s.1))) hl60 ⟨_,none,0,0,none,0,0,rfl,rfl,rfl,(kp4 (kp4 rfl))⟩ ?_ ?_
    ·rintro s13 L tm st ⟨tm0_s13,A5_s13,c5_s13,n5_s13,A6_s13,c6_s13,n6_s13,rfl,rfl,rfl,rfl⟩ h
     unfold ref09_Origins_l1 at h
     refine cS (cS (cR ?_))
     try dsimp only [lna,lca,lsz,lss]
     refine ox_y rfl (yMI rfl) (ox_y rfl (yFA fo_25_0 rfl) (ox_y rfl (y_load1 0 (v:=.slice A0_0 p0.fNodes.length c0_0) sc_22 rfl rfl rfl) (ox_y rfl (y_len (us:=[]) us_22 rfl) (ox_y rfl (y_lss rfl rfl) ?_))))
     refine oN (eT ?_)
     rcases iOs h with ⟨hp15,h⟩ | ⟨hp15,h⟩
     ·refine cx_true (congrArg Value.bool hp15) ?_
      refine cx_skip (eT (cS (cx_block (cS (cS (cR ?_))))))
      refine ox_y rfl (yFA fo_25_0 rfl) (ox_y rfl (y_load1 0 (v:=.slice A0_0 p0.fNodes.length c0_0) sc_22 rfl rfl rfl) (ox_y rfl (yMI rfl) ?_))
      obtain ⟨hg16,h⟩:=gOs h
      refine ox_y rfl (y_indexR sl_22 (by decide) hg16.1 hg16.2 (RdL.arg hr0_0) (encL_len TNode_cells_len rfl) rfl rfl) ?_
      refine ox_y rfl (y_fieldAddrR (A:=A0_0) (j:=(Int.toNat s13.1 * 3)) fo_97_1 rfl) (ox_y rfl (y_loadR1 (A:=A0_0) (j:=((Int.toNat s13.1 * 3) + 1)) (v:=.int .i64 ((rdL p0.fNodes s13.1).fLevel)) sc_3 (RdL.arg hr0_0) rfl (encL_get TNode_cells_len hg16.1 (lt_nat hg16.2 rfl) rfl)) (ox_y rfl (y_neq rfl rfl) ?_))
      refine oN (eT ?_)
      rcases iOs h with ⟨hp17,h⟩ | ⟨hp17,h⟩
      ·refine cx_true (congrArg Value.bool hp17) (cx_exit (ex_then_exit (ex_block_here ?_)))
       refine eT (cR ?_)
       refine ox_y rfl (yMI rfl) (ox_y rfl (y_add rfl rfl) (ox_y rfl (yAI rfl) (oN ?_)))
       obtain rfl:=Option.some.inj h
       exact ex_next ⟨_,A5_s13,c5_s13,s13.2.1.length,A6_s13,c6_s13,s13.2.2.length,rfl,rfl,rfl,(kp4 (kp4 rfl))⟩
      ·refine cx_false (congrArg Value.bool hp17) ?_
       refine cx_skip (eT (cS ?_))
       obtain ⟨hg19,h⟩:=gOs h
       obtain ⟨y21,hy22,h⟩:=bOs h
       refine cx_drawsG [[],[],[1],[],[1,2,3],[1,2,3,4],[1,2,3,4,5],[1,2,3,4,5,6],[0,1,2,3,4,5,6,7],[0,1,2,3,4,5,6,7,8],[0,1,2,3,4,5,6,7,8,9],[0,1,2,3,4,5,6,7,8,9],[0,1,2,3,4,5,6,7,8,9,10],[0,1,2,3,4,5,6,7,8,9,10,11,12]] [(none,0,[true,true,true,true,true,true,true]),(none,0,[true,true,true,true,true,true,true]),(none,0,[true,true,true,true,true,true,true]),(none,0,[true,true,true,true,true,true,true]),(none,0,[true,true,true,true,true,true,true]),(none,0,[true,true,true,true,true,true,true]),(none,0,[true,true,true,true,true,true,true]),(none,1,[true,true,true,true,true,true,true]),(none,2,[true,true,true,true,true,true,true,true]),(none,0,[true,true,true,true,true,true,true,true,true,true]),(none,0,[true,true,true,true,true,true,true,true,true,true]),(none,0,[true,true,true,true,true,true,true,true,true,true]),(none,0,[true,true,true,true,true,true,true,true,true,true]),(none,0,[true,true,true,true,true,true,true,true,true,true])] [⟨fun _ => .agg #[.slice A0_0 p0.fNodes.length c0_0,.slice A0_1 p0.fClaims.length c0_1],fun _ => noR,fun _ => []⟩,⟨fun _ => .pointer (some ⟨b1,0 + 0,none⟩),fun _ => noR,fun _ => []⟩,⟨fun _ => .slice A0_0 p0.fNodes.length c0_0,fun _ => noR,fun _ => []⟩,⟨fun _ => .int .i64 s13.1,fun _ => noR,fun _ => []⟩,⟨fun _ => slA A0_0 (Int.toNat s13.1 * 3),fun _ => noR,fun _ => []⟩,⟨fun _ => slA A0_0 ((Int.toNat s13.1 * 3) + 0),fun _ => noR,fun _ => []⟩,⟨fun _ => .int .i64 ((rdL p0.fNodes s13.1).fID),fun _ => noR,fun _ => []⟩,⟨fun ξ18 => .slice (some ⟨(ξ18 7 0).2.1,0,none⟩) 1 1,fun _ => noR,fun ξ18 => [rowR (some ⟨(ξ18 7 0).2.1,0,none⟩) 1 3 1 1 (encL cI [(rdL p0.fNodes s13.1).fID])]⟩,⟨fun ξ18 => .tuple #[.slice (ξ18 8 0).1 y21.1.length (ξ18 8 0).2.2,.slice (ξ18 8 1).1 y21.2.length (ξ18 8 1).2.2],fun _ => noR,fun ξ18 => [rowR (ξ18 8 0).1 (ξ18 8 0).2.2 4 1 y21.1.length (encL cB y21.1),rowR (ξ18 8 1).1 (ξ18 8 1).2.2 4 1 y21.2.length (encL cB y21.2)]⟩,⟨fun ξ18 => .tuple #[.slice (ξ18 8 0).1 y21.1.length (ξ18 8 0).2.2,.slice (ξ18 8 1).1 y21.2.length (ξ18 8 1).2.2],fun _ => noR,fun _ => []⟩,⟨fun ξ18 => .slice (ξ18 8 0).1 y21.1.length (ξ18 8 0).2.2,fun _ => noR,fun _ => []⟩,⟨fun ξ18 => .slice (ξ18 8 1).1 y21.2.length (ξ18 8 1).2.2,fun _ => noR,fun _ => []⟩,⟨fun ξ18 => .slice (ξ18 8 0).1 y21.1.length (ξ18 8 0).2.2,fun _ => noR,fun _ => []⟩,⟨fun ξ18 => .slice (ξ18 8 1).1 y21.2.length (ξ18 8 1).2.2,fun _ => noR,fun _ => []⟩] 7 mixed (by kernel_rfl) (by kernel_rfl) ⟨⟨fun ξ18 ξ18' h => ⟨rfl,rfl,rfl⟩,fun _ => rfl⟩,⟨fun ξ18 ξ18' h => ⟨rfl,rfl,rfl⟩,fun _ => rfl⟩,⟨fun ξ18 ξ18' h => ⟨rfl,rfl,rfl⟩,fun _ => rfl⟩,⟨fun ξ18 ξ18' h => ⟨rfl,rfl,rfl⟩,fun _ => rfl⟩,⟨fun ξ18 ξ18' h => ⟨rfl,rfl,rfl⟩,fun _ => rfl⟩,⟨fun ξ18 ξ18' h => ⟨rfl,rfl,rfl⟩,fun _ => rfl⟩,⟨fun ξ18 ξ18' h => ⟨rfl,rfl,rfl⟩,fun _ => rfl⟩,⟨fun ξ18 ξ18' h => ⟨by simp only [h 7 (.inl rfl)],rfl,by simp only [h 7 (.inl rfl)]⟩,fun _ => rfl⟩,⟨fun ξ18 ξ18' h => ⟨by simp only [h 8 (.inl rfl)],rfl,by simp only [h 8 (.inl rfl)]⟩,fun _ => rfl⟩,⟨fun ξ18 ξ18' h => ⟨by simp only [h 8 (.inr rfl)],rfl,rfl⟩,fun _ => rfl⟩,⟨fun ξ18 ξ18' h => ⟨by simp only [h 8 (.inr rfl)],rfl,rfl⟩,fun _ => rfl⟩,⟨fun ξ18 ξ18' h => ⟨by simp only [h 8 (.inr rfl)],rfl,rfl⟩,fun _ => rfl⟩,⟨fun ξ18 ξ18' h => ⟨by simp only [h 8 (.inr rfl)],rfl,rfl⟩,fun _ => rfl⟩,⟨fun ξ18 ξ18' h => ⟨by simp only [h 8 (.inr rfl)],rfl,rfl⟩,fun _ => rfl⟩,trivial⟩ rfl (fun ξ18 => ?_)
       refine gx_o rfl (fun L2 => ?_) ?_
       ·dsimp only [maskL,lca,lna]
        refine ox_y rfl (y_loadN 0 [.slice A0_0 p0.fNodes.length c0_0,.slice A0_1 p0.fClaims.length c0_1] ag_25 rfl rfl rfl) (oN ?_)
        exact ex_capG (fun _ => (none,0,0)) rfl (List.append_nil _)
       dsimp only [aftL,lsz,lss,lna,lca,List.append_nil]
       refine gx_o rfl (fun L2 => ?_) ?_
       ·dsimp only [maskL,lca,lna]
        refine ox_y rfl (yFA fo_25_0 rfl) (oN ?_)
        exact ex_capG (fun _ => (none,0,0)) rfl (List.append_nil _)
       dsimp only [aftL,lsz,lss,lna,lca,List.append_nil]
       refine gx_o rfl (fun L2 => ?_) ?_
       ·dsimp only [maskL,lca,lna]
        refine ox_y rfl (y_load1 0 (v:=.slice A0_0 p0.fNodes.length c0_0) sc_22 rfl rfl rfl) (oN ?_)
        exact ex_capG (fun _ => (none,0,0)) rfl (List.append_nil _)
       dsimp only [aftL,lsz,lss,lna,lca,List.append_nil]
       refine gx_o rfl (fun L2 => ?_) ?_
       ·dsimp only [maskL,lca,lna]
        refine ox_y rfl (yMI rfl) (oN ?_)
        exact ex_capG (fun _ => (none,0,0)) rfl (List.append_nil _)
       dsimp only [aftL,lsz,lss,lna,lca,List.append_nil]
       refine gx_o rfl (fun L2 => ?_) ?_
       ·dsimp only [maskL,lca,lna]
        refine ox_y rfl (y_indexR sl_22 (by decide) hg19.1 hg19.2 (RdL.arg hr0_0) (encL_len TNode_cells_len rfl) rfl rfl) ?_
        refine oN ?_
        exact ex_capG (fun _ => (none,0,0)) rfl (List.append_nil _)
       dsimp only [aftL,lsz,lss,lna,lca,List.append_nil]
       refine gx_o rfl (fun L2 => ?_) ?_
       ·dsimp only [maskL,lca,lna]
        refine ox_y rfl (y_fieldAddrR (A:=A0_0) (j:=(Int.toNat s13.1 * 3)) fo_97_0 rfl) (oN ?_)
        exact ex_capG (fun _ => (none,0,0)) rfl (List.append_nil _)
       dsimp only [aftL,lsz,lss,lna,lca,List.append_nil]
       refine gx_o rfl (fun L2 => ?_) ?_
       ·dsimp only [maskL,lca,lna]
        refine ox_y rfl (y_loadR1 (A:=A0_0) (j:=((Int.toNat s13.1 * 3) + 0)) (v:=.int .i64 ((rdL p0.fNodes s13.1).fID)) sc_3 (RdL.arg hr0_0) rfl (encL_get TNode_cells_len hg19.1 (lt_nat hg19.2 rfl) rfl)) (oN ?_)
        exact ex_capG (fun _ => (none,0,0)) rfl (List.append_nil _)
       dsimp only [aftL,lsz,lss,lna,lca,List.append_nil]
       refine gx_o rfl (fun L2 => ?_) ?_
       ·dsimp only [maskL,lca,lna]
        refine ox_buildSliceE 1 (encL cI [(rdL p0.fNodes s13.1).fID]) _ mc_3_1 us_26 ze_3 by_3 (by decide) (by decide) (by kernel_rfl) (encL_len cI_len rfl) rfl (fun b20 => ?_)
        refine oN ?_
        exact ex_capG (fun _ => (none,b20,0)) rfl rfl
       dsimp only [aftL,lsz,lss,lna,lca,List.append_nil]
       refine gx_o rfl (fun L2 => ?_) ?_
       ·dsimp only [maskL,lca,lna]
        refine ox_call [.agg #[.slice A0_0 p0.fNodes.length c0_0,.slice A0_1 p0.fClaims.length c0_1],.slice (some ⟨(ξ18 7 0).2.1,0,none⟩) 1 1] _ _ _ rfl go_68 rfl (fun W2 hW2 => ref09_both_ok p0 [(rdL p0.fNodes s13.1).fID] y21 hy22 W2 A0_0 p0.fNodes.length c0_0 rfl ((RdL.arg hr0_0) W2 hW2) A0_1 p0.fClaims.length c0_1 ys0_1 rfl ((RdL.arg hr0_1) W2 hW2) (NestL.at (NestL.arg hN0_1) W2 hW2) (some ⟨(ξ18 7 0).2.1,0,none⟩) 1 1 rfl ((RdL.row 7 rfl) W2 hW2)) ?_
        rintro ⟨⟨A23,n27,c24⟩,⟨A25,n29,c26⟩⟩ ⟨hn28,hn30⟩
        replace hn28 : n27 = y21.1.length:=hn28; subst hn28
        replace hn30 : n29 = y21.2.length:=hn30; subst hn30
        refine oN ?_
        exact ex_capG (fun q => if q = 0 then (A23,0,c24) else (A25,0,c26)) rfl rfl
       dsimp only [aftL,lsz,lss,lna,lca,List.append_nil]
       refine gx_o rfl (fun L2 => ?_) ?_
       ·dsimp only [maskL,lca,lna]
        refine ox_y rfl (y_move_tuple rfl) (oN ?_)
        exact ex_capG (fun _ => (none,0,0)) rfl (List.append_nil _)
       dsimp only [aftL,lsz,lss,lna,lca,List.append_nil]
       refine gx_o rfl (fun L2 => ?_) ?_
       ·dsimp only [maskL,lca,lna]
        refine ox_y rfl (y_extract (vs:=[.slice (ξ18 8 0).1 y21.1.length (ξ18 8 0).2.2,.slice (ξ18 8 1).1 y21.2.length (ξ18 8 1).2.2]) (v:=.slice (ξ18 8 0).1 y21.1.length (ξ18 8 0).2.2) rfl rfl) (oN ?_)
        exact ex_capG (fun _ => (none,0,0)) rfl (List.append_nil _)
       dsimp only [aftL,lsz,lss,lna,lca,List.append_nil]
       refine gx_o rfl (fun L2 => ?_) ?_
       ·dsimp only [maskL,lca,lna]
        refine ox_y rfl (y_extract (vs:=[.slice (ξ18 8 0).1 y21.1.length (ξ18 8 0).2.2,.slice (ξ18 8 1).1 y21.2.length (ξ18 8 1).2.2]) (v:=.slice (ξ18 8 1).1 y21.2.length (ξ18 8 1).2.2) rfl rfl) (oN ?_)
        exact ex_capG (fun _ => (none,0,0)) rfl (List.append_nil _)
       dsimp only [aftL,lsz,lss,lna,lca,List.append_nil]
       refine gx_o rfl (fun L2 => ?_) ?_
       ·dsimp only [maskL,lca,lna]
        refine ox_y rfl (yAS rfl) (oN ?_)
        exact ex_capG (fun _ => (none,0,0)) rfl (List.append_nil _)
       dsimp only [aftL,lsz,lss,lna,lca,List.append_nil]
       refine gx_o rfl (fun L2 => ?_) ?_
       ·dsimp only [maskL,lca,lna]
        refine ox_y rfl (yAS rfl) (oN ?_)
        exact ex_capG (fun _ => (none,0,0)) rfl (List.append_nil _)
       dsimp only [aftL,lsz,lss,lna,lca,List.append_nil]
       refine gx_nil ?_
       refine eT (cS (cR ?_))
       try dsimp only [lna,lca,lsz,lss]
       refine ox_y rfl (y_loadN 0 [.slice A0_0 p0.fNodes.length c0_0,.slice A0_1 p0.fClaims.length c0_1] ag_25 rfl rfl rfl) (ox_y rfl (yMI rfl) ?_)
       obtain ⟨y31,hy32,h⟩:=bOs h
       refine ox_y rfl (y_call [.agg #[.slice A0_0 p0.fNodes.length c0_0,.slice A0_1 p0.fClaims.length c0_1],.int .i64 p1] go_67 rfl (fun W2 hW2 => ref09_Node_ok p0 p1 y31 hy32 W2 A0_0 p0.fNodes.length c0_0 rfl ((RdL.arg hr0_0) W2 hW2) A0_1 p0.fClaims.length c0_1 ys0_1 rfl ((RdL.arg hr0_1) W2 hW2) (NestL.at (NestL.arg hN0_1) W2 hW2)) rfl) (ox_y rfl (yAI rfl) ?_)
       refine oN (eT (cS (cS (cR ?_))))
       refine ox_y rfl (yMS rfl) (ox_y rfl (yMI rfl) ?_)
       obtain ⟨hg33,h⟩:=gOs h
       refine ox_y rfl (y_indexR sl_98 (by decide) hg33.1 hg33.2 (RdL.row 8 rfl) (encL_len cB_len rfl) rfl rfl) ?_
       refine ox_y rfl (y_loadR1 (A:=(ξ18 8 0).1) (j:=(Int.toNat y31 * 1)) (v:=.bool (rdL y21.1 y31)) sc_4 (RdL.row 8 rfl) rfl (encL_get0 cB_len hg33.1 (lt_nat hg33.2 rfl) rfl)) ?_
       refine oN (eT ?_)
       rcases iOs h with ⟨hp34,h⟩ | ⟨hp34,h⟩
       ·refine cx_true (congrArg Value.bool hp34) ?_
        refine cx_draws 8 mixed (by kernel_rfl) (by kernel_rfl) ?_
        refine qx_y rfl (yFA fo_33_0 rfl) (qx_y rfl (y_load1 2 (v:=.slice A5_s13 s13.2.1.length c5_s13) sc_26 rfl rfl rfl) (qx_y rfl (yFA fo_25_0 rfl) (qx_y rfl (y_load1 0 (v:=.slice A0_0 p0.fNodes.length c0_0) sc_22 rfl rfl rfl) (qx_y rfl (yMI rfl) ?_))))
        obtain ⟨hg35,h⟩:=gOs h
        refine qx_y rfl (y_indexR sl_22 (by decide) hg35.1 hg35.2 (RdL.arg hr0_0) (encL_len TNode_cells_len rfl) rfl rfl) ?_
        refine qx_y rfl (y_fieldAddrR (A:=A0_0) (j:=(Int.toNat s13.1 * 3)) fo_97_0 rfl) (qx_y rfl (y_loadR1 (A:=A0_0) (j:=((Int.toNat s13.1 * 3) + 0)) (v:=.int .i64 ((rdL p0.fNodes s13.1).fID)) sc_3 (RdL.arg hr0_0) rfl (encL_get TNode_cells_len hg35.1 (lt_nat hg35.2 rfl) rfl)) (qx_nil ?_))
        obtain ⟨y36,hy37,h⟩:=bOs h
        refine ox_call [.slice A5_s13 s13.2.1.length c5_s13,.int .i64 ((rdL p0.fNodes s13.1).fID)] _ _ _ rfl go_69 rfl (fun W2 hW2 => ref09_put_ok s13.2.1 ((rdL p0.fNodes s13.1).fID) y36 hy37 W2 A5_s13 s13.2.1.length c5_s13 rfl ((RdL.row 5 rfl) W2 hW2)) ?_
        rintro ⟨A38,n40,c39⟩ hn41
        replace hn41 : n40 = y36.length:=hn41; subst hn41
        try dsimp only [lna,lca,lsz,lss]
        refine ox_y rfl (yFA fo_33_0 rfl) (ox_n rfl (y_store1 2 (v:=.slice A38 y36.length c39) sz_26 rfl (Nat.lt_of_lt_of_le (Nat.lt_succ_self _) (Nat.le_of_ble_eq_true rfl)) rfl rfl rfl) ?_)
        refine oN (eT (cS (cR ?_)))
        refine ox_y rfl (yMS rfl) (ox_y rfl (yMI rfl) ?_)
        obtain ⟨hg42,h⟩:=gOs h
        refine ox_y rfl (y_indexR sl_98 (by decide) hg42.1 hg42.2 (RdL.row 9 rfl) (encL_len cB_len rfl) rfl rfl) ?_
        refine ox_y rfl (y_loadR1 (A:=(ξ18 8 1).1) (j:=(Int.toNat y31 * 1)) (v:=.bool (rdL y21.2 y31)) sc_4 (RdL.row 9 rfl) rfl (encL_get0 cB_len hg42.1 (lt_nat hg42.2 rfl) rfl)) ?_
        refine oN (eT ?_)
        rcases iOs h with ⟨hp43,h⟩ | ⟨hp43,h⟩
        ·refine cx_true (congrArg Value.bool hp43) ?_
         refine cx_draws 8 mixed (by kernel_rfl) (by kernel_rfl) ?_
         refine qx_y rfl (yFA fo_33_1 rfl) (qx_y rfl (y_load1 2 (v:=.slice A6_s13 s13.2.2.length c6_s13) sc_26 rfl rfl rfl) (qx_y rfl (yFA fo_25_0 rfl) (qx_y rfl (y_load1 0 (v:=.slice A0_0 p0.fNodes.length c0_0) sc_22 rfl rfl rfl) (qx_y rfl (yMI rfl) ?_))))
         obtain ⟨hg44,h⟩:=gOs h
         refine qx_y rfl (y_indexR sl_22 (by decide) hg44.1 hg44.2 (RdL.arg hr0_0) (encL_len TNode_cells_len rfl) rfl rfl) ?_
         refine qx_y rfl (y_fieldAddrR (A:=A0_0) (j:=(Int.toNat s13.1 * 3)) fo_97_0 rfl) (qx_y rfl (y_loadR1 (A:=A0_0) (j:=((Int.toNat s13.1 * 3) + 0)) (v:=.int .i64 ((rdL p0.fNodes s13.1).fID)) sc_3 (RdL.arg hr0_0) rfl (encL_get TNode_cells_len hg44.1 (lt_nat hg44.2 rfl) rfl)) (qx_nil ?_))
         obtain ⟨y45,hy46,h⟩:=bOs h
         refine ox_call [.slice A6_s13 s13.2.2.length c6_s13,.int .i64 ((rdL p0.fNodes s13.1).fID)] _ _ _ rfl go_69 rfl (fun W2 hW2 => ref09_put_ok s13.2.2 ((rdL p0.fNodes s13.1).fID) y45 hy46 W2 A6_s13 s13.2.2.length c6_s13 rfl ((RdL.row 6 rfl) W2 hW2)) ?_
         rintro ⟨A47,n49,c48⟩ hn50
         replace hn50 : n49 = y45.length:=hn50; subst hn50
         try dsimp only [lna,lca,lsz,lss]
         refine ox_y rfl (yFA fo_33_1 rfl) (ox_n rfl (y_store1 2 (v:=.slice A47 y45.length c48) sz_26 rfl (Nat.lt_of_lt_of_le (Nat.lt_succ_self _) (Nat.le_of_ble_eq_true rfl)) rfl rfl rfl) (oN (ex_block ?_)))
         refine eT (cR ?_)
         refine ox_y rfl (yMI rfl) (ox_y rfl (y_add rfl rfl) (ox_y rfl (yAI rfl) (oN ?_)))
         refine ex_mv 5 10 (by decide) rfl ?_
         try dsimp only [lsz,lss]
         refine ex_mv 6 11 (by decide) rfl ?_
         try dsimp only [lsz,lss]
         refine ex_take 7 ?_
         obtain rfl:=Option.some.inj h
         exact ex_next ⟨_,A38,c39,y36.length,A47,c48,y45.length,rfl,rfl,rfl,(kp4 (kp4 rfl))⟩
        ·refine cx_false (congrArg Value.bool hp43) (cx_skip (ex_block ?_))
         refine eT (cR ?_)
         refine ox_y rfl (yMI rfl) (ox_y rfl (y_add rfl rfl) (ox_y rfl (yAI rfl) (oN ?_)))
         refine ex_mv 5 10 (by decide) rfl ?_
         try dsimp only [lsz,lss]
         refine ex_take 7 ?_
         obtain rfl:=Option.some.inj h
         exact ex_next ⟨_,A38,c39,y36.length,A6_s13,c6_s13,s13.2.2.length,rfl,rfl,rfl,(kp4 (kp4 rfl))⟩
       ·refine cx_false (congrArg Value.bool hp34) ?_
        refine cx_skip (eT (cS (cR ?_)))
        refine ox_y rfl (yMS rfl) (ox_y rfl (yMI rfl) ?_)
        obtain ⟨hg51,h⟩:=gOs h
        refine ox_y rfl (y_indexR sl_98 (by decide) hg51.1 hg51.2 (RdL.row 9 rfl) (encL_len cB_len rfl) rfl rfl) ?_
        refine ox_y rfl (y_loadR1 (A:=(ξ18 8 1).1) (j:=(Int.toNat y31 * 1)) (v:=.bool (rdL y21.2 y31)) sc_4 (RdL.row 9 rfl) rfl (encL_get0 cB_len hg51.1 (lt_nat hg51.2 rfl) rfl)) ?_
        refine oN (eT ?_)
        rcases iOs h with ⟨hp52,h⟩ | ⟨hp52,h⟩
        ·refine cx_true (congrArg Value.bool hp52) ?_
         refine cx_draws 8 mixed (by kernel_rfl) (by kernel_rfl) ?_
         refine qx_y rfl (yFA fo_33_1 rfl) (qx_y rfl (y_load1 2 (v:=.slice A6_s13 s13.2.2.length c6_s13) sc_26 rfl rfl rfl) (qx_y rfl (yFA fo_25_0 rfl) (qx_y rfl (y_load1 0 (v:=.slice A0_0 p0.fNodes.length c0_0) sc_22 rfl rfl rfl) (qx_y rfl (yMI rfl) ?_))))
         obtain ⟨hg53,h⟩:=gOs h
         refine qx_y rfl (y_indexR sl_22 (by decide) hg53.1 hg53.2 (RdL.arg hr0_0) (encL_len TNode_cells_len rfl) rfl rfl) ?_
         refine qx_y rfl (y_fieldAddrR (A:=A0_0) (j:=(Int.toNat s13.1 * 3)) fo_97_0 rfl) (qx_y rfl (y_loadR1 (A:=A0_0) (j:=((Int.toNat s13.1 * 3) + 0)) (v:=.int .i64 ((rdL p0.fNodes s13.1).fID)) sc_3 (RdL.arg hr0_0) rfl (encL_get TNode_cells_len hg53.1 (lt_nat hg53.2 rfl) rfl)) (qx_nil ?_))
         obtain ⟨y54,hy55,h⟩:=bOs h
         refine ox_call [.slice A6_s13 s13.2.2.length c6_s13,.int .i64 ((rdL p0.fNodes s13.1).fID)] _ _ _ rfl go_69 rfl (fun W2 hW2 => ref09_put_ok s13.2.2 ((rdL p0.fNodes s13.1).fID) y54 hy55 W2 A6_s13 s13.2.2.length c6_s13 rfl ((RdL.row 6 rfl) W2 hW2)) ?_
         rintro ⟨A56,n58,c57⟩ hn59
         replace hn59 : n58 = y54.length:=hn59; subst hn59
         try dsimp only [lna,lca,lsz,lss]
         refine ox_y rfl (yFA fo_33_1 rfl) (ox_n rfl (y_store1 2 (v:=.slice A56 y54.length c57) sz_26 rfl (Nat.lt_of_lt_of_le (Nat.lt_succ_self _) (Nat.le_of_ble_eq_true rfl)) rfl rfl rfl) (oN (ex_block ?_)))
         refine eT (cR ?_)
         refine ox_y rfl (yMI rfl) (ox_y rfl (y_add rfl rfl) (ox_y rfl (yAI rfl) (oN ?_)))
         refine ex_mv 6 10 (by decide) rfl ?_
         try dsimp only [lsz,lss]
         refine ex_take 7 ?_
         obtain rfl:=Option.some.inj h
         exact ex_next ⟨_,A5_s13,c5_s13,s13.2.1.length,A56,c57,y54.length,rfl,rfl,rfl,(kp4 (kp4 rfl))⟩
        ·refine cx_false (congrArg Value.bool hp52) (cx_skip (ex_block ?_))
         refine eT (cR ?_)
         refine ox_y rfl (yMI rfl) (ox_y rfl (y_add rfl rfl) (ox_y rfl (yAI rfl) (oN (ex_take 7 ?_))))
         obtain rfl:=Option.some.inj h
         exact ex_next ⟨_,A5_s13,c5_s13,s13.2.1.length,A6_s13,c6_s13,s13.2.2.length,rfl,rfl,rfl,(kp4 (kp4 rfl))⟩
     ·refine cx_false (congrArg Value.bool hp15) (cx_exit (ex_then_exit ?_))
      obtain rfl:=Option.some.inj h
      exact ex_stop ⟨rfl,_,A5_s13,c5_s13,s13.2.1.length,A6_s13,c6_s13,s13.2.2.length,rfl,rfl,rfl,(kp4 (kp4 rfl))⟩
    ·intro e L tm hJ
     obtain ⟨rfl,tm0_u14,A5_u14,c5_u14,n5_u14,A6_u14,c6_u14,n6_u14,rfl,rfl,rfl,rfl⟩:=hJ
     refine ⟨(by intro hc; cases hc),?_⟩
     refine ex_block_here ?_
     refine eT (cS (cR ?_))
     try dsimp only [lna,lca,lsz,lss]
     refine ox_y rfl (y_loadN 2 [.slice A5_u14 u14.2.1.length c5_u14,.slice A6_u14 u14.2.2.length c6_u14,.int .i64 0] ag_33 rfl rfl rfl) (ox_n rfl (y_storeN 1 [.slice A5_u14 u14.2.1.length c5_u14,.slice A6_u14 u14.2.2.length c6_u14,.int .i64 0] sz_33 rfl (Nat.le_of_ble_eq_true rfl) rfl rfl rfl) ?_)
     refine oN (eT (cx_ret ?_))
     obtain rfl:=Option.some.inj h
     exact ex_res1 (.inl rfl) rfl (resV_cellN 1 [.slice A5_u14 u14.2.1.length c5_u14,.slice A6_u14 u14.2.2.length c6_u14,.int .i64 0] ag_33 rfl rfl rfl) (fun W2 hW2 => ⟨((A5_u14,u14.2.1.length,c5_u14),(A6_u14,u14.2.2.length,c6_u14)),⟨rfl,rfl⟩,rfl,hW2.pickL [5,6] (by decide) rfl⟩)
  ·refine cx_false (congrArg Value.bool hp8) ?_
   refine cx_skip (eT (cS (cS (cR ?_))))
   refine ox_y rfl (yMI rfl) (ox_y rfl (y_neq rfl rfl) ?_)
   refine oN (eT ?_)
   rcases iOs h with ⟨hp61,h⟩ | ⟨hp61,h⟩
   ·refine cx_true (congrArg Value.bool hp61) ?_
    refine cS (cR ?_)
    refine ox_y rfl (yMI rfl) ?_
    refine ox_y rfl (y_buildS [.slice none 0 0,.slice none 0 0,.int .i64 y3] [(0,1),(1,1),(2,1)] ust_33 ze_33 (by kernel_rfl)) ?_
    refine ox_n rfl (y_storeN 1 [.slice none 0 0,.slice none 0 0,.int .i64 y3] sz_33 rfl (Nat.le_of_ble_eq_true rfl) rfl rfl rfl) ?_
    refine oN (eT (cx_ret (ex_then_ret ?_)))
    obtain rfl:=Option.some.inj h
    exact ex_res1 (.inl rfl) rfl (resV_cellN 1 [.slice none 0 0,.slice none 0 0,.int .i64 y3] ag_33 rfl rfl rfl) (fun W2 hW2 => ⟨((none,0,0),(none,0,0)),⟨rfl,rfl⟩,rfl,((hW2.nilrow 3 1).nilrow 3 1).pickL [2,3] (by decide) rfl⟩)
   ·refine cx_false (congrArg Value.bool hp61) ?_
    refine cx_skip (eT (cS (cR ?_)))
    refine ox_alloc ze_33 rfl (fun b62 => ?_)
    refine oN (eT (cS (cS (cR ?_))))
    refine ox_y rfl (yAI rfl) ?_
    refine oN (eT (cx_block ?_))
    obtain ⟨u66,hl112,h⟩:=bOs h
    refine cx_nilrow 3 1 (cx_nilrow 3 1 (cx_nilrow 3 1 (cx_nilrow 3 1 ?_)))
    refine cx_loop (fun (s:(Int × (List Int) × (List Int))) L tm => ∃ (tm0:Nat → Value) (A5_s:Option Addr) (c5_s:Nat) (n5_s:Nat) (A6_s:Option Addr) (c6_s:Nat) (n6_s:Nat),n5_s = s.2.1.length ∧ n6_s = s.2.2.length ∧ L = [cellsR b1 25 [.slice A0_0 p0.fNodes.length c0_0,.slice A0_1 p0.fClaims.length c0_1],cellsR b2 33 [.slice none 0 0,.slice none 0 0,.int .i64 0],cellsR b62 33 [.slice A5_s n5_s c5_s,.slice A6_s n6_s c6_s,.int .i64 0],rowR none 0 3 1 0 (encL cI ([]:List Int)),rowR none 0 3 1 0 (encL cI ([]:List Int)),rowR A5_s c5_s 3 1 n5_s (encL cI s.2.1),rowR A6_s c6_s 3 1 n6_s (encL cI s.2.2)] ∧ tm = (upd (upd (upd (upd (upd (upd (upd (upd tm0 1 (.int .i64 p1)) 2 (.pointer (some ⟨b1,0,none⟩))) 4 (.pointer (some ⟨b2,0,none⟩))) 5 (.int .i64 y3)) 20 (.bool b6)) 22 (.bool (y3 != 0))) 6 (.pointer (some ⟨b62,0,none⟩))) 7 (.int .i64 s.1))) (fun s e L tm => e = .exit 0 ∧ ∃ (tm0:Nat → Value) (A5_s:Option Addr) (c5_s:Nat) (n5_s:Nat) (A6_s:Option Addr) (c6_s:Nat) (n6_s:Nat),n5_s = s.2.1.length ∧ n6_s = s.2.2.length ∧ L = [cellsR b1 25 [.slice A0_0 p0.fNodes.length c0_0,.slice A0_1 p0.fClaims.length c0_1],cellsR b2 33 [.slice none 0 0,.slice none 0 0,.int .i64 0],cellsR b62 33 [.slice A5_s n5_s c5_s,.slice A6_s n6_s c6_s,.int .i64 0],rowR none 0 3 1 0 (encL cI ([]:List Int)),rowR none 0 3 1 0 (encL cI ([]:List Int)),rowR A5_s c5_s 3 1 n5_s (encL cI s.2.1),rowR A6_s c6_s 3 1 n6_s (encL cI s.2.2)] ∧ tm = (upd (upd (upd (upd (upd (upd (upd (upd tm0 1 (.int .i64 p1)) 2 (.pointer (some ⟨b1,0,none⟩))) 4 (.pointer (some ⟨b2,0,none⟩))) 5 (.int .i64 y3)) 20 (.bool b6)) 22 (.bool (y3 != 0))) 6 (.pointer (some ⟨b62,0,none⟩))) 7 (.int .i64 s.1))) hl112 ⟨_,none,0,0,none,0,0,rfl,rfl,rfl,(kp4 (kp4 rfl))⟩ ?_ ?_
    ·rintro s65 L tm st ⟨tm0_s65,A5_s65,c5_s65,n5_s65,A6_s65,c6_s65,n6_s65,rfl,rfl,rfl,rfl⟩ h
     unfold ref09_Origins_l2 at h
     refine cS (cS (cR ?_))
     try dsimp only [lna,lca,lsz,lss]
     refine ox_y rfl (yMI rfl) (ox_y rfl (yFA fo_25_0 rfl) (ox_y rfl (y_load1 0 (v:=.slice A0_0 p0.fNodes.length c0_0) sc_22 rfl rfl rfl) (ox_y rfl (y_len (us:=[]) us_22 rfl) (ox_y rfl (y_lss rfl rfl) ?_))))
     refine oN (eT ?_)
     rcases iOs h with ⟨hp67,h⟩ | ⟨hp67,h⟩
     ·refine cx_true (congrArg Value.bool hp67) ?_
      refine cx_skip (eT (cS (cx_block (cS (cS (cR ?_))))))
      refine ox_y rfl (yFA fo_25_0 rfl) (ox_y rfl (y_load1 0 (v:=.slice A0_0 p0.fNodes.length c0_0) sc_22 rfl rfl rfl) (ox_y rfl (yMI rfl) ?_))
      obtain ⟨hg68,h⟩:=gOs h
      refine ox_y rfl (y_indexR sl_22 (by decide) hg68.1 hg68.2 (RdL.arg hr0_0) (encL_len TNode_cells_len rfl) rfl rfl) ?_
      refine ox_y rfl (y_fieldAddrR (A:=A0_0) (j:=(Int.toNat s65.1 * 3)) fo_97_1 rfl) (ox_y rfl (y_loadR1 (A:=A0_0) (j:=((Int.toNat s65.1 * 3) + 1)) (v:=.int .i64 ((rdL p0.fNodes s65.1).fLevel)) sc_3 (RdL.arg hr0_0) rfl (encL_get TNode_cells_len hg68.1 (lt_nat hg68.2 rfl) rfl)) (ox_y rfl (y_neq rfl rfl) ?_))
      refine oN (eT ?_)
      rcases iOs h with ⟨hp69,h⟩ | ⟨hp69,h⟩
      ·refine cx_true (congrArg Value.bool hp69) (cx_exit (ex_then_exit (ex_block_here ?_)))
       refine eT (cR ?_)
       refine ox_y rfl (yMI rfl) (ox_y rfl (y_add rfl rfl) (ox_y rfl (yAI rfl) (oN ?_)))
       obtain rfl:=Option.some.inj h
       exact ex_next ⟨_,A5_s65,c5_s65,s65.2.1.length,A6_s65,c6_s65,s65.2.2.length,rfl,rfl,rfl,(kp4 (kp4 rfl))⟩
      ·refine cx_false (congrArg Value.bool hp69) ?_
       refine cx_skip (eT (cS ?_))
       obtain ⟨hg71,h⟩:=gOs h
       obtain ⟨y73,hy74,h⟩:=bOs h
       refine cx_drawsG [[],[],[1],[],[1,2,3],[1,2,3,4],[1,2,3,4,5],[1,2,3,4,5,6],[0,1,2,3,4,5,6,7],[0,1,2,3,4,5,6,7,8],[0,1,2,3,4,5,6,7,8,9],[0,1,2,3,4,5,6,7,8,9],[0,1,2,3,4,5,6,7,8,9,10],[0,1,2,3,4,5,6,7,8,9,10,11,12]] [(none,0,[true,true,true,true,true,true,true]),(none,0,[true,true,true,true,true,true,true]),(none,0,[true,true,true,true,true,true,true]),(none,0,[true,true,true,true,true,true,true]),(none,0,[true,true,true,true,true,true,true]),(none,0,[true,true,true,true,true,true,true]),(none,0,[true,true,true,true,true,true,true]),(none,1,[true,true,true,true,true,true,true]),(none,2,[true,true,true,true,true,true,true,true]),(none,0,[true,true,true,true,true,true,true,true,true,true]),(none,0,[true,true,true,true,true,true,true,true,true,true]),(none,0,[true,true,true,true,true,true,true,true,true,true]),(none,0,[true,true,true,true,true,true,true,true,true,true]),(none,0,[true,true,true,true,true,true,true,true,true,true])] [⟨fun _ => .agg #[.slice A0_0 p0.fNodes.length c0_0,.slice A0_1 p0.fClaims.length c0_1],fun _ => noR,fun _ => []⟩,⟨fun _ => .pointer (some ⟨b1,0 + 0,none⟩),fun _ => noR,fun _ => []⟩,⟨fun _ => .slice A0_0 p0.fNodes.length c0_0,fun _ => noR,fun _ => []⟩,⟨fun _ => .int .i64 s65.1,fun _ => noR,fun _ => []⟩,⟨fun _ => slA A0_0 (Int.toNat s65.1 * 3),fun _ => noR,fun _ => []⟩,⟨fun _ => slA A0_0 ((Int.toNat s65.1 * 3) + 0),fun _ => noR,fun _ => []⟩,⟨fun _ => .int .i64 ((rdL p0.fNodes s65.1).fID),fun _ => noR,fun _ => []⟩,⟨fun ξ70 => .slice (some ⟨(ξ70 7 0).2.1,0,none⟩) 1 1,fun _ => noR,fun ξ70 => [rowR (some ⟨(ξ70 7 0).2.1,0,none⟩) 1 3 1 1 (encL cI [(rdL p0.fNodes s65.1).fID])]⟩,⟨fun ξ70 => .tuple #[.slice (ξ70 8 0).1 y73.1.length (ξ70 8 0).2.2,.slice (ξ70 8 1).1 y73.2.length (ξ70 8 1).2.2],fun _ => noR,fun ξ70 => [rowR (ξ70 8 0).1 (ξ70 8 0).2.2 4 1 y73.1.length (encL cB y73.1),rowR (ξ70 8 1).1 (ξ70 8 1).2.2 4 1 y73.2.length (encL cB y73.2)]⟩,⟨fun ξ70 => .tuple #[.slice (ξ70 8 0).1 y73.1.length (ξ70 8 0).2.2,.slice (ξ70 8 1).1 y73.2.length (ξ70 8 1).2.2],fun _ => noR,fun _ => []⟩,⟨fun ξ70 => .slice (ξ70 8 0).1 y73.1.length (ξ70 8 0).2.2,fun _ => noR,fun _ => []⟩,⟨fun ξ70 => .slice (ξ70 8 1).1 y73.2.length (ξ70 8 1).2.2,fun _ => noR,fun _ => []⟩,⟨fun ξ70 => .slice (ξ70 8 0).1 y73.1.length (ξ70 8 0).2.2,fun _ => noR,fun _ => []⟩,⟨fun ξ70 => .slice (ξ70 8 1).1 y73.2.length (ξ70 8 1).2.2,fun _ => noR,fun _ => []⟩] 7 mixed (by kernel_rfl) (by kernel_rfl) ⟨⟨fun ξ70 ξ70' h => ⟨rfl,rfl,rfl⟩,fun _ => rfl⟩,⟨fun ξ70 ξ70' h => ⟨rfl,rfl,rfl⟩,fun _ => rfl⟩,⟨fun ξ70 ξ70' h => ⟨rfl,rfl,rfl⟩,fun _ => rfl⟩,⟨fun ξ70 ξ70' h => ⟨rfl,rfl,rfl⟩,fun _ => rfl⟩,⟨fun ξ70 ξ70' h => ⟨rfl,rfl,rfl⟩,fun _ => rfl⟩,⟨fun ξ70 ξ70' h => ⟨rfl,rfl,rfl⟩,fun _ => rfl⟩,⟨fun ξ70 ξ70' h => ⟨rfl,rfl,rfl⟩,fun _ => rfl⟩,⟨fun ξ70 ξ70' h => ⟨by simp only [h 7 (.inl rfl)],rfl,by simp only [h 7 (.inl rfl)]⟩,fun _ => rfl⟩,⟨fun ξ70 ξ70' h => ⟨by simp only [h 8 (.inl rfl)],rfl,by simp only [h 8 (.inl rfl)]⟩,fun _ => rfl⟩,⟨fun ξ70 ξ70' h => ⟨by simp only [h 8 (.inr rfl)],rfl,rfl⟩,fun _ => rfl⟩,⟨fun ξ70 ξ70' h => ⟨by simp only [h 8 (.inr rfl)],rfl,rfl⟩,fun _ => rfl⟩,⟨fun ξ70 ξ70' h => ⟨by simp only [h 8 (.inr rfl)],rfl,rfl⟩,fun _ => rfl⟩,⟨fun ξ70 ξ70' h => ⟨by simp only [h 8 (.inr rfl)],rfl,rfl⟩,fun _ => rfl⟩,⟨fun ξ70 ξ70' h => ⟨by simp only [h 8 (.inr rfl)],rfl,rfl⟩,fun _ => rfl⟩,trivial⟩ rfl (fun ξ70 => ?_)
       refine gx_o rfl (fun L2 => ?_) ?_
       ·dsimp only [maskL,lca,lna]
        refine ox_y rfl (y_loadN 0 [.slice A0_0 p0.fNodes.length c0_0,.slice A0_1 p0.fClaims.length c0_1] ag_25 rfl rfl rfl) (oN ?_)
        exact ex_capG (fun _ => (none,0,0)) rfl (List.append_nil _)
       dsimp only [aftL,lsz,lss,lna,lca,List.append_nil]
       refine gx_o rfl (fun L2 => ?_) ?_
       ·dsimp only [maskL,lca,lna]
        refine ox_y rfl (yFA fo_25_0 rfl) (oN ?_)
        exact ex_capG (fun _ => (none,0,0)) rfl (List.append_nil _)
       dsimp only [aftL,lsz,lss,lna,lca,List.append_nil]
       refine gx_o rfl (fun L2 => ?_) ?_
       ·dsimp only [maskL,lca,lna]
        refine ox_y rfl (y_load1 0 (v:=.slice A0_0 p0.fNodes.length c0_0) sc_22 rfl rfl rfl) (oN ?_)
        exact ex_capG (fun _ => (none,0,0)) rfl (List.append_nil _)
       dsimp only [aftL,lsz,lss,lna,lca,List.append_nil]
       refine gx_o rfl (fun L2 => ?_) ?_
       ·dsimp only [maskL,lca,lna]
        refine ox_y rfl (yMI rfl) (oN ?_)
        exact ex_capG (fun _ => (none,0,0)) rfl (List.append_nil _)
       dsimp only [aftL,lsz,lss,lna,lca,List.append_nil]
       refine gx_o rfl (fun L2 => ?_) ?_
       ·dsimp only [maskL,lca,lna]
        refine ox_y rfl (y_indexR sl_22 (by decide) hg71.1 hg71.2 (RdL.arg hr0_0) (encL_len TNode_cells_len rfl) rfl rfl) ?_
        refine oN ?_
        exact ex_capG (fun _ => (none,0,0)) rfl (List.append_nil _)
       dsimp only [aftL,lsz,lss,lna,lca,List.append_nil]
       refine gx_o rfl (fun L2 => ?_) ?_
       ·dsimp only [maskL,lca,lna]
        refine ox_y rfl (y_fieldAddrR (A:=A0_0) (j:=(Int.toNat s65.1 * 3)) fo_97_0 rfl) (oN ?_)
        exact ex_capG (fun _ => (none,0,0)) rfl (List.append_nil _)
       dsimp only [aftL,lsz,lss,lna,lca,List.append_nil]
       refine gx_o rfl (fun L2 => ?_) ?_
       ·dsimp only [maskL,lca,lna]
        refine ox_y rfl (y_loadR1 (A:=A0_0) (j:=((Int.toNat s65.1 * 3) + 0)) (v:=.int .i64 ((rdL p0.fNodes s65.1).fID)) sc_3 (RdL.arg hr0_0) rfl (encL_get TNode_cells_len hg71.1 (lt_nat hg71.2 rfl) rfl)) (oN ?_)
        exact ex_capG (fun _ => (none,0,0)) rfl (List.append_nil _)
       dsimp only [aftL,lsz,lss,lna,lca,List.append_nil]
       refine gx_o rfl (fun L2 => ?_) ?_
       ·dsimp only [maskL,lca,lna]
        refine ox_buildSliceE 1 (encL cI [(rdL p0.fNodes s65.1).fID]) _ mc_3_1 us_26 ze_3 by_3 (by decide) (by decide) (by kernel_rfl) (encL_len cI_len rfl) rfl (fun b72 => ?_)
        refine oN ?_
        exact ex_capG (fun _ => (none,b72,0)) rfl rfl
       dsimp only [aftL,lsz,lss,lna,lca,List.append_nil]
       refine gx_o rfl (fun L2 => ?_) ?_
       ·dsimp only [maskL,lca,lna]
        refine ox_call [.agg #[.slice A0_0 p0.fNodes.length c0_0,.slice A0_1 p0.fClaims.length c0_1],.slice (some ⟨(ξ70 7 0).2.1,0,none⟩) 1 1] _ _ _ rfl go_68 rfl (fun W2 hW2 => ref09_both_ok p0 [(rdL p0.fNodes s65.1).fID] y73 hy74 W2 A0_0 p0.fNodes.length c0_0 rfl ((RdL.arg hr0_0) W2 hW2) A0_1 p0.fClaims.length c0_1 ys0_1 rfl ((RdL.arg hr0_1) W2 hW2) (NestL.at (NestL.arg hN0_1) W2 hW2) (some ⟨(ξ70 7 0).2.1,0,none⟩) 1 1 rfl ((RdL.row 7 rfl) W2 hW2)) ?_
        rintro ⟨⟨A75,n79,c76⟩,⟨A77,n81,c78⟩⟩ ⟨hn80,hn82⟩
        replace hn80 : n79 = y73.1.length:=hn80; subst hn80
        replace hn82 : n81 = y73.2.length:=hn82; subst hn82
        refine oN ?_
        exact ex_capG (fun q => if q = 0 then (A75,0,c76) else (A77,0,c78)) rfl rfl
       dsimp only [aftL,lsz,lss,lna,lca,List.append_nil]
       refine gx_o rfl (fun L2 => ?_) ?_
       ·dsimp only [maskL,lca,lna]
        refine ox_y rfl (y_move_tuple rfl) (oN ?_)
        exact ex_capG (fun _ => (none,0,0)) rfl (List.append_nil _)
       dsimp only [aftL,lsz,lss,lna,lca,List.append_nil]
       refine gx_o rfl (fun L2 => ?_) ?_
       ·dsimp only [maskL,lca,lna]
        refine ox_y rfl (y_extract (vs:=[.slice (ξ70 8 0).1 y73.1.length (ξ70 8 0).2.2,.slice (ξ70 8 1).1 y73.2.length (ξ70 8 1).2.2]) (v:=.slice (ξ70 8 0).1 y73.1.length (ξ70 8 0).2.2) rfl rfl) (oN ?_)
        exact ex_capG (fun _ => (none,0,0)) rfl (List.append_nil _)
       dsimp only [aftL,lsz,lss,lna,lca,List.append_nil]
       refine gx_o rfl (fun L2 => ?_) ?_
       ·dsimp only [maskL,lca,lna]
        refine ox_y rfl (y_extract (vs:=[.slice (ξ70 8 0).1 y73.1.length (ξ70 8 0).2.2,.slice (ξ70 8 1).1 y73.2.length (ξ70 8 1).2.2]) (v:=.slice (ξ70 8 1).1 y73.2.length (ξ70 8 1).2.2) rfl rfl) (oN ?_)
        exact ex_capG (fun _ => (none,0,0)) rfl (List.append_nil _)
       dsimp only [aftL,lsz,lss,lna,lca,List.append_nil]
       refine gx_o rfl (fun L2 => ?_) ?_
       ·dsimp only [maskL,lca,lna]
        refine ox_y rfl (yAS rfl) (oN ?_)
        exact ex_capG (fun _ => (none,0,0)) rfl (List.append_nil _)
       dsimp only [aftL,lsz,lss,lna,lca,List.append_nil]
       refine gx_o rfl (fun L2 => ?_) ?_
       ·dsimp only [maskL,lca,lna]
        refine ox_y rfl (yAS rfl) (oN ?_)
        exact ex_capG (fun _ => (none,0,0)) rfl (List.append_nil _)
       dsimp only [aftL,lsz,lss,lna,lca,List.append_nil]
       refine gx_nil ?_
       refine eT (cS (cR ?_))
       try dsimp only [lna,lca,lsz,lss]
       refine ox_y rfl (y_loadN 0 [.slice A0_0 p0.fNodes.length c0_0,.slice A0_1 p0.fClaims.length c0_1] ag_25 rfl rfl rfl) (ox_y rfl (yMI rfl) ?_)
       obtain ⟨y83,hy84,h⟩:=bOs h
       refine ox_y rfl (y_call [.agg #[.slice A0_0 p0.fNodes.length c0_0,.slice A0_1 p0.fClaims.length c0_1],.int .i64 p1] go_67 rfl (fun W2 hW2 => ref09_Node_ok p0 p1 y83 hy84 W2 A0_0 p0.fNodes.length c0_0 rfl ((RdL.arg hr0_0) W2 hW2) A0_1 p0.fClaims.length c0_1 ys0_1 rfl ((RdL.arg hr0_1) W2 hW2) (NestL.at (NestL.arg hN0_1) W2 hW2)) rfl) (ox_y rfl (yAI rfl) ?_)
       refine oN (eT (cS (cS (cR ?_))))
       refine ox_y rfl (yMS rfl) (ox_y rfl (yMI rfl) ?_)
       obtain ⟨hg85,h⟩:=gOs h
       refine ox_y rfl (y_indexR sl_98 (by decide) hg85.1 hg85.2 (RdL.row 8 rfl) (encL_len cB_len rfl) rfl rfl) ?_
       refine ox_y rfl (y_loadR1 (A:=(ξ70 8 0).1) (j:=(Int.toNat y83 * 1)) (v:=.bool (rdL y73.1 y83)) sc_4 (RdL.row 8 rfl) rfl (encL_get0 cB_len hg85.1 (lt_nat hg85.2 rfl) rfl)) ?_
       refine oN (eT ?_)
       rcases iOs h with ⟨hp86,h⟩ | ⟨hp86,h⟩
       ·refine cx_true (congrArg Value.bool hp86) ?_
        refine cx_draws 8 mixed (by kernel_rfl) (by kernel_rfl) ?_
        refine qx_y rfl (yFA fo_33_0 rfl) (qx_y rfl (y_load1 2 (v:=.slice A5_s65 s65.2.1.length c5_s65) sc_26 rfl rfl rfl) (qx_y rfl (yFA fo_25_0 rfl) (qx_y rfl (y_load1 0 (v:=.slice A0_0 p0.fNodes.length c0_0) sc_22 rfl rfl rfl) (qx_y rfl (yMI rfl) ?_))))
        obtain ⟨hg87,h⟩:=gOs h
        refine qx_y rfl (y_indexR sl_22 (by decide) hg87.1 hg87.2 (RdL.arg hr0_0) (encL_len TNode_cells_len rfl) rfl rfl) ?_
        refine qx_y rfl (y_fieldAddrR (A:=A0_0) (j:=(Int.toNat s65.1 * 3)) fo_97_0 rfl) (qx_y rfl (y_loadR1 (A:=A0_0) (j:=((Int.toNat s65.1 * 3) + 0)) (v:=.int .i64 ((rdL p0.fNodes s65.1).fID)) sc_3 (RdL.arg hr0_0) rfl (encL_get TNode_cells_len hg87.1 (lt_nat hg87.2 rfl) rfl)) (qx_nil ?_))
        obtain ⟨y88,hy89,h⟩:=bOs h
        refine ox_call [.slice A5_s65 s65.2.1.length c5_s65,.int .i64 ((rdL p0.fNodes s65.1).fID)] _ _ _ rfl go_69 rfl (fun W2 hW2 => ref09_put_ok s65.2.1 ((rdL p0.fNodes s65.1).fID) y88 hy89 W2 A5_s65 s65.2.1.length c5_s65 rfl ((RdL.row 5 rfl) W2 hW2)) ?_
        rintro ⟨A90,n92,c91⟩ hn93
        replace hn93 : n92 = y88.length:=hn93; subst hn93
        try dsimp only [lna,lca,lsz,lss]
        refine ox_y rfl (yFA fo_33_0 rfl) (ox_n rfl (y_store1 2 (v:=.slice A90 y88.length c91) sz_26 rfl (Nat.lt_of_lt_of_le (Nat.lt_succ_self _) (Nat.le_of_ble_eq_true rfl)) rfl rfl rfl) ?_)
        refine oN (eT (cS (cR ?_)))
        refine ox_y rfl (yMS rfl) (ox_y rfl (yMI rfl) ?_)
        obtain ⟨hg94,h⟩:=gOs h
        refine ox_y rfl (y_indexR sl_98 (by decide) hg94.1 hg94.2 (RdL.row 9 rfl) (encL_len cB_len rfl) rfl rfl) ?_
        refine ox_y rfl (y_loadR1 (A:=(ξ70 8 1).1) (j:=(Int.toNat y83 * 1)) (v:=.bool (rdL y73.2 y83)) sc_4 (RdL.row 9 rfl) rfl (encL_get0 cB_len hg94.1 (lt_nat hg94.2 rfl) rfl)) ?_
        refine oN (eT ?_)
        rcases iOs h with ⟨hp95,h⟩ | ⟨hp95,h⟩
        ·refine cx_true (congrArg Value.bool hp95) ?_
         refine cx_draws 8 mixed (by kernel_rfl) (by kernel_rfl) ?_
         refine qx_y rfl (yFA fo_33_1 rfl) (qx_y rfl (y_load1 2 (v:=.slice A6_s65 s65.2.2.length c6_s65) sc_26 rfl rfl rfl) (qx_y rfl (yFA fo_25_0 rfl) (qx_y rfl (y_load1 0 (v:=.slice A0_0 p0.fNodes.length c0_0) sc_22 rfl rfl rfl) (qx_y rfl (yMI rfl) ?_))))
         obtain ⟨hg96,h⟩:=gOs h
         refine qx_y rfl (y_indexR sl_22 (by decide) hg96.1 hg96.2 (RdL.arg hr0_0) (encL_len TNode_cells_len rfl) rfl rfl) ?_
         refine qx_y rfl (y_fieldAddrR (A:=A0_0) (j:=(Int.toNat s65.1 * 3)) fo_97_0 rfl) (qx_y rfl (y_loadR1 (A:=A0_0) (j:=((Int.toNat s65.1 * 3) + 0)) (v:=.int .i64 ((rdL p0.fNodes s65.1).fID)) sc_3 (RdL.arg hr0_0) rfl (encL_get TNode_cells_len hg96.1 (lt_nat hg96.2 rfl) rfl)) (qx_nil ?_))
         obtain ⟨y97,hy98,h⟩:=bOs h
         refine ox_call [.slice A6_s65 s65.2.2.length c6_s65,.int .i64 ((rdL p0.fNodes s65.1).fID)] _ _ _ rfl go_69 rfl (fun W2 hW2 => ref09_put_ok s65.2.2 ((rdL p0.fNodes s65.1).fID) y97 hy98 W2 A6_s65 s65.2.2.length c6_s65 rfl ((RdL.row 6 rfl) W2 hW2)) ?_
         rintro ⟨A99,n101,c100⟩ hn102
         replace hn102 : n101 = y97.length:=hn102; subst hn102
         try dsimp only [lna,lca,lsz,lss]
         refine ox_y rfl (yFA fo_33_1 rfl) (ox_n rfl (y_store1 2 (v:=.slice A99 y97.length c100) sz_26 rfl (Nat.lt_of_lt_of_le (Nat.lt_succ_self _) (Nat.le_of_ble_eq_true rfl)) rfl rfl rfl) (oN (ex_block ?_)))
         refine eT (cR ?_)
         refine ox_y rfl (yMI rfl) (ox_y rfl (y_add rfl rfl) (ox_y rfl (yAI rfl) (oN ?_)))
         refine ex_mv 5 10 (by decide) rfl ?_
         try dsimp only [lsz,lss]
         refine ex_mv 6 11 (by decide) rfl ?_
         try dsimp only [lsz,lss]
         refine ex_take 7 ?_
         obtain rfl:=Option.some.inj h
         exact ex_next ⟨_,A90,c91,y88.length,A99,c100,y97.length,rfl,rfl,rfl,(kp4 (kp4 rfl))⟩
        ·refine cx_false (congrArg Value.bool hp95) (cx_skip (ex_block ?_))
         refine eT (cR ?_)
         refine ox_y rfl (yMI rfl) (ox_y rfl (y_add rfl rfl) (ox_y rfl (yAI rfl) (oN ?_)))
         refine ex_mv 5 10 (by decide) rfl ?_
         try dsimp only [lsz,lss]
         refine ex_take 7 ?_
         obtain rfl:=Option.some.inj h
         exact ex_next ⟨_,A90,c91,y88.length,A6_s65,c6_s65,s65.2.2.length,rfl,rfl,rfl,(kp4 (kp4 rfl))⟩
       ·refine cx_false (congrArg Value.bool hp86) ?_
        refine cx_skip (eT (cS (cR ?_)))
        refine ox_y rfl (yMS rfl) (ox_y rfl (yMI rfl) ?_)
        obtain ⟨hg103,h⟩:=gOs h
        refine ox_y rfl (y_indexR sl_98 (by decide) hg103.1 hg103.2 (RdL.row 9 rfl) (encL_len cB_len rfl) rfl rfl) ?_
        refine ox_y rfl (y_loadR1 (A:=(ξ70 8 1).1) (j:=(Int.toNat y83 * 1)) (v:=.bool (rdL y73.2 y83)) sc_4 (RdL.row 9 rfl) rfl (encL_get0 cB_len hg103.1 (lt_nat hg103.2 rfl) rfl)) ?_
        refine oN (eT ?_)
        rcases iOs h with ⟨hp104,h⟩ | ⟨hp104,h⟩
        ·refine cx_true (congrArg Value.bool hp104) ?_
         refine cx_draws 8 mixed (by kernel_rfl) (by kernel_rfl) ?_
         refine qx_y rfl (yFA fo_33_1 rfl) (qx_y rfl (y_load1 2 (v:=.slice A6_s65 s65.2.2.length c6_s65) sc_26 rfl rfl rfl) (qx_y rfl (yFA fo_25_0 rfl) (qx_y rfl (y_load1 0 (v:=.slice A0_0 p0.fNodes.length c0_0) sc_22 rfl rfl rfl) (qx_y rfl (yMI rfl) ?_))))
         obtain ⟨hg105,h⟩:=gOs h
         refine qx_y rfl (y_indexR sl_22 (by decide) hg105.1 hg105.2 (RdL.arg hr0_0) (encL_len TNode_cells_len rfl) rfl rfl) ?_
         refine qx_y rfl (y_fieldAddrR (A:=A0_0) (j:=(Int.toNat s65.1 * 3)) fo_97_0 rfl) (qx_y rfl (y_loadR1 (A:=A0_0) (j:=((Int.toNat s65.1 * 3) + 0)) (v:=.int .i64 ((rdL p0.fNodes s65.1).fID)) sc_3 (RdL.arg hr0_0) rfl (encL_get TNode_cells_len hg105.1 (lt_nat hg105.2 rfl) rfl)) (qx_nil ?_))
         obtain ⟨y106,hy107,h⟩:=bOs h
         refine ox_call [.slice A6_s65 s65.2.2.length c6_s65,.int .i64 ((rdL p0.fNodes s65.1).fID)] _ _ _ rfl go_69 rfl (fun W2 hW2 => ref09_put_ok s65.2.2 ((rdL p0.fNodes s65.1).fID) y106 hy107 W2 A6_s65 s65.2.2.length c6_s65 rfl ((RdL.row 6 rfl) W2 hW2)) ?_
         rintro ⟨A108,n110,c109⟩ hn111
         replace hn111 : n110 = y106.length:=hn111; subst hn111
         try dsimp only [lna,lca,lsz,lss]
         refine ox_y rfl (yFA fo_33_1 rfl) (ox_n rfl (y_store1 2 (v:=.slice A108 y106.length c109) sz_26 rfl (Nat.lt_of_lt_of_le (Nat.lt_succ_self _) (Nat.le_of_ble_eq_true rfl)) rfl rfl rfl) (oN (ex_block ?_)))
         refine eT (cR ?_)
         refine ox_y rfl (yMI rfl) (ox_y rfl (y_add rfl rfl) (ox_y rfl (yAI rfl) (oN ?_)))
         refine ex_mv 6 10 (by decide) rfl ?_
         try dsimp only [lsz,lss]
         refine ex_take 7 ?_
         obtain rfl:=Option.some.inj h
         exact ex_next ⟨_,A5_s65,c5_s65,s65.2.1.length,A108,c109,y106.length,rfl,rfl,rfl,(kp4 (kp4 rfl))⟩
        ·refine cx_false (congrArg Value.bool hp104) (cx_skip (ex_block ?_))
         refine eT (cR ?_)
         refine ox_y rfl (yMI rfl) (ox_y rfl (y_add rfl rfl) (ox_y rfl (yAI rfl) (oN (ex_take 7 ?_))))
         obtain rfl:=Option.some.inj h
         exact ex_next ⟨_,A5_s65,c5_s65,s65.2.1.length,A6_s65,c6_s65,s65.2.2.length,rfl,rfl,rfl,(kp4 (kp4 rfl))⟩
     ·refine cx_false (congrArg Value.bool hp67) (cx_exit (ex_then_exit ?_))
      obtain rfl:=Option.some.inj h
      exact ex_stop ⟨rfl,_,A5_s65,c5_s65,s65.2.1.length,A6_s65,c6_s65,s65.2.2.length,rfl,rfl,rfl,(kp4 (kp4 rfl))⟩
    ·intro e L tm hJ
     obtain ⟨rfl,tm0_u66,A5_u66,c5_u66,n5_u66,A6_u66,c6_u66,n6_u66,rfl,rfl,rfl,rfl⟩:=hJ
     refine ⟨(by intro hc; cases hc),?_⟩
     refine ex_block_here ?_
     refine eT (cS (cR ?_))
     try dsimp only [lna,lca,lsz,lss]
     refine ox_y rfl (y_loadN 2 [.slice A5_u66 u66.2.1.length c5_u66,.slice A6_u66 u66.2.2.length c6_u66,.int .i64 0] ag_33 rfl rfl rfl) (ox_n rfl (y_storeN 1 [.slice A5_u66 u66.2.1.length c5_u66,.slice A6_u66 u66.2.2.length c6_u66,.int .i64 0] sz_33 rfl (Nat.le_of_ble_eq_true rfl) rfl rfl rfl) ?_)
     refine oN (eT (cx_ret ?_))
     obtain rfl:=Option.some.inj h
     exact ex_res1 (.inl rfl) rfl (resV_cellN 1 [.slice A5_u66 u66.2.1.length c5_u66,.slice A6_u66 u66.2.2.length c6_u66,.int .i64 0] ag_33 rfl rfl rfl) (fun W2 hW2 => ⟨((A5_u66,u66.2.1.length,c5_u66),(A6_u66,u66.2.2.length,c6_u66)),⟨rfl,rfl⟩,rfl,hW2.pickL [5,6] (by decide) rfl⟩)
 ·clear h; rcases iOs hb7 with ⟨hp5,h⟩ | ⟨hp5,h⟩
  ·refine ox_y (sT rfl rfl rfl rfl hp5) (y_loadN 0 [.slice A0_0 p0.fNodes.length c0_0,.slice A0_1 p0.fClaims.length c0_1] ag_25 rfl rfl rfl) (ox_y (sT rfl rfl rfl rfl hp5) (yMI rfl) ?_)
   obtain ⟨y113,hy114,h⟩:=bOs h
   refine ox_y (sT rfl rfl rfl rfl hp5) (y_call [.agg #[.slice A0_0 p0.fNodes.length c0_0,.slice A0_1 p0.fClaims.length c0_1],.int .i64 p1] go_67 rfl (fun W2 hW2 => ref09_Node_ok p0 p1 y113 hy114 W2 A0_0 p0.fNodes.length c0_0 rfl ((RdL.arg hr0_0) W2 hW2) A0_1 p0.fClaims.length c0_1 ys0_1 rfl ((RdL.arg hr0_1) W2 hW2) (NestL.at (NestL.arg hN0_1) W2 hW2)) rfl) (ox_y (sT rfl rfl rfl rfl hp5) (y_lss rfl rfl) (ox_y rfl (y_pick_tb (congrArg Value.bool hp5) rfl) ?_))
   obtain rfl:=Option.some.inj h
   exact key _ _ (kp4 (kp rfl))
  ·refine oSk (sF rfl rfl rfl rfl hp5) (oSk (sF rfl rfl rfl rfl hp5) (oSk (sF rfl rfl rfl rfl hp5) (oSk (sF rfl rfl rfl rfl hp5) (ox_y rfl (y_pick_fb (congrArg Value.bool hp5) rfl) ?_))))
   obtain rfl:=Option.some.inj h
   exact key _ _ (kp4 (kp rfl))
theorem ref09_Recall_ok (p0:TLineage) (p1:(List Int)) (p2:Bool) (res:TBill) (h:ref09_Recall p0 p1 p2 = some res) (W:World) (A0_0:Option Addr) (n0_0 c0_0 : Nat) (hn0_0:n0_0 = p0.fNodes.length) (hr0_0:Rd W A0_0 n0_0 c0_0 (encL TNode_cells p0.fNodes)) (A0_1:Option Addr) (n0_1 c0_1 : Nat) (ys0_1:List (Hd × TClaim)) (hn0_1:n0_1 = p0.fClaims.length) (hr0_1:Rd W A0_1 n0_1 c0_1 (encL TClaim_cells2 ys0_1)) (hN0_1:NestW W (fun z : TClaim => z.fOptions) THop_cells ys0_1 p0.fClaims) (A1_0:Option Addr) (n1_0 c1_0 : Nat) (hn1_0:n1_0 = p1.length) (hr1_0:Rd W A1_0 n1_0 c1_0 (encL cI p1)) :
  Calls Tryz.prog 18 [.agg #[.slice A0_0 n0_0 c0_0,.slice A0_1 n0_1 c0_1],.slice A1_0 n1_0 c1_0,.bool p2].toArray W fun e W2 => ∃ x : Option Addr × Nat × Nat,x.2.1 = res.fL.length ∧ e = .returned (.agg #[.slice x.1 x.2.1 x.2.2,.int .i64 res.fN,.int .i64 res.fE]) ∧ Ext W W2 [rowR x.1 x.2.2 3 1 x.2.1 (encL cI res.fL)]:=by
 subst hn0_0
 subst hn0_1
 subst hn1_0
 unfold ref09_Recall at h
 refine calls_enter (m:=59) Tryz.func18 rfl rfl (Nat.le_of_ble_eq_true rfl) ?_
 refine cS (cR ?_)
 refine ox_box [.slice A0_0 p0.fNodes.length c0_0,.slice A0_1 p0.fClaims.length c0_1] rfl rfl rfl (fun b1 => ?_)
 refine ox_alloc ze_38 rfl (fun b2 => ?_)
 refine oN (eT (cS (cR ?_)))
 refine ox_y rfl (y_loadN 0 [.slice A0_0 p0.fNodes.length c0_0,.slice A0_1 p0.fClaims.length c0_1] ag_25 rfl rfl rfl) (ox_y rfl (yMS rfl) ?_)
 obtain ⟨y3,hy4,h⟩:=bOs h
 refine ox_y rfl (y_call [.agg #[.slice A0_0 p0.fNodes.length c0_0,.slice A0_1 p0.fClaims.length c0_1],.slice A1_0 p1.length c1_0] go_72 rfl (fun W2 hW2 => ref09_From_ok p0 p1 y3 hy4 W2 A0_0 p0.fNodes.length c0_0 rfl ((RdL.arg hr0_0) W2 hW2) A0_1 p0.fClaims.length c0_1 ys0_1 rfl ((RdL.arg hr0_1) W2 hW2) (NestL.at (NestL.arg hN0_1) W2 hW2) A1_0 p1.length c1_0 rfl ((RdL.arg hr1_0) W2 hW2)) rfl) (ox_y rfl (yAI rfl) ?_)
 refine oN (eT (cS (cS (cR ?_))))
 refine ox_y rfl (yMI rfl) (ox_y rfl (y_neq rfl rfl) ?_)
 refine oN (eT ?_)
 rcases iOs h with ⟨hp5,h⟩ | ⟨hp5,h⟩
 ·refine cx_true (congrArg Value.bool hp5) ?_
  refine cS (cR ?_)
  refine ox_y rfl (yMI rfl) ?_
  refine ox_y rfl (y_buildS [.slice none 0 0,.int .i64 0,.int .i64 y3] [(0,1),(1,1),(2,1)] ust_38 ze_38 (by kernel_rfl)) ?_
  refine ox_n rfl (y_storeN 1 [.slice none 0 0,.int .i64 0,.int .i64 y3] sz_38 rfl (Nat.le_of_ble_eq_true rfl) rfl rfl rfl) ?_
  refine oN (eT (cx_ret (ex_then_ret ?_)))
  obtain rfl:=Option.some.inj h
  exact ex_res1 (.inl rfl) rfl (resV_cellN 1 [.slice none 0 0,.int .i64 0,.int .i64 y3] ag_38 rfl rfl rfl) (fun W2 hW2 => ⟨(none,0,0),rfl,rfl,((hW2.nilrow 3 1).pick 2 rfl)⟩)
 ·refine cx_false (congrArg Value.bool hp5) ?_
  refine cx_skip (eT (cS (cR ?_)))
  refine ox_y rfl (y_loadN 0 [.slice A0_0 p0.fNodes.length c0_0,.slice A0_1 p0.fClaims.length c0_1] ag_25 rfl rfl rfl) (ox_y rfl (yMS rfl) ?_)
  obtain ⟨y6,hy7,h⟩:=bOs h
  refine ox_call [.agg #[.slice A0_0 p0.fNodes.length c0_0,.slice A0_1 p0.fClaims.length c0_1],.slice A1_0 p1.length c1_0] _ _ _ rfl go_68 rfl (fun W2 hW2 => ref09_both_ok p0 p1 y6 hy7 W2 A0_0 p0.fNodes.length c0_0 rfl ((RdL.arg hr0_0) W2 hW2) A0_1 p0.fClaims.length c0_1 ys0_1 rfl ((RdL.arg hr0_1) W2 hW2) (NestL.at (NestL.arg hN0_1) W2 hW2) A1_0 p1.length c1_0 rfl ((RdL.arg hr1_0) W2 hW2)) ?_
  rintro ⟨⟨A8,n12,c9⟩,⟨A10,n14,c11⟩⟩ ⟨hn13,hn15⟩
  replace hn13 : n12 = y6.1.length:=hn13; subst hn13
  replace hn15 : n14 = y6.2.length:=hn15; subst hn15
  refine ox_y rfl (y_move_tuple rfl) (ox_y rfl (y_extract (vs:=[.slice A8 y6.1.length c9,.slice A10 y6.2.length c11]) (v:=.slice A8 y6.1.length c9) rfl rfl) (ox_y rfl (y_extract (vs:=[.slice A8 y6.1.length c9,.slice A10 y6.2.length c11]) (v:=.slice A10 y6.2.length c11) rfl rfl) (ox_y rfl (yAS rfl) (ox_y rfl (yAS rfl) ?_))))
  refine oN (eT (cS (cS (cR ?_))))
  refine ox_y rfl (y_move_bool rfl) ?_
  refine oN (eT ?_)
  rcases iOs h with ⟨hp16,h⟩ | ⟨hp16,h⟩
  ·refine cx_true (congrArg Value.bool hp16) (cR (ox_y rfl (yMS rfl) (ox_y rfl (yAS rfl) ?_)))
   refine oN (eT (cS (cR ?_)))
   refine ox_y rfl (yAS rfl) ?_
   refine oN (eT (cS (cS (cR ?_))))
   refine ox_y rfl (yAI rfl) ?_
   refine oN (eT (cx_block ?_))
   obtain ⟨u20,hl35,h⟩:=bOs h
   refine cx_nilrow 3 1 ?_
   refine cx_loop (fun (s:(Int × (List Int))) L tm => ∃ (tm0:Nat → Value) (A4_s:Option Addr) (c4_s:Nat) (n4_s:Nat),n4_s = s.2.length ∧ L = [cellsR b1 25 [.slice A0_0 p0.fNodes.length c0_0,.slice A0_1 p0.fClaims.length c0_1],cellsR b2 38 [.slice none 0 0,.int .i64 0,.int .i64 0],rowR A8 c9 4 1 y6.1.length (encL cB y6.1),rowR A10 c11 4 1 y6.2.length (encL cB y6.2),rowR A4_s c4_s 3 1 n4_s (encL cI s.2)] ∧ tm = (upd (upd (upd (upd (upd (upd (upd (upd (upd (upd (upd (upd tm0 0 (.agg #[.slice A0_0 p0.fNodes.length c0_0,.slice A0_1 p0.fClaims.length c0_1])) 1 (.slice A1_0 p1.length c1_0)) 2 (.bool p2)) 3 (.pointer (some ⟨b1,0,none⟩))) 6 (.pointer (some ⟨b2,0,none⟩))) 7 (.int .i64 y3)) 16 (.bool (y3 != 0))) 8 (.slice A8 y6.1.length c9)) 9 (.slice A8 y6.1.length c9)) 25 (.bool p2)) 10 (.slice A4_s n4_s c4_s)) 11 (.int .i64 s.1))) (fun s e L tm => e = .exit 0 ∧ ∃ (tm0:Nat → Value) (A4_s:Option Addr) (c4_s:Nat) (n4_s:Nat),n4_s = s.2.length ∧ L = [cellsR b1 25 [.slice A0_0 p0.fNodes.length c0_0,.slice A0_1 p0.fClaims.length c0_1],cellsR b2 38 [.slice none 0 0,.int .i64 0,.int .i64 0],rowR A8 c9 4 1 y6.1.length (encL cB y6.1),rowR A10 c11 4 1 y6.2.length (encL cB y6.2),rowR A4_s c4_s 3 1 n4_s (encL cI s.2)] ∧ tm = (upd (upd (upd (upd (upd (upd (upd (upd (upd (upd (upd (upd tm0 0 (.agg #[.slice A0_0 p0.fNodes.length c0_0,.slice A0_1 p0.fClaims.length c0_1])) 1 (.slice A1_0 p1.length c1_0)) 2 (.bool p2)) 3 (.pointer (some ⟨b1,0,none⟩))) 6 (.pointer (some ⟨b2,0,none⟩))) 7 (.int .i64 y3)) 16 (.bool (y3 != 0))) 8 (.slice A8 y6.1.length c9)) 9 (.slice A8 y6.1.length c9)) 25 (.bool p2)) 10 (.slice A4_s n4_s c4_s)) 11 (.int .i64 s.1))) hl35 ⟨_,none,0,0,rfl,rfl,(kp4 (kp4 (kp4 rfl)))⟩ ?_ ?_
   ·rintro s19 L tm st ⟨tm0_s19,A4_s19,c4_s19,n4_s19,rfl,rfl,rfl⟩ h
    unfold ref09_Recall_l1 at h
    refine cS (cS (cR ?_))
    refine ox_y rfl (yMI rfl) (ox_y rfl (yMS rfl) (ox_y rfl (y_len (us:=[]) us_98 rfl) (ox_y rfl (y_lss rfl rfl) ?_)))
    refine oN (eT ?_)
    rcases iOs h with ⟨hp21,h⟩ | ⟨hp21,h⟩
    ·refine cx_true (congrArg Value.bool hp21) ?_
     refine cx_skip (eT (cS (cx_block (cS (cR ?_)))))
     refine ox_y rfl (yMS rfl) (ox_y rfl (yMI rfl) ?_)
     obtain ⟨hg22,h⟩:=gOs h
     refine ox_y rfl (y_indexR sl_98 (by decide) hg22.1 hg22.2 (RdL.row 2 rfl) (encL_len cB_len rfl) rfl rfl) ?_
     refine ox_y rfl (y_loadR1 (A:=A8) (j:=(Int.toNat s19.1 * 1)) (v:=.bool (rdL y6.1 s19.1)) sc_4 (RdL.row 2 rfl) rfl (encL_get0 cB_len hg22.1 (lt_nat hg22.2 rfl) rfl)) (ox_y rfl (y_move_bool rfl) ?_)
     obtain ⟨b24,hb25,h⟩:=bOs h
     refine ox_join 8 (fun tm0 => (upd (upd (upd (upd (upd (upd (upd (upd (upd (upd (upd (upd (upd (upd tm0 0 (.agg #[.slice A0_0 p0.fNodes.length c0_0,.slice A0_1 p0.fClaims.length c0_1])) 1 (.slice A1_0 p1.length c1_0)) 2 (.bool p2)) 3 (.pointer (some ⟨b1,0,none⟩))) 6 (.pointer (some ⟨b2,0,none⟩))) 7 (.int .i64 y3)) 16 (.bool (y3 != 0))) 8 (.slice A8 y6.1.length c9)) 9 (.slice A8 y6.1.length c9)) 25 (.bool p2)) 10 (.slice A4_s19 s19.2.length c4_s19)) 11 (.int .i64 s19.1)) 30 (.bool (decide (s19.1 < (y6.1.length:Int))))) 45 (.bool b24))) (fun tm0 => ?_) (fun key => ?_)
     ·refine oN (eT ?_)
      rcases iOs h with ⟨hp26,h⟩ | ⟨hp26,h⟩
      ·refine cx_true (congrArg Value.bool hp26) (cR (ox_y rfl (yMS rfl) (ox_y rfl (yFA fo_25_0 rfl) (ox_y rfl (y_load1 0 (v:=.slice A0_0 p0.fNodes.length c0_0) sc_22 rfl rfl rfl) (ox_y rfl (yMI rfl) ?_)))))
       obtain ⟨hg27,h⟩:=gOs h
       refine ox_y rfl (y_indexR sl_22 (by decide) hg27.1 hg27.2 (RdL.arg hr0_0) (encL_len TNode_cells_len rfl) rfl rfl) ?_
       refine ox_y rfl (y_fieldAddrR (A:=A0_0) (j:=(Int.toNat s19.1 * 3)) fo_97_0 rfl) (ox_y rfl (y_loadR1 (A:=A0_0) (j:=((Int.toNat s19.1 * 3) + 0)) (v:=.int .i64 ((rdL p0.fNodes s19.1).fID)) sc_3 (RdL.arg hr0_0) rfl (encL_get TNode_cells_len hg27.1 (lt_nat hg27.2 rfl) rfl)) ?_)
       obtain ⟨y28,hy29,h⟩:=bOs h
       refine ox_call [.slice A4_s19 s19.2.length c4_s19,.int .i64 ((rdL p0.fNodes s19.1).fID)] _ _ _ rfl go_69 rfl (fun W2 hW2 => ref09_put_ok s19.2 ((rdL p0.fNodes s19.1).fID) y28 hy29 W2 A4_s19 s19.2.length c4_s19 rfl ((RdL.row 4 rfl) W2 hW2)) ?_
       rintro ⟨A30,n32,c31⟩ hn33
       replace hn33 : n32 = y28.length:=hn33; subst hn33
       try dsimp only [lna,lca,lsz,lss]
       refine ox_y rfl (yAS rfl) (oN (ex_block ?_))
       refine eT (cR ?_)
       refine ox_y rfl (yMI rfl) (ox_y rfl (y_add rfl rfl) (ox_y rfl (yAI rfl) (oN ?_)))
       refine ex_mv 4 5 (by decide) rfl ?_
       try dsimp only [lsz,lss]
       refine ex_take 5 ?_
       obtain rfl:=Option.some.inj h
       exact ex_next ⟨_,A30,c31,y28.length,rfl,rfl,(kp4 (kp4 (kp4 rfl)))⟩
      ·refine cx_false (congrArg Value.bool hp26) (cx_skip (ex_block ?_))
       refine eT (cR ?_)
       refine ox_y rfl (yMI rfl) (ox_y rfl (y_add rfl rfl) (ox_y rfl (yAI rfl) (oN ?_)))
       obtain rfl:=Option.some.inj h
       exact ex_next ⟨_,A4_s19,c4_s19,s19.2.length,rfl,rfl,(kp4 (kp4 (kp4 rfl)))⟩
     ·clear h; rcases iOs hb25 with ⟨hp23,h⟩ | ⟨hp23,h⟩
      ·refine ox_y (sT rfl rfl rfl rfl hp23) (yFA fo_25_0 rfl) (ox_y (sT rfl rfl rfl rfl hp23) (y_load1 0 (v:=.slice A0_0 p0.fNodes.length c0_0) sc_22 rfl rfl rfl) (ox_y (sT rfl rfl rfl rfl hp23) (yMI rfl) ?_))
       obtain ⟨hg34,h⟩:=gOs h
       refine ox_y (sT rfl rfl rfl rfl hp23) (y_indexR sl_22 (by decide) hg34.1 hg34.2 (RdL.arg hr0_0) (encL_len TNode_cells_len rfl) rfl rfl) ?_
       refine ox_y (sT rfl rfl rfl rfl hp23) (y_fieldAddrR (A:=A0_0) (j:=(Int.toNat s19.1 * 3)) fo_97_1 rfl) (ox_y (sT rfl rfl rfl rfl hp23) (y_loadR1 (A:=A0_0) (j:=((Int.toNat s19.1 * 3) + 1)) (v:=.int .i64 ((rdL p0.fNodes s19.1).fLevel)) sc_3 (RdL.arg hr0_0) rfl (encL_get TNode_cells_len hg34.1 (lt_nat hg34.2 rfl) rfl)) (ox_y (sT rfl rfl rfl rfl hp23) (y_eql rfl rfl) (ox_y rfl (y_pick_tb (congrArg Value.bool hp23) rfl) ?_)))
       obtain rfl:=Option.some.inj h
       exact key _ _ (kp4 (kp4 (kp4 (kp (kp rfl)))))
      ·refine oSk (sF rfl rfl rfl rfl hp23) (oSk (sF rfl rfl rfl rfl hp23) (oSk (sF rfl rfl rfl rfl hp23) (oSk (sF rfl rfl rfl rfl hp23) (oSk (sF rfl rfl rfl rfl hp23) (oSk (sF rfl rfl rfl rfl hp23) (oSk (sF rfl rfl rfl rfl hp23) (ox_y rfl (y_pick_fb (congrArg Value.bool hp23) rfl) ?_)))))))
       obtain rfl:=Option.some.inj h
       exact key _ _ (kp4 (kp4 (kp4 (kp (kp rfl)))))
    ·refine cx_false (congrArg Value.bool hp21) (cx_exit (ex_then_exit ?_))
     obtain rfl:=Option.some.inj h
     exact ex_stop ⟨rfl,_,A4_s19,c4_s19,s19.2.length,rfl,rfl,(kp4 (kp4 (kp4 rfl)))⟩
   ·intro e L tm hJ
    obtain ⟨rfl,tm0_u20,A4_u20,c4_u20,n4_u20,rfl,rfl,rfl⟩:=hJ
    refine ⟨(by intro hc; cases hc),?_⟩
    refine ex_block_here ?_
    refine eT (cS (cR ?_))
    refine ox_y rfl (yMS rfl) (ox_y rfl (y_loadN 0 [.slice A0_0 p0.fNodes.length c0_0,.slice A0_1 p0.fClaims.length c0_1] ag_25 rfl rfl rfl) (ox_y rfl (yMS rfl) ?_))
    obtain ⟨y36,hy37,h⟩:=bOs h
    refine ox_y rfl (y_call [.agg #[.slice A0_0 p0.fNodes.length c0_0,.slice A0_1 p0.fClaims.length c0_1],.slice A8 y6.1.length c9] go_73 rfl (fun W2 hW2 => ref09_cost_ok p0 y6.1 y36 hy37 W2 A0_0 p0.fNodes.length c0_0 rfl ((RdL.arg hr0_0) W2 hW2) A0_1 p0.fClaims.length c0_1 ys0_1 rfl ((RdL.arg hr0_1) W2 hW2) (NestL.at (NestL.arg hN0_1) W2 hW2) A8 y6.1.length c9 rfl ((RdL.row 2 rfl) W2 hW2)) rfl) ?_
    refine ox_y rfl (y_buildS [.slice A4_u20 u20.2.length c4_u20,.int .i64 y36,.int .i64 0] [(0,1),(1,1),(2,1)] ust_38 ze_38 (by kernel_rfl)) ?_
    refine ox_n rfl (y_storeN 1 [.slice A4_u20 u20.2.length c4_u20,.int .i64 y36,.int .i64 0] sz_38 rfl (Nat.le_of_ble_eq_true rfl) rfl rfl rfl) ?_
    refine oN (eT (cx_ret ?_))
    obtain rfl:=Option.some.inj h
    exact ex_res1 (.inl rfl) rfl (resV_cellN 1 [.slice A4_u20 u20.2.length c4_u20,.int .i64 y36,.int .i64 0] ag_38 rfl rfl rfl) (fun W2 hW2 => ⟨(A4_u20,u20.2.length,c4_u20),rfl,rfl,(hW2.pick 4 rfl)⟩)
  ·refine cx_false (congrArg Value.bool hp16) ?_
   refine cx_skip (eT (cS (cR ?_)))
   refine ox_y rfl (yAS rfl) ?_
   refine oN (eT (cS (cS (cR ?_))))
   refine ox_y rfl (yAI rfl) ?_
   refine oN (eT (cx_block ?_))
   obtain ⟨u41,hl56,h⟩:=bOs h
   refine cx_nilrow 3 1 ?_
   refine cx_loop (fun (s:(Int × (List Int))) L tm => ∃ (tm0:Nat → Value) (A4_s:Option Addr) (c4_s:Nat) (n4_s:Nat),n4_s = s.2.length ∧ L = [cellsR b1 25 [.slice A0_0 p0.fNodes.length c0_0,.slice A0_1 p0.fClaims.length c0_1],cellsR b2 38 [.slice none 0 0,.int .i64 0,.int .i64 0],rowR A8 c9 4 1 y6.1.length (encL cB y6.1),rowR A10 c11 4 1 y6.2.length (encL cB y6.2),rowR A4_s c4_s 3 1 n4_s (encL cI s.2)] ∧ tm = (upd (upd (upd (upd (upd (upd (upd (upd (upd (upd (upd (upd tm0 0 (.agg #[.slice A0_0 p0.fNodes.length c0_0,.slice A0_1 p0.fClaims.length c0_1])) 1 (.slice A1_0 p1.length c1_0)) 2 (.bool p2)) 3 (.pointer (some ⟨b1,0,none⟩))) 6 (.pointer (some ⟨b2,0,none⟩))) 7 (.int .i64 y3)) 16 (.bool (y3 != 0))) 8 (.slice A8 y6.1.length c9)) 9 (.slice A10 y6.2.length c11)) 25 (.bool p2)) 10 (.slice A4_s n4_s c4_s)) 11 (.int .i64 s.1))) (fun s e L tm => e = .exit 0 ∧ ∃ (tm0:Nat → Value) (A4_s:Option Addr) (c4_s:Nat) (n4_s:Nat),n4_s = s.2.length ∧ L = [cellsR b1 25 [.slice A0_0 p0.fNodes.length c0_0,.slice A0_1 p0.fClaims.length c0_1],cellsR b2 38 [.slice none 0 0,.int .i64 0,.int .i64 0],rowR A8 c9 4 1 y6.1.length (encL cB y6.1),rowR A10 c11 4 1 y6.2.length (encL cB y6.2),rowR A4_s c4_s 3 1 n4_s (encL cI s.2)] ∧ tm = (upd (upd (upd (upd (upd (upd (upd (upd (upd (upd (upd (upd tm0 0 (.agg #[.slice A0_0 p0.fNodes.length c0_0,.slice A0_1 p0.fClaims.length c0_1])) 1 (.slice A1_0 p1.length c1_0)) 2 (.bool p2)) 3 (.pointer (some ⟨b1,0,none⟩))) 6 (.pointer (some ⟨b2,0,none⟩))) 7 (.int .i64 y3)) 16 (.bool (y3 != 0))) 8 (.slice A8 y6.1.length c9)) 9 (.slice A10 y6.2.length c11)) 25 (.bool p2)) 10 (.slice A4_s n4_s c4_s)) 11 (.int .i64 s.1))) hl56 ⟨_,none,0,0,rfl,rfl,(kp4 (kp4 (kp4 rfl)))⟩ ?_ ?_
   ·rintro s40 L tm st ⟨tm0_s40,A4_s40,c4_s40,n4_s40,rfl,rfl,rfl⟩ h
    unfold ref09_Recall_l2 at h
    refine cS (cS (cR ?_))
    refine ox_y rfl (yMI rfl) (ox_y rfl (yMS rfl) (ox_y rfl (y_len (us:=[]) us_98 rfl) (ox_y rfl (y_lss rfl rfl) ?_)))
    refine oN (eT ?_)
    rcases iOs h with ⟨hp42,h⟩ | ⟨hp42,h⟩
    ·refine cx_true (congrArg Value.bool hp42) ?_
     refine cx_skip (eT (cS (cx_block (cS (cR ?_)))))
     refine ox_y rfl (yMS rfl) (ox_y rfl (yMI rfl) ?_)
     obtain ⟨hg43,h⟩:=gOs h
     refine ox_y rfl (y_indexR sl_98 (by decide) hg43.1 hg43.2 (RdL.row 3 rfl) (encL_len cB_len rfl) rfl rfl) ?_
     refine ox_y rfl (y_loadR1 (A:=A10) (j:=(Int.toNat s40.1 * 1)) (v:=.bool (rdL y6.2 s40.1)) sc_4 (RdL.row 3 rfl) rfl (encL_get0 cB_len hg43.1 (lt_nat hg43.2 rfl) rfl)) (ox_y rfl (y_move_bool rfl) ?_)
     obtain ⟨b45,hb46,h⟩:=bOs h
     refine ox_join 8 (fun tm0 => (upd (upd (upd (upd (upd (upd (upd (upd (upd (upd (upd (upd (upd (upd tm0 0 (.agg #[.slice A0_0 p0.fNodes.length c0_0,.slice A0_1 p0.fClaims.length c0_1])) 1 (.slice A1_0 p1.length c1_0)) 2 (.bool p2)) 3 (.pointer (some ⟨b1,0,none⟩))) 6 (.pointer (some ⟨b2,0,none⟩))) 7 (.int .i64 y3)) 16 (.bool (y3 != 0))) 8 (.slice A8 y6.1.length c9)) 9 (.slice A10 y6.2.length c11)) 25 (.bool p2)) 10 (.slice A4_s40 s40.2.length c4_s40)) 11 (.int .i64 s40.1)) 30 (.bool (decide (s40.1 < (y6.2.length:Int))))) 45 (.bool b45))) (fun tm0 => ?_) (fun key => ?_)
     ·refine oN (eT ?_)
      rcases iOs h with ⟨hp47,h⟩ | ⟨hp47,h⟩
      ·refine cx_true (congrArg Value.bool hp47) (cR (ox_y rfl (yMS rfl) (ox_y rfl (yFA fo_25_0 rfl) (ox_y rfl (y_load1 0 (v:=.slice A0_0 p0.fNodes.length c0_0) sc_22 rfl rfl rfl) (ox_y rfl (yMI rfl) ?_)))))
       obtain ⟨hg48,h⟩:=gOs h
       refine ox_y rfl (y_indexR sl_22 (by decide) hg48.1 hg48.2 (RdL.arg hr0_0) (encL_len TNode_cells_len rfl) rfl rfl) ?_
       refine ox_y rfl (y_fieldAddrR (A:=A0_0) (j:=(Int.toNat s40.1 * 3)) fo_97_0 rfl) (ox_y rfl (y_loadR1 (A:=A0_0) (j:=((Int.toNat s40.1 * 3) + 0)) (v:=.int .i64 ((rdL p0.fNodes s40.1).fID)) sc_3 (RdL.arg hr0_0) rfl (encL_get TNode_cells_len hg48.1 (lt_nat hg48.2 rfl) rfl)) ?_)
       obtain ⟨y49,hy50,h⟩:=bOs h
       refine ox_call [.slice A4_s40 s40.2.length c4_s40,.int .i64 ((rdL p0.fNodes s40.1).fID)] _ _ _ rfl go_69 rfl (fun W2 hW2 => ref09_put_ok s40.2 ((rdL p0.fNodes s40.1).fID) y49 hy50 W2 A4_s40 s40.2.length c4_s40 rfl ((RdL.row 4 rfl) W2 hW2)) ?_
       rintro ⟨A51,n53,c52⟩ hn54
       replace hn54 : n53 = y49.length:=hn54; subst hn54
       try dsimp only [lna,lca,lsz,lss]
       refine ox_y rfl (yAS rfl) (oN (ex_block ?_))
       refine eT (cR ?_)
       refine ox_y rfl (yMI rfl) (ox_y rfl (y_add rfl rfl) (ox_y rfl (yAI rfl) (oN ?_)))
       refine ex_mv 4 5 (by decide) rfl ?_
       try dsimp only [lsz,lss]
       refine ex_take 5 ?_
       obtain rfl:=Option.some.inj h
       exact ex_next ⟨_,A51,c52,y49.length,rfl,rfl,(kp4 (kp4 (kp4 rfl)))⟩
      ·refine cx_false (congrArg Value.bool hp47) (cx_skip (ex_block ?_))
       refine eT (cR ?_)
       refine ox_y rfl (yMI rfl) (ox_y rfl (y_add rfl rfl) (ox_y rfl (yAI rfl) (oN ?_)))
       obtain rfl:=Option.some.inj h
       exact ex_next ⟨_,A4_s40,c4_s40,s40.2.length,rfl,rfl,(kp4 (kp4 (kp4 rfl)))⟩
     ·clear h; rcases iOs hb46 with ⟨hp44,h⟩ | ⟨hp44,h⟩
      ·refine ox_y (sT rfl rfl rfl rfl hp44) (yFA fo_25_0 rfl) (ox_y (sT rfl rfl rfl rfl hp44) (y_load1 0 (v:=.slice A0_0 p0.fNodes.length c0_0) sc_22 rfl rfl rfl) (ox_y (sT rfl rfl rfl rfl hp44) (yMI rfl) ?_))
       obtain ⟨hg55,h⟩:=gOs h
       refine ox_y (sT rfl rfl rfl rfl hp44) (y_indexR sl_22 (by decide) hg55.1 hg55.2 (RdL.arg hr0_0) (encL_len TNode_cells_len rfl) rfl rfl) ?_
       refine ox_y (sT rfl rfl rfl rfl hp44) (y_fieldAddrR (A:=A0_0) (j:=(Int.toNat s40.1 * 3)) fo_97_1 rfl) (ox_y (sT rfl rfl rfl rfl hp44) (y_loadR1 (A:=A0_0) (j:=((Int.toNat s40.1 * 3) + 1)) (v:=.int .i64 ((rdL p0.fNodes s40.1).fLevel)) sc_3 (RdL.arg hr0_0) rfl (encL_get TNode_cells_len hg55.1 (lt_nat hg55.2 rfl) rfl)) (ox_y (sT rfl rfl rfl rfl hp44) (y_eql rfl rfl) (ox_y rfl (y_pick_tb (congrArg Value.bool hp44) rfl) ?_)))
       obtain rfl:=Option.some.inj h
       exact key _ _ (kp4 (kp4 (kp4 (kp (kp rfl)))))
      ·refine oSk (sF rfl rfl rfl rfl hp44) (oSk (sF rfl rfl rfl rfl hp44) (oSk (sF rfl rfl rfl rfl hp44) (oSk (sF rfl rfl rfl rfl hp44) (oSk (sF rfl rfl rfl rfl hp44) (oSk (sF rfl rfl rfl rfl hp44) (oSk (sF rfl rfl rfl rfl hp44) (ox_y rfl (y_pick_fb (congrArg Value.bool hp44) rfl) ?_)))))))
       obtain rfl:=Option.some.inj h
       exact key _ _ (kp4 (kp4 (kp4 (kp (kp rfl)))))
    ·refine cx_false (congrArg Value.bool hp42) (cx_exit (ex_then_exit ?_))
     obtain rfl:=Option.some.inj h
     exact ex_stop ⟨rfl,_,A4_s40,c4_s40,s40.2.length,rfl,rfl,(kp4 (kp4 (kp4 rfl)))⟩
   ·intro e L tm hJ
    obtain ⟨rfl,tm0_u41,A4_u41,c4_u41,n4_u41,rfl,rfl,rfl⟩:=hJ
    refine ⟨(by intro hc; cases hc),?_⟩
    refine ex_block_here ?_
    refine eT (cS (cR ?_))
    refine ox_y rfl (yMS rfl) (ox_y rfl (y_loadN 0 [.slice A0_0 p0.fNodes.length c0_0,.slice A0_1 p0.fClaims.length c0_1] ag_25 rfl rfl rfl) (ox_y rfl (yMS rfl) ?_))
    obtain ⟨y57,hy58,h⟩:=bOs h
    refine ox_y rfl (y_call [.agg #[.slice A0_0 p0.fNodes.length c0_0,.slice A0_1 p0.fClaims.length c0_1],.slice A10 y6.2.length c11] go_73 rfl (fun W2 hW2 => ref09_cost_ok p0 y6.2 y57 hy58 W2 A0_0 p0.fNodes.length c0_0 rfl ((RdL.arg hr0_0) W2 hW2) A0_1 p0.fClaims.length c0_1 ys0_1 rfl ((RdL.arg hr0_1) W2 hW2) (NestL.at (NestL.arg hN0_1) W2 hW2) A10 y6.2.length c11 rfl ((RdL.row 3 rfl) W2 hW2)) rfl) ?_
    refine ox_y rfl (y_buildS [.slice A4_u41 u41.2.length c4_u41,.int .i64 y57,.int .i64 0] [(0,1),(1,1),(2,1)] ust_38 ze_38 (by kernel_rfl)) ?_
    refine ox_n rfl (y_storeN 1 [.slice A4_u41 u41.2.length c4_u41,.int .i64 y57,.int .i64 0] sz_38 rfl (Nat.le_of_ble_eq_true rfl) rfl rfl rfl) ?_
    refine oN (eT (cx_ret ?_))
    obtain rfl:=Option.some.inj h
    exact ex_res1 (.inl rfl) rfl (resV_cellN 1 [.slice A4_u41 u41.2.length c4_u41,.int .i64 y57,.int .i64 0] ag_38 rfl rfl rfl) (fun W2 hW2 => ⟨(A4_u41,u41.2.length,c4_u41),rfl,rfl,(hW2.pick 4 rfl)⟩)
theorem calxlaw09_RecallOrigins_ok (p0:TLineage) (p1:(List Int)) (p2:Int) (p3:Bool) (res:Bool) (h:calxlaw09_RecallOrigins p0 p1 p2 p3 = some res) (W:World) (A0_0:Option Addr) (n0_0 c0_0 : Nat) (hn0_0:n0_0 = p0.fNodes.length) (hr0_0:Rd W A0_0 n0_0 c0_0 (encL TNode_cells p0.fNodes)) (A0_1:Option Addr) (n0_1 c0_1 : Nat) (ys0_1:List (Hd × TClaim)) (hn0_1:n0_1 = p0.fClaims.length) (hr0_1:Rd W A0_1 n0_1 c0_1 (encL TClaim_cells2 ys0_1)) (hN0_1:NestW W (fun z : TClaim => z.fOptions) THop_cells ys0_1 p0.fClaims) (A1_0:Option Addr) (n1_0 c1_0 : Nat) (hn1_0:n1_0 = p1.length) (hr1_0:Rd W A1_0 n1_0 c1_0 (encL cI p1)) :
  Calls Tryz.prog 3 [.agg #[.slice A0_0 n0_0 c0_0,.slice A0_1 n0_1 c0_1],.slice A1_0 n1_0 c1_0,.int .i64 p2,.bool p3].toArray W fun e W2 => e = .returned (.bool res) ∧ Ext W W2 []:=by
 subst hn0_0
 subst hn0_1
 subst hn1_0
 unfold calxlaw09_RecallOrigins at h
 refine calls_enter (m:=89) Tryz.func3 rfl rfl (Nat.le_of_ble_eq_true rfl) ?_
 refine cS (cR ?_)
 refine ox_box [.slice A0_0 p0.fNodes.length c0_0,.slice A0_1 p0.fClaims.length c0_1] rfl rfl rfl (fun b1 => ?_)
 refine ox_y rfl (y_assign_bool rfl) ?_
 refine oN (eT (cS (cR ?_)))
 obtain ⟨y2,hy3,h⟩:=bOs h
 refine ox_y rfl (y_call [] go_13 rfl (fun W2 hW2 => calxlaw09_head_ok  y2 hy3 W2 ) rfl) (ox_y rfl (y_assign_bool rfl) ?_)
 refine oN (eT (cS (cS (cR ?_))))
 refine ox_y rfl (y_loadN 0 [.slice A0_0 p0.fNodes.length c0_0,.slice A0_1 p0.fClaims.length c0_1] ag_25 rfl rfl rfl) ?_
 obtain ⟨y4,hy5,h⟩:=bOs h
 refine ox_y rfl (y_call [.agg #[.slice A0_0 p0.fNodes.length c0_0,.slice A0_1 p0.fClaims.length c0_1]] go_14 rfl (fun W2 hW2 => calxlaw09_few_ok p0 y4 hy5 W2 A0_0 p0.fNodes.length c0_0 rfl ((RdL.arg hr0_0) W2 hW2) A0_1 p0.fClaims.length c0_1 ys0_1 rfl ((RdL.arg hr0_1) W2 hW2) (NestL.at (NestL.arg hN0_1) W2 hW2)) rfl) (ox_y rfl (y_not rfl) (ox_y rfl (y_move_bool rfl) ?_))
 refine ox_join 4 (fun tm0 => (upd (upd (upd (upd (upd (upd (upd tm0 1 (.slice A1_0 p1.length c1_0)) 2 (.int .i64 p2)) 3 (.bool p3)) 4 (.pointer (some ⟨b1,0,none⟩))) 8 (.bool false)) 9 (.bool y2)) 27 (.bool ((!y4) || (decide (30 < (p1.length:Int))))))) (fun tm0 => ?_) (fun key => ?_)
 ·refine oN (eT ?_)
  rcases iOs h with ⟨hp7,h⟩ | ⟨hp7,h⟩
  ·refine cx_true (congrArg Value.bool hp7) ?_
   refine cS (cR ?_)
   refine ox_y rfl (y_move_bool rfl) (ox_y rfl (y_assign_bool rfl) ?_)
   refine oN (eT (cx_ret (ex_then_ret ?_)))
   obtain rfl:=Option.some.inj h
   exact ex_res1 (.inl rfl) rfl (rVt (v:=.bool y2) rfl) (fun W2 hW2 => ⟨rfl,hW2.none⟩)
  ·refine cx_false (congrArg Value.bool hp7) ?_
   refine cx_skip (eT (cS (cR ?_)))
   refine ox_y rfl (y_loadN 0 [.slice A0_0 p0.fNodes.length c0_0,.slice A0_1 p0.fClaims.length c0_1] ag_25 rfl rfl rfl) (ox_y rfl (yMI rfl) ?_)
   obtain ⟨y8,hy9,h⟩:=bOs h
   refine ox_call [.agg #[.slice A0_0 p0.fNodes.length c0_0,.slice A0_1 p0.fClaims.length c0_1],.int .i64 p2] _ _ _ rfl go_15 rfl (fun W2 hW2 => recall_Origins_ok p0 p2 y8 hy9 W2 A0_0 p0.fNodes.length c0_0 rfl ((RdL.arg hr0_0) W2 hW2) A0_1 p0.fClaims.length c0_1 ys0_1 rfl ((RdL.arg hr0_1) W2 hW2) (NestL.at (NestL.arg hN0_1) W2 hW2)) ?_
   rintro ⟨⟨A10,n14,c11⟩,⟨A12,n16,c13⟩⟩ ⟨hn15,hn17⟩
   replace hn15 : n14 = y8.1.length:=hn15; subst hn15
   replace hn17 : n16 = y8.2.1.length:=hn17; subst hn17
   refine ox_y rfl (y_move_tuple rfl) (ox_y rfl (y_extract (vs:=[.slice A10 y8.1.length c11,.slice A12 y8.2.1.length c13,.int .i64 y8.2.2]) (v:=.slice A10 y8.1.length c11) rfl rfl) (ox_y rfl (y_extract (vs:=[.slice A10 y8.1.length c11,.slice A12 y8.2.1.length c13,.int .i64 y8.2.2]) (v:=.slice A12 y8.2.1.length c13) rfl rfl) (ox_y rfl (y_extract (vs:=[.slice A10 y8.1.length c11,.slice A12 y8.2.1.length c13,.int .i64 y8.2.2]) (v:=.int .i64 y8.2.2) rfl rfl) (ox_y rfl (yAS rfl) (ox_y rfl (yAS rfl) (ox_y rfl (yAI rfl) ?_))))))
   refine oN (eT (cS (cR ?_)))
   refine ox_y rfl (y_loadN 0 [.slice A0_0 p0.fNodes.length c0_0,.slice A0_1 p0.fClaims.length c0_1] ag_25 rfl rfl rfl) (ox_y rfl (yMI rfl) ?_)
   obtain ⟨y18,hy19,h⟩:=bOs h
   refine ox_call [.agg #[.slice A0_0 p0.fNodes.length c0_0,.slice A0_1 p0.fClaims.length c0_1],.int .i64 p2] _ _ _ rfl go_16 rfl (fun W2 hW2 => ref09_Origins_ok p0 p2 y18 hy19 W2 A0_0 p0.fNodes.length c0_0 rfl ((RdL.arg hr0_0) W2 hW2) A0_1 p0.fClaims.length c0_1 ys0_1 rfl ((RdL.arg hr0_1) W2 hW2) (NestL.at (NestL.arg hN0_1) W2 hW2)) ?_
   rintro ⟨⟨A20,n24,c21⟩,⟨A22,n26,c23⟩⟩ ⟨hn25,hn27⟩
   replace hn25 : n24 = y18.fA.length:=hn25; subst hn25
   replace hn27 : n26 = y18.fB.length:=hn27; subst hn27
   refine ox_alloc ze_33 rfl (fun b28 => ?_)
   try dsimp only [lna,lca,lsz,lss]
   refine ox_n rfl (y_storeN 5 [.slice A20 y18.fA.length c21,.slice A22 y18.fB.length c23,.int .i64 y18.fE] sz_33 rfl (Nat.le_of_ble_eq_true rfl) rfl rfl rfl) ?_
   refine oN (eT (cS (cR ?_)))
   refine ox_y rfl (y_loadN 0 [.slice A0_0 p0.fNodes.length c0_0,.slice A0_1 p0.fClaims.length c0_1] ag_25 rfl rfl rfl) (ox_y rfl (yMS rfl) (ox_y rfl (y_move_bool rfl) ?_))
   obtain ⟨y29,hy30,h⟩:=bOs h
   refine ox_call [.agg #[.slice A0_0 p0.fNodes.length c0_0,.slice A0_1 p0.fClaims.length c0_1],.slice A1_0 p1.length c1_0,.bool p3] _ _ _ rfl go_17 rfl (fun W2 hW2 => recall_Recall_ok p0 p1 p3 y29 hy30 W2 A0_0 p0.fNodes.length c0_0 rfl ((RdL.arg hr0_0) W2 hW2) A0_1 p0.fClaims.length c0_1 ys0_1 rfl ((RdL.arg hr0_1) W2 hW2) (NestL.at (NestL.arg hN0_1) W2 hW2) A1_0 p1.length c1_0 rfl ((RdL.arg hr1_0) W2 hW2)) ?_
   rintro ⟨A31,n33,c32⟩ hn34
   replace hn34 : n33 = y29.1.length:=hn34; subst hn34
   try dsimp only [lna,lca,lsz,lss]
   refine ox_y rfl (y_move_tuple rfl) (ox_y rfl (y_extract (vs:=[.slice A31 y29.1.length c32,.int .i64 y29.2.1,.int .i64 y29.2.2]) (v:=.slice A31 y29.1.length c32) rfl rfl) (ox_y rfl (y_extract (vs:=[.slice A31 y29.1.length c32,.int .i64 y29.2.1,.int .i64 y29.2.2]) (v:=.int .i64 y29.2.1) rfl rfl) (ox_y rfl (y_extract (vs:=[.slice A31 y29.1.length c32,.int .i64 y29.2.1,.int .i64 y29.2.2]) (v:=.int .i64 y29.2.2) rfl rfl) (ox_y rfl (yAS rfl) (ox_y rfl (yAI rfl) (ox_y rfl (yAI rfl) ?_))))))
   refine oN (eT (cS (cR ?_)))
   refine ox_y rfl (y_loadN 0 [.slice A0_0 p0.fNodes.length c0_0,.slice A0_1 p0.fClaims.length c0_1] ag_25 rfl rfl rfl) (ox_y rfl (yMS rfl) (ox_y rfl (y_move_bool rfl) ?_))
   obtain ⟨y35,hy36,h⟩:=bOs h
   refine ox_call [.agg #[.slice A0_0 p0.fNodes.length c0_0,.slice A0_1 p0.fClaims.length c0_1],.slice A1_0 p1.length c1_0,.bool p3] _ _ _ rfl go_18 rfl (fun W2 hW2 => ref09_Recall_ok p0 p1 p3 y35 hy36 W2 A0_0 p0.fNodes.length c0_0 rfl ((RdL.arg hr0_0) W2 hW2) A0_1 p0.fClaims.length c0_1 ys0_1 rfl ((RdL.arg hr0_1) W2 hW2) (NestL.at (NestL.arg hN0_1) W2 hW2) A1_0 p1.length c1_0 rfl ((RdL.arg hr1_0) W2 hW2)) ?_
   rintro ⟨A37,n39,c38⟩ hn40
   replace hn40 : n39 = y35.fL.length:=hn40; subst hn40
   try dsimp only [lna,lca,lsz,lss]
   refine ox_alloc ze_38 rfl (fun b41 => ?_)
   try dsimp only [lna,lca,lsz,lss]
   refine ox_n rfl (y_storeN 8 [.slice A37 y35.fL.length c38,.int .i64 y35.fN,.int .i64 y35.fE] sz_38 rfl (Nat.le_of_ble_eq_true rfl) rfl rfl rfl) ?_
   refine oN (eT (cS (cR ?_)))
   refine ox_y rfl (yMS rfl) (ox_y rfl (yFA fo_33_0 rfl) (ox_y rfl (y_load1 5 (v:=.slice A20 y18.fA.length c21) sc_26 rfl rfl rfl) ?_))
   obtain ⟨y42,hy43,h⟩:=bOs h
   refine ox_y rfl (y_call [.slice A10 y8.1.length c11,.slice A20 y18.fA.length c21] go_19 rfl (fun W2 hW2 => ref09_SameInts_ok y8.1 y18.fA y42 hy43 W2 A10 y8.1.length c11 rfl ((RdL.row 1 rfl) W2 hW2) A20 y18.fA.length c21 rfl ((RdL.row 3 rfl) W2 hW2)) rfl) (ox_y rfl (y_move_bool rfl) ?_)
   obtain ⟨b45,hb46,h⟩:=bOs h
   refine ox_join 5 (fun tm0 => (upd (upd (upd (upd (upd (upd (upd (upd (upd tm0 8 (.bool false)) 9 (.bool y2)) 12 (.int .i64 y8.2.2)) 13 (.pointer (some ⟨b28,0,none⟩))) 14 (.slice A31 y29.1.length c32)) 15 (.int .i64 y29.2.1)) 16 (.int .i64 y29.2.2)) 17 (.pointer (some ⟨b41,0,none⟩))) 60 (.bool b45))) (fun tm0 => ?_) (fun key => ?_)
   ·refine ox_y rfl (y_move_bool rfl) ?_
    obtain ⟨b48,hb49,h⟩:=bOs h
    refine ox_join 5 (fun tm0 => (upd (upd (upd (upd (upd (upd (upd (upd tm0 8 (.bool false)) 9 (.bool y2)) 12 (.int .i64 y8.2.2)) 13 (.pointer (some ⟨b28,0,none⟩))) 15 (.int .i64 y29.2.1)) 16 (.int .i64 y29.2.2)) 17 (.pointer (some ⟨b41,0,none⟩))) 66 (.bool b48))) (fun tm0 => ?_) (fun key => ?_)
    ·refine ox_y rfl (y_assign_bool rfl) ?_
     refine oN (eT (cS (cR ?_)))
     refine ox_y rfl (y_move_bool rfl) (ox_y rfl (y_move_bool rfl) ?_)
     refine ox_join 2 (fun tm0 => (upd (upd (upd (upd (upd (upd (upd tm0 8 (.bool false)) 12 (.int .i64 y8.2.2)) 13 (.pointer (some ⟨b28,0,none⟩))) 15 (.int .i64 y29.2.1)) 16 (.int .i64 y29.2.2)) 17 (.pointer (some ⟨b41,0,none⟩))) 70 (.bool (y2 && b48)))) (fun tm0 => ?_) (fun key => ?_)
     ·refine ox_y rfl (y_move_bool rfl) ?_
      refine ox_join 5 (fun tm0 => (upd (upd (upd (upd (upd tm0 8 (.bool false)) 15 (.int .i64 y29.2.1)) 16 (.int .i64 y29.2.2)) 17 (.pointer (some ⟨b41,0,none⟩))) 76 (.bool ((y2 && b48) && (y8.2.2 == y18.fE))))) (fun tm0 => ?_) (fun key => ?_)
      ·refine ox_y rfl (y_move_bool rfl) ?_
       refine ox_join 5 (fun tm0 => (upd (upd (upd (upd tm0 8 (.bool false)) 16 (.int .i64 y29.2.2)) 17 (.pointer (some ⟨b41,0,none⟩))) 82 (.bool (((y2 && b48) && (y8.2.2 == y18.fE)) && (y29.2.1 == y35.fN))))) (fun tm0 => ?_) (fun key => ?_)
       ·refine ox_y rfl (y_move_bool rfl) ?_
        refine ox_join 5 (fun tm0 => (upd (upd tm0 8 (.bool false)) 88 (.bool ((((y2 && b48) && (y8.2.2 == y18.fE)) && (y29.2.1 == y35.fN)) && (y29.2.2 == y35.fE))))) (fun tm0 => ?_) (fun key => ?_)
        ·refine ox_y rfl (y_assign_bool rfl) ?_
         refine oN (eT (cx_ret ?_))
         obtain rfl:=Option.some.inj h
         exact ex_res1 (.inl rfl) rfl (rVt (v:=.bool ((((y2 && b48) && (y8.2.2 == y18.fE)) && (y29.2.1 == y35.fN)) && (y29.2.2 == y35.fE))) rfl) (fun W2 hW2 => ⟨rfl,hW2.none⟩)
        ·rcases bool_cases (((y2 && b48) && (y8.2.2 == y18.fE)) && (y29.2.1 == y35.fN)) with hp53 | hp53
         ·refine ox_y (sT rfl rfl rfl rfl hp53) (yMI rfl) (ox_y (sT rfl rfl rfl rfl hp53) (yFA fo_38_2 rfl) (ox_y (sT rfl rfl rfl rfl hp53) (y_load1 8 (v:=.int .i64 y35.fE) sc_29 rfl rfl rfl) (ox_y (sT rfl rfl rfl rfl hp53) (y_eql rfl rfl) (ox_y rfl (y_pick_tb (congrArg Value.bool hp53) rfl) ?_))))
          exact key _ _ (keep (keep rfl rfl) (congrArg Value.bool (and_t hp53)))
         ·refine oSk (sF rfl rfl rfl rfl hp53) (oSk (sF rfl rfl rfl rfl hp53) (oSk (sF rfl rfl rfl rfl hp53) (oSk (sF rfl rfl rfl rfl hp53) (ox_y rfl (y_pick_fb (congrArg Value.bool hp53) rfl) ?_))))
          exact key _ _ (keep (keep rfl rfl) (congrArg Value.bool (and_f hp53)))
       ·rcases bool_cases ((y2 && b48) && (y8.2.2 == y18.fE)) with hp52 | hp52
        ·refine ox_y (sT rfl rfl rfl rfl hp52) (yMI rfl) (ox_y (sT rfl rfl rfl rfl hp52) (yFA fo_38_1 rfl) (ox_y (sT rfl rfl rfl rfl hp52) (y_load1 8 (v:=.int .i64 y35.fN) sc_3 rfl rfl rfl) (ox_y (sT rfl rfl rfl rfl hp52) (y_eql rfl rfl) (ox_y rfl (y_pick_tb (congrArg Value.bool hp52) rfl) ?_))))
         exact key _ _ (keep (keep (keep (keep rfl rfl) rfl) rfl) (congrArg Value.bool (and_t hp52)))
        ·refine oSk (sF rfl rfl rfl rfl hp52) (oSk (sF rfl rfl rfl rfl hp52) (oSk (sF rfl rfl rfl rfl hp52) (oSk (sF rfl rfl rfl rfl hp52) (ox_y rfl (y_pick_fb (congrArg Value.bool hp52) rfl) ?_))))
         exact key _ _ (keep (keep (keep (keep rfl rfl) rfl) rfl) (congrArg Value.bool (and_f hp52)))
      ·rcases bool_cases (y2 && b48) with hp51 | hp51
       ·refine ox_y (sT rfl rfl rfl rfl hp51) (yMI rfl) (ox_y (sT rfl rfl rfl rfl hp51) (yFA fo_33_2 rfl) (ox_y (sT rfl rfl rfl rfl hp51) (y_load1 5 (v:=.int .i64 y18.fE) sc_29 rfl rfl rfl) (ox_y (sT rfl rfl rfl rfl hp51) (y_eql rfl rfl) (ox_y rfl (y_pick_tb (congrArg Value.bool hp51) rfl) ?_))))
        exact key _ _ (keep (keep (keep (keep (keep rfl rfl) rfl) rfl) rfl) (congrArg Value.bool (and_t hp51)))
       ·refine oSk (sF rfl rfl rfl rfl hp51) (oSk (sF rfl rfl rfl rfl hp51) (oSk (sF rfl rfl rfl rfl hp51) (oSk (sF rfl rfl rfl rfl hp51) (ox_y rfl (y_pick_fb (congrArg Value.bool hp51) rfl) ?_))))
        exact key _ _ (keep (keep (keep (keep (keep rfl rfl) rfl) rfl) rfl) (congrArg Value.bool (and_f hp51)))
     ·rcases bool_cases y2 with hp50 | hp50
      ·refine ox_y (sT rfl rfl rfl rfl hp50) (y_move_bool rfl) (ox_y rfl (y_pick_tb (congrArg Value.bool hp50) rfl) ?_)
       exact key _ _ (keep (keep (keep (keep (keep (keep (keep rfl rfl) rfl) rfl) rfl) rfl) rfl) (congrArg Value.bool (and_t hp50)))
      ·refine oSk (sF rfl rfl rfl rfl hp50) (ox_y rfl (y_pick_fb (congrArg Value.bool hp50) rfl) ?_)
       exact key _ _ (keep (keep (keep (keep (keep (keep (keep rfl rfl) rfl) rfl) rfl) rfl) rfl) (congrArg Value.bool (and_f hp50)))
    ·clear h; rcases iOs hb49 with ⟨hp47,h⟩ | ⟨hp47,h⟩
     ·refine ox_y (sT rfl rfl rfl rfl hp47) (yMS rfl) (ox_y (sT rfl rfl rfl rfl hp47) (yFA fo_38_0 rfl) (ox_y (sT rfl rfl rfl rfl hp47) (y_load1 8 (v:=.slice A37 y35.fL.length c38) sc_26 rfl rfl rfl) ?_))
      obtain ⟨y54,hy55,h⟩:=bOs h
      refine ox_y (sT rfl rfl rfl rfl hp47) (y_call [.slice A31 y29.1.length c32,.slice A37 y35.fL.length c38] go_19 rfl (fun W2 hW2 => ref09_SameInts_ok y29.1 y35.fL y54 hy55 W2 A31 y29.1.length c32 rfl ((RdL.row 6 rfl) W2 hW2) A37 y35.fL.length c38 rfl ((RdL.row 7 rfl) W2 hW2)) rfl) (ox_y rfl (y_pick_tb (congrArg Value.bool hp47) rfl) ?_)
      obtain rfl:=Option.some.inj h
      exact key _ _ (kp4 (kp4 rfl))
     ·refine oSk (sF rfl rfl rfl rfl hp47) (oSk (sF rfl rfl rfl rfl hp47) (oSk (sF rfl rfl rfl rfl hp47) (oSk (sF rfl rfl rfl rfl hp47) (ox_y rfl (y_pick_fb (congrArg Value.bool hp47) rfl) ?_))))
      obtain rfl:=Option.some.inj h
      exact key _ _ (kp4 (kp4 rfl))
   ·clear h; rcases iOs hb46 with ⟨hp44,h⟩ | ⟨hp44,h⟩
    ·refine ox_y (sT rfl rfl rfl rfl hp44) (yMS rfl) (ox_y (sT rfl rfl rfl rfl hp44) (yFA fo_33_1 rfl) (ox_y (sT rfl rfl rfl rfl hp44) (y_load1 5 (v:=.slice A22 y18.fB.length c23) sc_26 rfl rfl rfl) ?_))
     obtain ⟨y56,hy57,h⟩:=bOs h
     refine ox_y (sT rfl rfl rfl rfl hp44) (y_call [.slice A12 y8.2.1.length c13,.slice A22 y18.fB.length c23] go_19 rfl (fun W2 hW2 => ref09_SameInts_ok y8.2.1 y18.fB y56 hy57 W2 A12 y8.2.1.length c13 rfl ((RdL.row 2 rfl) W2 hW2) A22 y18.fB.length c23 rfl ((RdL.row 4 rfl) W2 hW2)) rfl) (ox_y rfl (y_pick_tb (congrArg Value.bool hp44) rfl) ?_)
     obtain rfl:=Option.some.inj h
     exact key _ _ (kp4 (kp4 (kp rfl)))
    ·refine oSk (sF rfl rfl rfl rfl hp44) (oSk (sF rfl rfl rfl rfl hp44) (oSk (sF rfl rfl rfl rfl hp44) (oSk (sF rfl rfl rfl rfl hp44) (ox_y rfl (y_pick_fb (congrArg Value.bool hp44) rfl) ?_))))
     obtain rfl:=Option.some.inj h
     exact key _ _ (kp4 (kp4 (kp rfl)))
 ·rcases bool_cases (!y4) with hp6 | hp6
  ·refine oSk (sF rfl rfl rfl rfl hp6) (oSk (sF rfl rfl rfl rfl hp6) (oSk (sF rfl rfl rfl rfl hp6) (ox_y rfl (y_pick_tb (congrArg Value.bool hp6) rfl) ?_)))
   exact key _ _ (keep (keep (keep (keep (keep (keep (keep rfl rfl) rfl) rfl) rfl) rfl) rfl) (congrArg Value.bool (or_t hp6)))
  ·refine ox_y (sT rfl rfl rfl rfl hp6) (yMS rfl) (ox_y (sT rfl rfl rfl rfl hp6) (y_len (us:=[]) us_26 rfl) (ox_y (sT rfl rfl rfl rfl hp6) (y_gtr rfl rfl) (ox_y rfl (y_pick_fb (congrArg Value.bool hp6) rfl) ?_)))
   exact key _ _ (keep (keep (keep (keep (keep (keep (keep rfl rfl) rfl) rfl) rfl) rfl) rfl) (congrArg Value.bool (or_f hp6)))
end Go.Proofs.YtbblpokfbmekfaaGreat
