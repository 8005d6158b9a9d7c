import Derived.Test.YthndghnkebboaaaGreatF
import Derived.Test.YthndghnkebboaaaGreatGv
import Derived.Test.YthndghnkebboaaaGreatGy
import Derived.Test.YthndghnkebboaaaGreatC6
import Derived.Test.YthndghnkebboaaaGreatC13
import Derived.Test.YthndghnkebboaaaGreatC2
import Derived.Test.YthndghnkebboaaaGreatC4
set_option maxHeartbeats 4000000
set_option maxRecDepth 100000
set_option linter.unusedVariables false
namespace Go.Proofs.YthndghnkebboaaaGreat
open Go.RowKit (Below)
attribute [local irreducible] OX QX CX EX OpY Calls CallsIn
theorem jI (p0:(List Int)) (p1:Int) (res:(List Int)) (h:gv p0 p1 = some res) (W:World) (Aa:Option Addr) (n0_0 ca : Nat) (hn0_0:n0_0 = p0.length) (hr0_0:Rd W Aa n0_0 ca (aq cI p0)) :
  Calls Tryz.prog 82 [.slice Aa n0_0 ca,vI p1].toArray W fun e W2 => ∃ x : Option Addr × Nat × Nat,x.2.1 = res.length ∧ e = .returned (.slice x.1 x.2.1 x.2.2) ∧ Ext W W2 [aJ x.1 x.2.2 3 1 x.2.1 (aq cI res)]:=by
 subst hn0_0
 unfold gv at h
 refine ac (m:=32) Tryz.func82 rfl rfl (nB rfl) (cS (cR (oY rfl (yAS rfl) (oN (eT (cS (cR (oY rfl (yAI rfl) (oN (eT (cS (ah ?_))))))))))))
 obtain ⟨u3,hl9,h⟩:=bOs h
 refine a6 (fun (s:Int) L tm => ∃ (tm0:Nat → Value),L = [] ∧ tm = (upd (upd (upd (upd tm0 0 (.slice Aa p0.length ca)) 1 (vI p1)) 4 (.slice none 0 0)) 5 (vI s))) 0 hl9 ⟨_,rfl,(kp4 rfl)⟩ ?_ ?_
 ·rintro s2 L tm st ⟨tm0_s2,rfl,rfl⟩ h
  unfold gA at h
  refine cS (cS (cR (oY rfl (yMI rfl) (oY rfl (yMS rfl) (oY rfl (bo (us:=[]) bJ rfl) (oY rfl (bq rfl rfl) (oY rfl (yMB rfl) ?_)))))))
  obtain ⟨b5,hb6,h⟩:=bOs h
  refine oJ 7 (fun tm0 => (upd (upd (upd (upd (upd tm0 0 (.slice Aa p0.length ca)) 1 (vI p1)) 4 (.slice none 0 0)) 5 (vI s2)) 17 (.bool b5))) (fun tm0 => ?_) (fun key => ?_)
  ·refine oN (eT ?_)
   rcases iOs h with ⟨hp7,h⟩ | ⟨hp7,h⟩
   ·refine cT (vB hp7) (cK (eT (ah (cR (oY rfl (yMI rfl) (oY rfl (aY rfl rfl) (oY rfl (yAI rfl) (oN (au ?_)))))))))
    obtain rfl:=sI h
    exact eN ⟨_,rfl,(kp4 rfl)⟩
   ·refine cF (vB hp7) (aG (ag ?_))
    obtain rfl:=sI h
    exact ay ⟨rfl,_,rfl,(kp4 rfl)⟩
  ·clear h; rcases iOs hb6 with ⟨hp4,h⟩ | ⟨hp4,h⟩
   ·refine oY (sT rfl rfl rfl rfl hp4) (yMS rfl) (oY (sT rfl rfl rfl rfl hp4) (yMI rfl) ?_)
    obtain ⟨hg8,h⟩:=gOs h
    refine oY (sT rfl rfl rfl rfl hp4) (yI cO (by decide) hg8.1 hg8.2 (RdL.arg hr0_0) (eL ax rfl) rfl rfl) ?_
    refine oY (sT rfl rfl rfl rfl hp4) (yR (A:=Aa) (j:=(Int.toNat s2 * 1)) (v:=vI (rdL p0 s2)) bg (RdL.arg hr0_0) rfl (aL ax hg8.1 (aA hg8.2 rfl) rfl)) (oY (sT rfl rfl rfl rfl hp4) (yMI rfl) (oY (sT rfl rfl rfl rfl hp4) (bq rfl rfl) (oY rfl (ai (vB hp4) rfl) ?_)))
    obtain rfl:=sI h
    exact key _ _ (kp4 (kp rfl))
   ·refine oSk (sF rfl rfl rfl rfl hp4) (oSk (sF rfl rfl rfl rfl hp4) (oSk (sF rfl rfl rfl rfl hp4) (oSk (sF rfl rfl rfl rfl hp4) (oSk (sF rfl rfl rfl rfl hp4) (oSk (sF rfl rfl rfl rfl hp4) (oY rfl (aj (vB hp4) rfl) ?_))))))
    obtain rfl:=sI h
    exact key _ _ (kp4 (kp rfl))
 ·intro e L tm hJ
  obtain ⟨rfl,tm0_u3,rfl,rfl⟩:=hJ
  refine ⟨(by intro hc; cases hc),?_⟩
  refine ab (eT (cS ?_))
  obtain ⟨hg12,h⟩:=gOs h
  obtain ⟨hg15,h⟩:=gOs h
  obtain ⟨hg19,h⟩:=gOs h
  obtain ⟨hg20,h⟩:=gOs h
  obtain ⟨hg23,h⟩:=gOs h
  refine df [[],[],[],[1,2],[0,1,2,3],[],[5],[0,1,2,3,4,5,6],[],[],[8,9],[0,1,2,3,4,5,6,7,8,9,10],[0,1,2,3,4,5,6,7,8,9,10,11]] [(none,1,[]),(none,0,[false]),(none,0,[false]),(none,0,[false]),(some 0,0,[true]),(none,0,[false]),(none,1,[false]),(some 0,0,[true,true]),(none,0,[false,false]),(none,0,[false,false]),(none,0,[false,false]),(some 0,0,[true,true]),(none,0,[true,true])] [⟨fun ξ10 => .slice (some ⟨(ξ10 0 0).2.1,0,none⟩) 0 0,fun _ => noR,fun ξ10 => [aJ (some ⟨(ξ10 0 0).2.1,0,none⟩) 0 3 1 0 (aq cI ([]:List Int))]⟩,⟨fun _ => .slice Aa p0.length ca,fun _ => noR,fun _ => []⟩,⟨fun _ => vI u3,fun _ => noR,fun _ => []⟩,⟨fun _ => .slice Aa (Int.toNat u3) ca,fun _ => noR,fun _ => []⟩,⟨fun ξ10 => .slice (ξ10 4 0).1 (0 + (Int.toNat u3)) (ξ10 4 0).2.2.1,fun ξ10 => aJ (ξ10 4 0).1 (ξ10 4 0).2.2.1 3 1 (0 + (Int.toNat u3)) (aq cI (([]:List Int) ++ (p0.take (Int.toNat u3)))),fun _ => []⟩,⟨fun _ => vI p1,fun _ => noR,fun _ => []⟩,⟨fun ξ10 => .slice (some ⟨(ξ10 6 0).2.1,0,none⟩) 1 1,fun _ => noR,fun ξ10 => [aJ (some ⟨(ξ10 6 0).2.1,0,none⟩) 1 3 1 1 (aq cI [p1])]⟩,⟨fun ξ10 => .slice (ξ10 7 0).1 ((0 + (Int.toNat u3)) + 1) (ξ10 7 0).2.2.1,fun ξ10 => aJ (ξ10 7 0).1 (ξ10 7 0).2.2.1 3 1 ((0 + (Int.toNat u3)) + 1) (aq cI ((([]:List Int) ++ (p0.take (Int.toNat u3))) ++ [p1])),fun _ => []⟩,⟨fun _ => .slice Aa p0.length ca,fun _ => noR,fun _ => []⟩,⟨fun _ => vI u3,fun _ => noR,fun _ => []⟩,⟨fun _ => .slice (if ca = Int.toNat u3 then Aa else Option.map (fun x => x.add (Int.toNat u3 * 1)) Aa) (p0.length - Int.toNat u3) (ca - Int.toNat u3),fun _ => noR,fun _ => []⟩,⟨fun ξ10 => .slice (ξ10 11 0).1 (((0 + (Int.toNat u3)) + 1) + (p0.length - Int.toNat u3)) (ξ10 11 0).2.2.1,fun ξ10 => aJ (ξ10 11 0).1 (ξ10 11 0).2.2.1 3 1 (((0 + (Int.toNat u3)) + 1) + (p0.length - Int.toNat u3)) (aq cI (((([]:List Int) ++ (p0.take (Int.toNat u3))) ++ [p1]) ++ (p0.drop (Int.toNat u3)))),fun _ => []⟩,⟨fun ξ10 => .slice (ξ10 11 0).1 (((0 + (Int.toNat u3)) + 1) + (p0.length - Int.toNat u3)) (ξ10 11 0).2.2.1,fun _ => noR,fun _ => []⟩] 0 cQ (by kernel_rfl) (by kernel_rfl) ⟨⟨fun ξ10 ξ10' h => ⟨by simp only [h 0 (.inl rfl)],rfl,by simp only [h 0 (.inl rfl)]⟩,fun _ => rfl⟩,⟨fun ξ10 ξ10' h => ⟨rfl,rfl,rfl⟩,fun _ => rfl⟩,⟨fun ξ10 ξ10' h => ⟨rfl,rfl,rfl⟩,fun _ => rfl⟩,⟨fun ξ10 ξ10' h => ⟨rfl,rfl,rfl⟩,fun _ => rfl⟩,⟨fun ξ10 ξ10' h => ⟨by simp only [h 4 (.inl rfl)],by simp only [h 4 (.inl rfl)],rfl⟩,fun _ => rfl⟩,⟨fun ξ10 ξ10' h => ⟨rfl,rfl,rfl⟩,fun _ => rfl⟩,⟨fun ξ10 ξ10' h => ⟨by simp only [h 6 (.inl rfl)],rfl,by simp only [h 6 (.inl rfl)]⟩,fun _ => rfl⟩,⟨fun ξ10 ξ10' h => ⟨by simp only [h 7 (.inl rfl)],by simp only [h 7 (.inl rfl)],rfl⟩,fun _ => rfl⟩,⟨fun ξ10 ξ10' h => ⟨rfl,rfl,rfl⟩,fun _ => rfl⟩,⟨fun ξ10 ξ10' h => ⟨rfl,rfl,rfl⟩,fun _ => rfl⟩,⟨fun ξ10 ξ10' h => ⟨rfl,rfl,rfl⟩,fun _ => rfl⟩,⟨fun ξ10 ξ10' h => ⟨by simp only [h 11 (.inl rfl)],by simp only [h 11 (.inl rfl)],rfl⟩,fun _ => rfl⟩,⟨fun ξ10 ξ10' h => ⟨by simp only [h 11 (.inr rfl)],rfl,rfl⟩,fun _ => rfl⟩,trivial⟩ rfl (fun ξ10 => ?_)
  refine bn rfl (fun L2 => ?_) ?_
  ·dsimp only [aw,lca,lna]
   refine cy cI bJ gO iJ rfl (fun b11 => ?_)
   refine oN ?_
   exact ae (fun _ => (none,b11,0,[],noR)) rfl rfl
  dsimp only [a8,lsz,lss,lna,lca,List.append_nil]
  refine bn rfl (fun L2 => ?_) ?_
  ·dsimp only [aw,lca,lna]
   refine oY rfl (yMS rfl) (oN ?_)
   exact ae (fun _ => (none,0,0,[],noR)) rfl (List.append_nil _)
  dsimp only [a8,lsz,lss,lna,lca,List.append_nil]
  refine bn rfl (fun L2 => ?_) ?_
  ·dsimp only [aw,lca,lna]
   refine oY rfl (yMI rfl) (oN ?_)
   exact ae (fun _ => (none,0,0,[],noR)) rfl (List.append_nil _)
  dsimp only [a8,lsz,lss,lna,lca,List.append_nil]
  refine bn rfl (fun L2 => ?_) ?_
  ·dsimp only [aw,lca,lna]
   refine oY rfl (nS cO hg12.1 hg12.2 (RdL.arg hr0_0) rfl rfl) (oN ?_)
   exact ae (fun _ => (none,0,0,[],noR)) rfl (List.append_nil _)
  dsimp only [a8,lsz,lss,lna,lca,List.append_nil]
  refine bn rfl (fun L2 => ?_) ?_
  ·dsimp only [aw,lca,lna]
   refine ba 0 bJ gO iJ rfl rfl rfl (RdL.cutH ax (RdL.arg hr0_0) hg12.1 hg12.2) (eL ax (gp hg12.2 rfl)) (bK gB _) (bO hg15 (by decide)) rfl (fun A13 c14 => ?_)
   refine oN ?_
   first | exact ae (fun _ => (A13,0,c14,[],noR)) rfl rfl | exact ae (fun _ => (A13,0,c14,[],noR)) rfl (List.append_nil _)
  dsimp only [a8,lsz,lss,lna,lca,List.append_nil]
  refine bn rfl (fun L2 => ?_) ?_
  ·dsimp only [aw,lca,lna]
   refine oY rfl (yMI rfl) (oN ?_)
   exact ae (fun _ => (none,0,0,[],noR)) rfl (List.append_nil _)
  dsimp only [a8,lsz,lss,lna,lca,List.append_nil]
  refine bn rfl (fun L2 => ?_) ?_
  ·dsimp only [aw,lca,lna]
   refine aF 1 (aq cI [p1]) _ iz bJ gO iJ (by decide) (by decide) (by kernel_rfl) (eL ax rfl) rfl (fun b16 => ?_)
   refine oN ?_
   exact ae (fun _ => (none,b16,0,[],noR)) rfl rfl
  dsimp only [a8,lsz,lss,lna,lca,List.append_nil]
  refine bn rfl (fun L2 => ?_) ?_
  ·dsimp only [aw,lca,lna]
   refine ba 0 bJ gO iJ rfl rfl rfl (RdL.row 1 rfl) (eL ax rfl) (bK gB _) (bO hg19 (by decide)) rfl (fun A17 c18 => ?_)
   refine oN ?_
   first | exact ae (fun _ => (A17,0,c18,[],noR)) rfl rfl | exact ae (fun _ => (A17,0,c18,[],noR)) rfl (List.append_nil _)
  dsimp only [a8,lsz,lss,lna,lca,List.append_nil]
  refine bn rfl (fun L2 => ?_) ?_
  ·dsimp only [aw,lca,lna]
   refine oY rfl (yMS rfl) (oN ?_)
   exact ae (fun _ => (none,0,0,[],noR)) rfl (List.append_nil _)
  dsimp only [a8,lsz,lss,lna,lca,List.append_nil]
  refine bn rfl (fun L2 => ?_) ?_
  ·dsimp only [aw,lca,lna]
   refine oY rfl (yMI rfl) (oN ?_)
   exact ae (fun _ => (none,0,0,[],noR)) rfl (List.append_nil _)
  dsimp only [a8,lsz,lss,lna,lca,List.append_nil]
  refine bn rfl (fun L2 => ?_) ?_
  ·dsimp only [aw,lca,lna]
   refine oY rfl (ol cO hg20.1 hg20.2 (RdL.arg hr0_0) rfl rfl) (oN ?_)
   exact ae (fun _ => (none,0,0,[],noR)) rfl (List.append_nil _)
  dsimp only [a8,lsz,lss,lna,lca,List.append_nil]
  refine bn rfl (fun L2 => ?_) ?_
  ·dsimp only [aw,lca,lna]
   refine ba 0 bJ gO iJ rfl rfl rfl (RdL.cutL ax (RdL.arg hr0_0) hg20.1 hg20.2 rfl) (eL ax (iF rfl)) (bK gB _) (bO hg23 (by decide)) rfl (fun A21 c22 => ?_)
   refine oN ?_
   first | exact ae (fun _ => (A21,0,c22,[],noR)) rfl rfl | exact ae (fun _ => (A21,0,c22,[],noR)) rfl (List.append_nil _)
  dsimp only [a8,lsz,lss,lna,lca,List.append_nil]
  refine bn rfl (fun L2 => ?_) ?_
  ·dsimp only [aw,lca,lna]
   refine oY rfl (yAS rfl) (oN ?_)
   exact ae (fun _ => (none,0,0,[],noR)) rfl (List.append_nil _)
  dsimp only [a8,lsz,lss,lna,lca,List.append_nil]
  refine g7 (eT (ao ?_))
  obtain rfl:=sI h
  exact ap (.inl rfl) rfl (rVt (v:=.slice (ξ10 11 0).1 (((0 + (Int.toNat u3)) + 1) + (p0.length - Int.toNat u3)) (ξ10 11 0).2.2.1) rfl) (fun W2 hW2 => ⟨((ξ10 11 0).1,(((0 + (Int.toNat u3)) + 1) + (p0.length - Int.toNat u3)),(ξ10 11 0).2.2.1),(cJ (cJ (cJ rfl (gp hg12.2 rfl)) rfl) (iF rfl)),rfl,(hW2.pick 0 rfl)⟩)
theorem nD (p0:TY) (res:TInts) (h:eJ p0 = some res) (W:World) (Aa:Option Addr) (n0_0 ca : Nat) (hn0_0:n0_0 = p0.fB.length) (hr0_0:Rd W Aa n0_0 ca (aq TBay_cells p0.fB)) (Ab:Option Addr) (n0_1 cb : Nat) (hn0_1:n0_1 = p0.fR.length) (hr0_1:Rd W Ab n0_1 cb (aq TOrder_cells p0.fR)) :
  Calls Tryz.prog 28 [.agg #[.slice Aa n0_0 ca,.slice Ab n0_1 cb]].toArray W fun e W2 => ∃ x : Option Addr × Nat × Nat,x.2.1 = res.fL.length ∧ e = .returned (.agg #[.slice x.1 x.2.1 x.2.2,vI res.fE]) ∧ Ext W W2 [aJ x.1 x.2.2 3 1 x.2.1 (aq cI res.fL)]:=by
 subst hn0_0
 subst hn0_1
 unfold eJ at h
 refine ac (m:=41) Tryz.func28 rfl rfl (nB rfl) (cS (cR ?_))
 refine aX [.slice Aa p0.fB.length ca,.slice Ab p0.fR.length cb] rfl rfl rfl (fun b1 => ?_)
 refine aB kV rfl (fun b2 => ?_)
 refine oN (eT (cS (cR (oY rfl (yN 0 [.slice Aa p0.fB.length ca,.slice Ab p0.fR.length cb] bt rfl rfl rfl) ?_))))
 obtain ⟨y3,hy4,h⟩:=bOs h
 refine oY rfl (yC [.agg #[.slice Aa p0.fB.length ca,.slice Ab p0.fR.length cb]] th rfl (fun W2 hW2 => dw p0 y3 hy4 W2 Aa p0.fB.length ca rfl ((RdL.arg hr0_0) W2 hW2) Ab p0.fR.length cb rfl ((RdL.arg hr0_1) W2 hW2)) rfl) (oY rfl (yAI rfl) (oN (eT (cS (cS (cR (oY rfl (yMI rfl) (oY rfl (em rfl rfl) (oN (eT ?_))))))))))
 rcases iOs h with ⟨hp5,h⟩ | ⟨hp5,h⟩
 ·refine cT (vB hp5) (cS (cR (oY rfl (yMI rfl) ?_)))
  refine oY rfl (aR [.slice none 0 0,vI y3] [(0,1),(1,1)] mq kV (by kernel_rfl)) ?_
  refine cH rfl (yS 1 [.slice none 0 0,vI y3] m3 rfl (nB rfl) rfl rfl rfl) (oN (eT (ao (aa ?_))))
  obtain rfl:=sI h
  exact ap (.inl rfl) rfl (bp 1 [.slice none 0 0,vI y3] pR rfl rfl rfl) (fun W2 hW2 => ⟨(none,0,0),rfl,rfl,((hW2.nilrow 3 1).pick 2 rfl)⟩)
 ·refine cF (vB hp5) (cK (eT (cS ?_)))
  obtain ⟨y6,hy7,h⟩:=bOs h
  refine lw 2 3 (fun v L1 => ∃ x : (Option Addr × Nat × Nat),x.2.1 = y6.length ∧ v = .slice x.1 x.2.1 x.2.2 ∧ L1 = [aJ x.1 x.2.2 3 1 x.2.1 (aq cI y6)]) cQ (by kernel_rfl) (by kernel_rfl) (by kernel_rfl) ?_
  refine qz rfl (fun _ => yN 0 [.slice Aa p0.fB.length ca,.slice Ab p0.fR.length cb] bt rfl rfl rfl) (qz rfl (fun _ => yN 0 [.slice Aa p0.fB.length ca,.slice Ab p0.fR.length cb] bt rfl rfl rfl) (bx_q rfl (oC [.agg #[.slice Aa p0.fB.length ca,.slice Ab p0.fR.length cb],vI (-1),vI (-1)] _ _ _ rfl rY rfl (fun W2 hW2 => eV p0 (-1) (-1) y6 hy7 W2 Aa p0.fB.length ca rfl ((RdL.arg hr0_0) W2 hW2) Ab p0.fR.length cb rfl ((RdL.arg hr0_1) W2 hW2)) (fun x hx => oN (p5 ⟨x,hx,rfl,rfl⟩))) (rc rfl ?_)))
  rintro v L1 ⟨⟨A8,n10,c9⟩,hn11,rfl,rfl⟩
  replace hn11 : n10 = y6.length:=hn11; subst hn11
  obtain ⟨y12,hy13,h⟩:=bOs h
  refine oY rfl (yC [.agg #[.slice Aa p0.fB.length ca,.slice Ab p0.fR.length cb],.slice A8 y6.length c9] r3 rfl (fun W2 hW2 => ee p0 y6 y12 hy13 W2 Aa p0.fB.length ca rfl ((RdL.arg hr0_0) W2 hW2) Ab p0.fR.length cb rfl ((RdL.arg hr0_1) W2 hW2) A8 y6.length c9 rfl ((RdL.row 2 rfl) W2 hW2)) rfl) (oY rfl (yAI rfl) (oN (jl (eT (cS (cR (oY rfl (yAS rfl) (oN (eT (cS (cS (cR (oY rfl (yAI rfl) (oN (eT (ah ?_))))))))))))))))
  obtain ⟨u17,hl39,h⟩:=bOs h
  refine ck 3 1 ?_
  refine a6 (fun (s:(Int × (List Int))) L tm => ∃ (tm0:Nat → Value) (A3_s:Option Addr) (c3_s:Nat) (n3_s:Nat),n3_s = s.2.length ∧ L = [ak b1 53 [.slice Aa p0.fB.length ca,.slice Ab p0.fR.length cb],ak b2 46 [.slice none 0 0,vI 0],aJ A8 c9 3 1 y6.length (aq cI y6),aJ A3_s c3_s 3 1 n3_s (aq cI s.2)] ∧ tm = (upd (upd (upd (upd (upd tm0 1 (.pointer (some ⟨b1,0,none⟩))) 2 (.pointer (some ⟨b2,0,none⟩))) 4 (vI y12)) 5 (.slice A3_s n3_s c3_s)) 6 (vI s.1))) 0 hl39 ⟨_,none,0,0,rfl,rfl,(kp4 (kp rfl))⟩ ?_ ?_
  ·rintro s16 L tm st ⟨tm0_s16,A3_s16,c3_s16,n3_s16,rfl,rfl,rfl⟩ h
   unfold eB at h
   refine cS (cS (cR (oY rfl (yMI rfl) (oY rfl (yFA bf rfl) (oY rfl (yL 0 dE rfl rfl rfl) (oY rfl (bo (us:=[]) g6 rfl) (oY rfl (bq rfl rfl) (oN (eT ?_)))))))))
   rcases iOs h with ⟨hp18,h⟩ | ⟨hp18,h⟩
   ·refine cT (vB hp18) (cK (eT (cS (ah (cS ?_)))))
    obtain ⟨y19,hy20,h⟩:=bOs h
    refine cx_drawsD 3 6 (fun v L1 => ∃ x : (Option Addr × Nat × Nat),x.2.1 = y19.length ∧ v = .slice x.1 x.2.1 x.2.2 ∧ L1 = [aJ x.1 x.2.2 3 1 x.2.1 (aq cI y19)]) cQ (by kernel_rfl) (by kernel_rfl) (by kernel_rfl) ?_
    refine bdx_y rfl (fun _ => yN 0 [.slice Aa p0.fB.length ca,.slice Ab p0.fR.length cb] bt rfl rfl rfl) (bdx_y rfl (fun _ => yN 0 [.slice Aa p0.fB.length ca,.slice Ab p0.fR.length cb] bt rfl rfl rfl) (bdx_y rfl (fun _ => yMI rfl) (bdx_q rfl (oC [.agg #[.slice Aa p0.fB.length ca,.slice Ab p0.fR.length cb],vI (-1),vI s16.1] _ _ _ rfl rY rfl (fun W2 hW2 => eV p0 (-1) s16.1 y19 hy20 W2 Aa p0.fB.length ca rfl ((RdL.arg hr0_0) W2 hW2) Ab p0.fR.length cb rfl ((RdL.arg hr0_1) W2 hW2)) (fun x hx => oN (p5 ⟨x,hx,rfl,rfl⟩))) ?_)))
    obtain ⟨y25,hy26,h⟩:=bOs h
    refine kdx_dep (v:=vI y25) rfl (by kernel_rfl) rfl (by rintro v1 L1 ⟨⟨A21,n23,c22⟩,hn24,rfl,rfl⟩; replace hn24 : n23 = y19.length:=hn24; subst hn24; exact yC [.agg #[.slice Aa p0.fB.length ca,.slice Ab p0.fR.length cb],.slice A21 y19.length c22] r3 rfl (fun W2 hW2 => ee p0 y19 y25 hy26 W2 Aa p0.fB.length ca rfl ((RdL.arg hr0_0) W2 hW2) Ab p0.fR.length cb rfl ((RdL.arg hr0_1) W2 hW2) A21 y19.length c22 rfl ((RdL.row 4 rfl) W2 hW2)) rfl) ?_
    refine kdx_y rfl (by kernel_rfl) (fun _ => yMI rfl) ?_
    refine kdx_nil rfl ?_
    rintro v L1 ⟨⟨A27,n29,c28⟩,hn30,rfl,rfl⟩
    replace hn30 : n29 = y19.length:=hn30; subst hn30
    refine oY rfl (bq rfl rfl) (oN (jl (eT ?_)))
    rcases iOs h with ⟨hp31,h⟩ | ⟨hp31,h⟩
    ·refine cT (vB hp31) (cR (oY rfl (yMS rfl) (oY rfl (yFA bf rfl) (oY rfl (yL 0 dE rfl rfl rfl) (oY rfl (yMI rfl) ?_)))))
     obtain ⟨hg32,h⟩:=gOs h
     refine oY rfl (yI gE (by decide) hg32.1 hg32.2 (RdL.arg hr0_1) (eL ad rfl) rfl rfl) ?_
     refine oY rfl (yFR (A:=Ab) (j:=(Int.toNat s16.1 * 5)) gm rfl) (oY rfl (yR (A:=Ab) (j:=((Int.toNat s16.1 * 5) + 0)) (v:=vI ((rdL p0.fR s16.1).fID)) bg (RdL.arg hr0_1) rfl (eG ad hg32.1 (aA hg32.2 rfl) rfl)) ?_)
     obtain ⟨y33,hy34,h⟩:=bOs h
     refine oC [.slice A3_s16 s16.2.length c3_s16,vI ((rdL p0.fR s16.1).fID)] _ _ _ rfl go_82 rfl (fun W2 hW2 => jI s16.2 ((rdL p0.fR s16.1).fID) y33 hy34 W2 A3_s16 s16.2.length c3_s16 rfl ((RdL.row 3 rfl) W2 hW2)) ?_
     rintro ⟨A35,n37,c36⟩ hn38
     replace hn38 : n37 = y33.length:=hn38; subst hn38
     try dsimp only [lna,lca,lsz,lss]
     refine oY rfl (yAS rfl) (oN (au (eT (cR (oY rfl (yMI rfl) (oY rfl (aY rfl rfl) (oY rfl (yAI rfl) (oN ?_))))))))
     refine pC 3 5 (by decide) rfl ?_
     try dsimp only [lsz,lss]
     refine aN 4 ?_
     obtain rfl:=sI h
     exact eN ⟨_,A35,c36,y33.length,rfl,rfl,(kp4 (kp rfl))⟩
    ·refine cF (vB hp31) (cK (au (eT (cR (oY rfl (yMI rfl) (oY rfl (aY rfl rfl) (oY rfl (yAI rfl) (oN (aN 4 ?_)))))))))
     obtain rfl:=sI h
     exact eN ⟨_,A3_s16,c3_s16,s16.2.length,rfl,rfl,(kp4 (kp rfl))⟩
   ·refine cF (vB hp18) (aG (ag ?_))
    obtain rfl:=sI h
    exact ay ⟨rfl,_,A3_s16,c3_s16,s16.2.length,rfl,rfl,(kp4 (kp rfl))⟩
  ·intro e L tm hJ
   obtain ⟨rfl,tm0_u17,A3_u17,c3_u17,n3_u17,rfl,rfl,rfl⟩:=hJ
   refine ⟨(by intro hc; cases hc),?_⟩
   refine ab (eT (cS (cR (oY rfl (yMS rfl) ?_))))
   refine oY rfl (aR [.slice A3_u17 u17.2.length c3_u17,vI 0] [(0,1),(1,1)] mq kV (by kernel_rfl)) ?_
   refine cH rfl (yS 1 [.slice A3_u17 u17.2.length c3_u17,vI 0] m3 rfl (nB rfl) rfl rfl rfl) (oN (eT (ao ?_)))
   obtain rfl:=sI h
   exact ap (.inl rfl) rfl (bp 1 [.slice A3_u17 u17.2.length c3_u17,vI 0] pR rfl rfl rfl) (fun W2 hW2 => ⟨(A3_u17,u17.2.length,c3_u17),rfl,rfl,(hW2.pick 3 rfl)⟩)
theorem nQ (p0:TY) (res:TInts) (h:fq p0 = some res) (W:World) (Aa:Option Addr) (n0_0 ca : Nat) (hn0_0:n0_0 = p0.fB.length) (hr0_0:Rd W Aa n0_0 ca (aq TBay_cells p0.fB)) (Ab:Option Addr) (n0_1 cb : Nat) (hn0_1:n0_1 = p0.fR.length) (hr0_1:Rd W Ab n0_1 cb (aq TOrder_cells p0.fR)) :
  Calls Tryz.prog 30 [.agg #[.slice Aa n0_0 ca,.slice Ab n0_1 cb]].toArray W fun e W2 => ∃ x : Option Addr × Nat × Nat,x.2.1 = res.fL.length ∧ e = .returned (.agg #[.slice x.1 x.2.1 x.2.2,vI res.fE]) ∧ Ext W W2 [aJ x.1 x.2.2 3 1 x.2.1 (aq cI res.fL)]:=by
 subst hn0_0
 subst hn0_1
 unfold fq at h
 refine ac (m:=50) Tryz.func30 rfl rfl (nB rfl) (cS (cR ?_))
 refine aX [.slice Aa p0.fB.length ca,.slice Ab p0.fR.length cb] rfl rfl rfl (fun b1 => ?_)
 refine aB kV rfl (fun b2 => ?_)
 refine oN (eT (cS (cR (oY rfl (yN 0 [.slice Aa p0.fB.length ca,.slice Ab p0.fR.length cb] bt rfl rfl rfl) ?_))))
 obtain ⟨y3,hy4,h⟩:=bOs h
 refine oY rfl (yC [.agg #[.slice Aa p0.fB.length ca,.slice Ab p0.fR.length cb]] th rfl (fun W2 hW2 => dw p0 y3 hy4 W2 Aa p0.fB.length ca rfl ((RdL.arg hr0_0) W2 hW2) Ab p0.fR.length cb rfl ((RdL.arg hr0_1) W2 hW2)) rfl) (oY rfl (yAI rfl) (oN (eT (cS (cS (cR (oY rfl (yMI rfl) (oY rfl (em rfl rfl) (oN (eT ?_))))))))))
 rcases iOs h with ⟨hp5,h⟩ | ⟨hp5,h⟩
 ·refine cT (vB hp5) (cS (cR (oY rfl (yMI rfl) ?_)))
  refine oY rfl (aR [.slice none 0 0,vI y3] [(0,1),(1,1)] mq kV (by kernel_rfl)) ?_
  refine cH rfl (yS 1 [.slice none 0 0,vI y3] m3 rfl (nB rfl) rfl rfl rfl) (oN (eT (ao (aa ?_))))
  obtain rfl:=sI h
  exact ap (.inl rfl) rfl (bp 1 [.slice none 0 0,vI y3] pR rfl rfl rfl) (fun W2 hW2 => ⟨(none,0,0),rfl,rfl,((hW2.nilrow 3 1).pick 2 rfl)⟩)
 ·refine cF (vB hp5) (cK (eT (cS ?_)))
  obtain ⟨y6,hy7,h⟩:=bOs h
  refine lw 2 3 (fun v L1 => ∃ x : (Option Addr × Nat × Nat),x.2.1 = y6.length ∧ v = .slice x.1 x.2.1 x.2.2 ∧ L1 = [aJ x.1 x.2.2 3 1 x.2.1 (aq cI y6)]) cQ (by kernel_rfl) (by kernel_rfl) (by kernel_rfl) ?_
  refine qz rfl (fun _ => yN 0 [.slice Aa p0.fB.length ca,.slice Ab p0.fR.length cb] bt rfl rfl rfl) (qz rfl (fun _ => yN 0 [.slice Aa p0.fB.length ca,.slice Ab p0.fR.length cb] bt rfl rfl rfl) (bx_q rfl (oC [.agg #[.slice Aa p0.fB.length ca,.slice Ab p0.fR.length cb],vI (-1),vI (-1)] _ _ _ rfl rY rfl (fun W2 hW2 => eV p0 (-1) (-1) y6 hy7 W2 Aa p0.fB.length ca rfl ((RdL.arg hr0_0) W2 hW2) Ab p0.fR.length cb rfl ((RdL.arg hr0_1) W2 hW2)) (fun x hx => oN (p5 ⟨x,hx,rfl,rfl⟩))) (rc rfl ?_)))
  rintro v L1 ⟨⟨A8,n10,c9⟩,hn11,rfl,rfl⟩
  replace hn11 : n10 = y6.length:=hn11; subst hn11
  obtain ⟨y12,hy13,h⟩:=bOs h
  refine oY rfl (yC [.agg #[.slice Aa p0.fB.length ca,.slice Ab p0.fR.length cb],.slice A8 y6.length c9] r3 rfl (fun W2 hW2 => ee p0 y6 y12 hy13 W2 Aa p0.fB.length ca rfl ((RdL.arg hr0_0) W2 hW2) Ab p0.fR.length cb rfl ((RdL.arg hr0_1) W2 hW2) A8 y6.length c9 rfl ((RdL.row 2 rfl) W2 hW2)) rfl) (oY rfl (yAI rfl) (oN (jl (eT (cS (cR (oY rfl (yAS rfl) (oN (eT (cS (cS (cR (oY rfl (yAI rfl) (oN (eT (ah ?_))))))))))))))))
  obtain ⟨u17,hl39,h⟩:=bOs h
  refine ck 3 1 ?_
  refine a6 (fun (s:(Int × (List Int))) L tm => ∃ (tm0:Nat → Value) (A3_s:Option Addr) (c3_s:Nat) (n3_s:Nat),n3_s = s.2.length ∧ L = [ak b1 53 [.slice Aa p0.fB.length ca,.slice Ab p0.fR.length cb],ak b2 46 [.slice none 0 0,vI 0],aJ A8 c9 3 1 y6.length (aq cI y6),aJ A3_s c3_s 3 1 n3_s (aq cI s.2)] ∧ tm = (upd (upd (upd (upd (upd tm0 1 (.pointer (some ⟨b1,0,none⟩))) 2 (.pointer (some ⟨b2,0,none⟩))) 4 (vI y12)) 5 (.slice A3_s n3_s c3_s)) 6 (vI s.1))) 0 hl39 ⟨_,none,0,0,rfl,rfl,(kp4 (kp rfl))⟩ ?_ ?_
  ·rintro s16 L tm st ⟨tm0_s16,A3_s16,c3_s16,n3_s16,rfl,rfl,rfl⟩ h
   unfold fa at h
   refine cS (cS (cR (oY rfl (yMI rfl) (oY rfl (yFA bf rfl) (oY rfl (yL 0 dE rfl rfl rfl) (oY rfl (bo (us:=[]) g6 rfl) (oY rfl (bq rfl rfl) (oN (eT ?_)))))))))
   rcases iOs h with ⟨hp18,h⟩ | ⟨hp18,h⟩
   ·refine cT (vB hp18) (cK (eT (cS (ah (cS (cR (oY rfl (yN 0 [.slice Aa p0.fB.length ca,.slice Ab p0.fR.length cb] bt rfl rfl rfl) (oY rfl (yMI rfl) ?_))))))))
    refine aF 1 (aq cI [s16.1]) _ iz bJ gO iJ (by decide) (by decide) (by kernel_rfl) (eL ax rfl) rfl (fun b19 => ?_)
    obtain ⟨y20,hy21,h⟩:=bOs h
    refine oY rfl (yC [.agg #[.slice Aa p0.fB.length ca,.slice Ab p0.fR.length cb],.slice (some ⟨b19,0,none⟩) 1 1] r9 rfl (fun W2 hW2 => fz p0 [s16.1] y20 hy21 W2 Aa p0.fB.length ca rfl ((RdL.arg hr0_0) W2 hW2) Ab p0.fR.length cb rfl ((RdL.arg hr0_1) W2 hW2) (some ⟨b19,0,none⟩) 1 1 rfl ((RdL.row 4 rfl) W2 hW2)) rfl) (oY rfl (yAB rfl) (oN (eT (cS ?_))))
    rcases iOs h with ⟨hq21_3,h⟩ | ⟨hq21_3,h⟩
    ·refine df [[],[0],[0,1],[0,1,2],[0,1,2],[0,1,2],[0,1,2,4,5],[0,1,2,3,4,5,6],[0,1,2],[0,1,2,3,4,5,6,7,8],[0,1,2,3,4,5,6,7,8,9]] [(none,0,[true,true,true,true,true]),(none,0,[true,true,true,true,true]),(none,0,[true,true,true,true,true]),(none,0,[true,true,true,true,true]),(none,0,[true,true,true,true,true]),(none,0,[true,true,true,true,true]),(none,0,[true,true,true,true,true]),(none,0,[true,true,true,true,true]),(none,0,[true,true,true,true,true]),(none,0,[true,true,true,true,true]),(none,0,[true,true,true,true,true])] [⟨fun _ => .bool y20,fun _ => noR,fun _ => []⟩,⟨fun _ => .bool (!y20),fun _ => noR,fun _ => []⟩,⟨fun _ => .bool (!y20),fun _ => noR,fun _ => []⟩,⟨fun _ => undef,fun _ => noR,fun _ => []⟩,⟨fun _ => undef,fun _ => noR,fun _ => []⟩,⟨fun _ => undef,fun _ => noR,fun _ => []⟩,⟨fun _ => undef,fun _ => noR,fun _ => []⟩,⟨fun _ => undef,fun _ => noR,fun _ => []⟩,⟨fun _ => undef,fun _ => noR,fun _ => []⟩,⟨fun _ => undef,fun _ => noR,fun _ => []⟩,⟨fun _ => .bool true,fun _ => noR,fun _ => []⟩] 5 cQ (by kernel_rfl) (by kernel_rfl) ⟨⟨fun ξ22 ξ22' h => ⟨rfl,rfl,rfl⟩,fun _ => rfl⟩,⟨fun ξ22 ξ22' h => ⟨rfl,rfl,rfl⟩,fun _ => rfl⟩,⟨fun ξ22 ξ22' h => ⟨rfl,rfl,rfl⟩,fun _ => rfl⟩,⟨fun ξ22 ξ22' h => ⟨rfl,rfl,rfl⟩,fun _ => rfl⟩,⟨fun ξ22 ξ22' h => ⟨rfl,rfl,rfl⟩,fun _ => rfl⟩,⟨fun ξ22 ξ22' h => ⟨rfl,rfl,rfl⟩,fun _ => rfl⟩,⟨fun ξ22 ξ22' h => ⟨rfl,rfl,rfl⟩,fun _ => rfl⟩,⟨fun ξ22 ξ22' h => ⟨rfl,rfl,rfl⟩,fun _ => rfl⟩,⟨fun ξ22 ξ22' h => ⟨rfl,rfl,rfl⟩,fun _ => rfl⟩,⟨fun ξ22 ξ22' h => ⟨rfl,rfl,rfl⟩,fun _ => rfl⟩,⟨fun ξ22 ξ22' h => ⟨rfl,rfl,rfl⟩,fun _ => rfl⟩,trivial⟩ rfl (fun ξ22 => ?_)
     refine bn rfl (fun L2 => ?_) ?_
     ·dsimp only [aw,lca,lna]
      refine oY rfl (yMB rfl) (oN ?_)
      exact ae (fun _ => (none,0,0,[],noR)) rfl (List.append_nil _)
     dsimp only [a8,lsz,lss,lna,lca,List.append_nil]
     refine bn rfl (fun L2 => ?_) ?_
     ·dsimp only [aw,lca,lna]
      refine oY rfl (cq rfl) (oN ?_)
      exact ae (fun _ => (none,0,0,[],noR)) rfl (List.append_nil _)
     dsimp only [a8,lsz,lss,lna,lca,List.append_nil]
     refine bn rfl (fun L2 => ?_) ?_
     ·dsimp only [aw,lca,lna]
      refine oY rfl (yMB rfl) (oN ?_)
      exact ae (fun _ => (none,0,0,[],noR)) rfl (List.append_nil _)
     dsimp only [a8,lsz,lss,lna,lca,List.append_nil]
     refine kH (sF rfl rfl rfl rfl hq21_3) ?_
     dsimp only [a8,lsz,lss,lna,lca,List.append_nil]
     refine kH (sF rfl rfl rfl rfl hq21_3) ?_
     dsimp only [a8,lsz,lss,lna,lca,List.append_nil]
     refine kH (sF rfl rfl rfl rfl hq21_3) ?_
     dsimp only [a8,lsz,lss,lna,lca,List.append_nil]
     refine kH (sF rfl rfl rfl rfl hq21_3) ?_
     dsimp only [a8,lsz,lss,lna,lca,List.append_nil]
     refine kH (sF rfl rfl rfl rfl hq21_3) ?_
     dsimp only [a8,lsz,lss,lna,lca,List.append_nil]
     refine kH (sF rfl rfl rfl rfl hq21_3) ?_
     dsimp only [a8,lsz,lss,lna,lca,List.append_nil]
     refine kH (sF rfl rfl rfl rfl hq21_3) ?_
     dsimp only [a8,lsz,lss,lna,lca,List.append_nil]
     refine bn rfl (fun L2 => ?_) ?_
     ·dsimp only [aw,lca,lna]
      refine oY rfl (ai (vB hq21_3) rfl) (oN ?_)
      exact ae (fun _ => (none,0,0,[],noR)) rfl (List.append_nil _)
     dsimp only [a8,lsz,lss,lna,lca,List.append_nil]
     refine g7 (eT (cT rfl (cR (oY rfl (yMS rfl) (oY rfl (yFA bf rfl) (oY rfl (yL 0 dE rfl rfl rfl) (oY rfl (yMI rfl) ?_)))))))
     obtain ⟨hg23,h⟩:=gOs h
     refine oY rfl (yI gE (by decide) hg23.1 hg23.2 (RdL.arg hr0_1) (eL ad rfl) rfl rfl) ?_
     refine oY rfl (yFR (A:=Ab) (j:=(Int.toNat s16.1 * 5)) gm rfl) (oY rfl (yR (A:=Ab) (j:=((Int.toNat s16.1 * 5) + 0)) (v:=vI ((rdL p0.fR s16.1).fID)) bg (RdL.arg hr0_1) rfl (eG ad hg23.1 (aA hg23.2 rfl) rfl)) ?_)
     obtain ⟨y24,hy25,h⟩:=bOs h
     refine oC [.slice A3_s16 s16.2.length c3_s16,vI ((rdL p0.fR s16.1).fID)] _ _ _ rfl go_82 rfl (fun W2 hW2 => jI s16.2 ((rdL p0.fR s16.1).fID) y24 hy25 W2 A3_s16 s16.2.length c3_s16 rfl ((RdL.row 3 rfl) W2 hW2)) ?_
     rintro ⟨A26,n28,c27⟩ hn29
     replace hn29 : n28 = y24.length:=hn29; subst hn29
     try dsimp only [lna,lca,lsz,lss]
     refine oY rfl (yAS rfl) (oN (au (eT (cR (oY rfl (yMI rfl) (oY rfl (aY rfl rfl) (oY rfl (yAI rfl) (oN ?_))))))))
     refine pC 3 5 (by decide) rfl ?_
     try dsimp only [lsz,lss]
     refine aN 4 ?_
     obtain rfl:=sI h
     exact eN ⟨_,A26,c27,y24.length,rfl,rfl,(kp4 (kp rfl))⟩
    ·obtain ⟨y23,hy24,h⟩:=bOs h
     obtain ⟨y29,hy30,h⟩:=bOs h
     refine df [[],[0],[0,1],[0,1,2],[0,1,2],[0,1,2],[0,1,2,4,5],[0,1,2,3,4,5,6],[0,1,2],[0,1,2,3,4,5,6,7,8],[0,1,2,3,4,5,6,7,8,9]] [(none,0,[true,true,true,true,true]),(none,0,[true,true,true,true,true]),(none,0,[true,true,true,true,true]),(none,0,[true,true,true,true,true]),(none,0,[true,true,true,true,true]),(none,0,[true,true,true,true,true]),(none,1,[true,true,true,true,true]),(none,0,[true,true,true,true,true,true]),(none,0,[true,true,true,true,true,false]),(none,0,[true,true,true,true,true,true]),(none,0,[true,true,true,true,true,true])] [⟨fun _ => .bool y20,fun _ => noR,fun _ => []⟩,⟨fun _ => .bool (!y20),fun _ => noR,fun _ => []⟩,⟨fun _ => .bool (!y20),fun _ => noR,fun _ => []⟩,⟨fun _ => .agg #[.slice Aa p0.fB.length ca,.slice Ab p0.fR.length cb],fun _ => noR,fun _ => []⟩,⟨fun _ => .agg #[.slice Aa p0.fB.length ca,.slice Ab p0.fR.length cb],fun _ => noR,fun _ => []⟩,⟨fun _ => vI s16.1,fun _ => noR,fun _ => []⟩,⟨fun ξ22 => .slice (ξ22 6 0).1 y23.length (ξ22 6 0).2.2.1,fun _ => noR,fun ξ22 => [aJ (ξ22 6 0).1 (ξ22 6 0).2.2.1 3 1 y23.length (aq cI y23)]⟩,⟨fun _ => vI y29,fun _ => noR,fun _ => []⟩,⟨fun _ => vI y12,fun _ => noR,fun _ => []⟩,⟨fun _ => .bool (decide (y29 < y12)),fun _ => noR,fun _ => []⟩,⟨fun _ => .bool (decide (y29 < y12)),fun _ => noR,fun _ => []⟩] 5 cQ (by kernel_rfl) (by kernel_rfl) ⟨⟨fun ξ22 ξ22' h => ⟨rfl,rfl,rfl⟩,fun _ => rfl⟩,⟨fun ξ22 ξ22' h => ⟨rfl,rfl,rfl⟩,fun _ => rfl⟩,⟨fun ξ22 ξ22' h => ⟨rfl,rfl,rfl⟩,fun _ => rfl⟩,⟨fun ξ22 ξ22' h => ⟨rfl,rfl,rfl⟩,fun _ => rfl⟩,⟨fun ξ22 ξ22' h => ⟨rfl,rfl,rfl⟩,fun _ => rfl⟩,⟨fun ξ22 ξ22' h => ⟨rfl,rfl,rfl⟩,fun _ => rfl⟩,⟨fun ξ22 ξ22' h => ⟨by simp only [h 6 (.inl rfl)],rfl,by simp only [h 6 (.inl rfl)]⟩,fun _ => rfl⟩,⟨fun ξ22 ξ22' h => ⟨rfl,rfl,rfl⟩,fun _ => rfl⟩,⟨fun ξ22 ξ22' h => ⟨rfl,rfl,rfl⟩,fun _ => rfl⟩,⟨fun ξ22 ξ22' h => ⟨rfl,rfl,rfl⟩,fun _ => rfl⟩,⟨fun ξ22 ξ22' h => ⟨rfl,rfl,rfl⟩,fun _ => rfl⟩,trivial⟩ rfl (fun ξ22 => ?_)
     refine bn rfl (fun L2 => ?_) ?_
     ·dsimp only [aw,lca,lna]
      refine oY rfl (yMB rfl) (oN ?_)
      exact ae (fun _ => (none,0,0,[],noR)) rfl (List.append_nil _)
     dsimp only [a8,lsz,lss,lna,lca,List.append_nil]
     refine bn rfl (fun L2 => ?_) ?_
     ·dsimp only [aw,lca,lna]
      refine oY rfl (cq rfl) (oN ?_)
      exact ae (fun _ => (none,0,0,[],noR)) rfl (List.append_nil _)
     dsimp only [a8,lsz,lss,lna,lca,List.append_nil]
     refine bn rfl (fun L2 => ?_) ?_
     ·dsimp only [aw,lca,lna]
      refine oY rfl (yMB rfl) (oN ?_)
      exact ae (fun _ => (none,0,0,[],noR)) rfl (List.append_nil _)
     dsimp only [a8,lsz,lss,lna,lca,List.append_nil]
     refine bn (sT rfl rfl rfl rfl hq21_3) (fun L2 => ?_) ?_
     ·dsimp only [aw,lca,lna]
      refine oY (sT rfl rfl rfl rfl hq21_3) (yN 0 [.slice Aa p0.fB.length ca,.slice Ab p0.fR.length cb] bt rfl rfl rfl) (oN ?_)
      exact ae (fun _ => (none,0,0,[],noR)) rfl (List.append_nil _)
     dsimp only [a8,lsz,lss,lna,lca,List.append_nil]
     refine bn (sT rfl rfl rfl rfl hq21_3) (fun L2 => ?_) ?_
     ·dsimp only [aw,lca,lna]
      refine oY (sT rfl rfl rfl rfl hq21_3) (yN 0 [.slice Aa p0.fB.length ca,.slice Ab p0.fR.length cb] bt rfl rfl rfl) (oN ?_)
      exact ae (fun _ => (none,0,0,[],noR)) rfl (List.append_nil _)
     dsimp only [a8,lsz,lss,lna,lca,List.append_nil]
     refine bn (sT rfl rfl rfl rfl hq21_3) (fun L2 => ?_) ?_
     ·dsimp only [aw,lca,lna]
      refine oY (sT rfl rfl rfl rfl hq21_3) (yMI rfl) (oN ?_)
      exact ae (fun _ => (none,0,0,[],noR)) rfl (List.append_nil _)
     dsimp only [a8,lsz,lss,lna,lca,List.append_nil]
     refine bn (sT rfl rfl rfl rfl hq21_3) (fun L2 => ?_) ?_
     ·dsimp only [aw,lca,lna]
      refine oC [.agg #[.slice Aa p0.fB.length ca,.slice Ab p0.fR.length cb],vI s16.1,vI (-1)] _ _ _ (sT rfl rfl rfl rfl hq21_3) rY rfl (fun W2 hW2 => eV p0 s16.1 (-1) y23 hy24 W2 Aa p0.fB.length ca rfl ((RdL.arg hr0_0) W2 hW2) Ab p0.fR.length cb rfl ((RdL.arg hr0_1) W2 hW2)) ?_
      rintro ⟨A25,n27,c26⟩ hn28
      replace hn28 : n27 = y23.length:=hn28; subst hn28
      refine oN ?_
      exact ae (fun _ => (A25,0,c26,[],noR)) rfl rfl
     dsimp only [a8,lsz,lss,lna,lca,List.append_nil]
     refine bn (sT rfl rfl rfl rfl hq21_3) (fun L2 => ?_) ?_
     ·dsimp only [aw,lca,lna]
      refine oY (sT rfl rfl rfl rfl hq21_3) (yC [.agg #[.slice Aa p0.fB.length ca,.slice Ab p0.fR.length cb],.slice (ξ22 6 0).1 y23.length (ξ22 6 0).2.2.1] r3 rfl (fun W2 hW2 => ee p0 y23 y29 hy30 W2 Aa p0.fB.length ca rfl ((RdL.arg hr0_0) W2 hW2) Ab p0.fR.length cb rfl ((RdL.arg hr0_1) W2 hW2) (ξ22 6 0).1 y23.length (ξ22 6 0).2.2.1 rfl ((RdL.row 5 rfl) W2 hW2)) rfl) (oN ?_)
      exact ae (fun _ => (none,0,0,[],noR)) rfl (List.append_nil _)
     dsimp only [a8,lsz,lss,lna,lca,List.append_nil]
     refine bn (sT rfl rfl rfl rfl hq21_3) (fun L2 => ?_) ?_
     ·dsimp only [aw,lca,lna]
      refine oY (sT rfl rfl rfl rfl hq21_3) (yMI rfl) (oN ?_)
      exact ae (fun _ => (none,0,0,[],noR)) rfl (List.append_nil _)
     dsimp only [a8,lsz,lss,lna,lca,List.append_nil]
     refine bn (sT rfl rfl rfl rfl hq21_3) (fun L2 => ?_) ?_
     ·dsimp only [aw,lca,lna]
      refine oY (sT rfl rfl rfl rfl hq21_3) (bq rfl rfl) (oN ?_)
      exact ae (fun _ => (none,0,0,[],noR)) rfl (List.append_nil _)
     dsimp only [a8,lsz,lss,lna,lca,List.append_nil]
     refine bn rfl (fun L2 => ?_) ?_
     ·dsimp only [aw,lca,lna]
      refine oY rfl (aj (vB hq21_3) rfl) (oN ?_)
      exact ae (fun _ => (none,0,0,[],noR)) rfl (List.append_nil _)
     dsimp only [a8,lsz,lss,lna,lca,List.append_nil]
     refine g7 (eT ?_)
     rcases iOs h with ⟨hp31,h⟩ | ⟨hp31,h⟩
     ·refine cT (vB hp31) (cR ?_)
      try dsimp only [lna,lca,lsz,lss]
      refine oY rfl (yMS rfl) (oY rfl (yFA bf rfl) (oY rfl (yL 0 dE rfl rfl rfl) (oY rfl (yMI rfl) ?_)))
      obtain ⟨hg32,h⟩:=gOs h
      refine oY rfl (yI gE (by decide) hg32.1 hg32.2 (RdL.arg hr0_1) (eL ad rfl) rfl rfl) ?_
      refine oY rfl (yFR (A:=Ab) (j:=(Int.toNat s16.1 * 5)) gm rfl) (oY rfl (yR (A:=Ab) (j:=((Int.toNat s16.1 * 5) + 0)) (v:=vI ((rdL p0.fR s16.1).fID)) bg (RdL.arg hr0_1) rfl (eG ad hg32.1 (aA hg32.2 rfl) rfl)) ?_)
      obtain ⟨y33,hy34,h⟩:=bOs h
      refine oC [.slice A3_s16 s16.2.length c3_s16,vI ((rdL p0.fR s16.1).fID)] _ _ _ rfl go_82 rfl (fun W2 hW2 => jI s16.2 ((rdL p0.fR s16.1).fID) y33 hy34 W2 A3_s16 s16.2.length c3_s16 rfl ((RdL.row 3 rfl) W2 hW2)) ?_
      rintro ⟨A35,n37,c36⟩ hn38
      replace hn38 : n37 = y33.length:=hn38; subst hn38
      try dsimp only [lna,lca,lsz,lss]
      refine oY rfl (yAS rfl) (oN (au (eT (cR (oY rfl (yMI rfl) (oY rfl (aY rfl rfl) (oY rfl (yAI rfl) (oN ?_))))))))
      refine pC 3 6 (by decide) rfl ?_
      try dsimp only [lsz,lss]
      refine aN 4 ?_
      obtain rfl:=sI h
      exact eN ⟨_,A35,c36,y33.length,rfl,rfl,(kp4 (kp rfl))⟩
     ·refine cF (vB hp31) (cK (au (eT (cR ?_))))
      try dsimp only [lna,lca,lsz,lss]
      refine oY rfl (yMI rfl) (oY rfl (aY rfl rfl) (oY rfl (yAI rfl) (oN (aN 4 ?_))))
      obtain rfl:=sI h
      exact eN ⟨_,A3_s16,c3_s16,s16.2.length,rfl,rfl,(kp4 (kp rfl))⟩
   ·refine cF (vB hp18) (aG (ag ?_))
    obtain rfl:=sI h
    exact ay ⟨rfl,_,A3_s16,c3_s16,s16.2.length,rfl,rfl,(kp4 (kp rfl))⟩
  ·intro e L tm hJ
   obtain ⟨rfl,tm0_u17,A3_u17,c3_u17,n3_u17,rfl,rfl,rfl⟩:=hJ
   refine ⟨(by intro hc; cases hc),?_⟩
   refine ab (eT (cS (cR (oY rfl (yMS rfl) ?_))))
   refine oY rfl (aR [.slice A3_u17 u17.2.length c3_u17,vI 0] [(0,1),(1,1)] mq kV (by kernel_rfl)) ?_
   refine cH rfl (yS 1 [.slice A3_u17 u17.2.length c3_u17,vI 0] m3 rfl (nB rfl) rfl rfl rfl) (oN (eT (ao ?_)))
   obtain rfl:=sI h
   exact ap (.inl rfl) rfl (bp 1 [.slice A3_u17 u17.2.length c3_u17,vI 0] pR rfl rfl rfl) (fun W2 hW2 => ⟨(A3_u17,u17.2.length,c3_u17),rfl,rfl,(hW2.pick 3 rfl)⟩)
theorem mG (p0:TY) (p1:(List Int)) (res:((List Int) × Bool)) (h:fV p0 p1 = some res) (W:World) (Aa:Option Addr) (n0_0 ca : Nat) (hn0_0:n0_0 = p0.fB.length) (hr0_0:Rd W Aa n0_0 ca (aq TBay_cells p0.fB)) (Ab:Option Addr) (n0_1 cb : Nat) (hn0_1:n0_1 = p0.fR.length) (hr0_1:Rd W Ab n0_1 cb (aq TOrder_cells p0.fR)) (Ac:Option Addr) (n1_0 cc : Nat) (hn1_0:n1_0 = p1.length) (hr1_0:Rd W Ac n1_0 cc (aq cI p1)) :
  Calls Tryz.prog 95 [.agg #[.slice Aa n0_0 ca,.slice Ab n0_1 cb],.slice Ac n1_0 cc].toArray W fun e W2 => ∃ x : Option Addr × Nat × Nat,x.2.1 = res.1.length ∧ e = .returned (.tuple #[.slice x.1 x.2.1 x.2.2,.bool res.2]) ∧ Ext W W2 [aJ x.1 x.2.2 3 1 x.2.1 (aq cI res.1)]:=by
 subst hn0_0
 subst hn0_1
 subst hn1_0
 unfold fV at h
 refine ac (m:=45) Tryz.func95 rfl rfl (nB rfl) (cS (cR ?_))
 refine aX [.slice Aa p0.fB.length ca,.slice Ab p0.fR.length cb] rfl rfl rfl (fun b1 => ?_)
 refine oY rfl (yAS rfl) (oY rfl (yAB rfl) (oN (eT (cS (cR (oY rfl (yAS rfl) (oN (eT (cS (cS (cR (oY rfl (yAI rfl) (oN (eT (ah ?_)))))))))))))))
 obtain ⟨u5,hl23,h⟩:=bOs h
 refine ck 3 1 (ck 3 1 ?_)
 refine bV (fun (s:(Bool × Int × (List Int))) L tm => ∃ (tm0:Nat → Value) (A2_s:Option Addr) (c2_s:Nat) (n2_s:Nat),n2_s = s.2.2.length ∧ L = [ak b1 53 [.slice Aa p0.fB.length ca,.slice Ab p0.fR.length cb],aJ none 0 3 1 0 (aq cI ([]:List Int)),aJ A2_s c2_s 3 1 n2_s (aq cI s.2.2)] ∧ tm = (upd (upd (upd (upd (upd (upd tm0 1 (.slice Ac p1.length cc)) 2 (.pointer (some ⟨b1,0,none⟩))) 4 (.slice none 0 0)) 5 (.bool s.1)) 6 (.slice A2_s n2_s c2_s)) 7 (vI s.2.1))) 0 hl23 ⟨_,none,0,0,rfl,rfl,(kp4 (kp (kp rfl)))⟩ ?_ ?_
 ·rintro s4 L tm st ⟨tm0_s4,A2_s4,c2_s4,n2_s4,rfl,rfl,rfl⟩ h
  unfold di at h
  refine cS (cS (cR (oY rfl (yMI rfl) (oY rfl (yMS rfl) (oY rfl (bo (us:=[]) bJ rfl) (oY rfl (bq rfl rfl) (oN (eT ?_))))))))
  rcases iOs h with ⟨hp6,h⟩ | ⟨hp6,h⟩
  ·refine cT (vB hp6) (cK (eT (cS (ah (cS ?_)))))
   refine bN 7 cQ (by kernel_rfl) (by kernel_rfl) ?_
   refine qY rfl (yN 0 [.slice Aa p0.fB.length ca,.slice Ab p0.fR.length cb] bt rfl rfl rfl) (qY rfl (yMS rfl) (qY rfl (yMI rfl) ?_))
   obtain ⟨hg7,h⟩:=gOs h
   refine qY rfl (yI cO (by decide) hg7.1 hg7.2 (RdL.arg hr1_0) (eL ax rfl) rfl rfl) ?_
   refine qY rfl (yR (A:=Ac) (j:=(Int.toNat s4.2.1 * 1)) (v:=vI (rdL p1 s4.2.1)) bg (RdL.arg hr1_0) rfl (aL ax hg7.1 (aA hg7.2 rfl) rfl)) ?_
   obtain ⟨y8,hy9,h⟩:=bOs h
   refine qY rfl (yC [.agg #[.slice Aa p0.fB.length ca,.slice Ab p0.fR.length cb],vI (rdL p1 s4.2.1)] go_103 rfl (fun W2 hW2 => nP p0 (rdL p1 s4.2.1) y8 hy9 W2 Aa p0.fB.length ca rfl ((RdL.arg hr0_0) W2 hW2) Ab p0.fR.length cb rfl ((RdL.arg hr0_1) W2 hW2)) rfl) (qY rfl (yAI rfl) (dr (oN (eT (cS (cS ?_))))))
   refine bN 19 cQ (by kernel_rfl) (by kernel_rfl) ?_
   refine qY rfl (yMI rfl) (qY rfl (bq rfl rfl) (qY rfl (yMB rfl) ?_))
   obtain ⟨b11,hb12,h⟩:=bOs h
   refine qJ 16 (fun tm0 => (upd (upd (upd (upd (upd (upd (upd (upd (upd tm0 1 (.slice Ac p1.length cc)) 2 (.pointer (some ⟨b1,0,none⟩))) 4 (.slice none 0 0)) 5 (.bool s4.1)) 6 (.slice A2_s4 s4.2.2.length c2_s4)) 7 (vI s4.2.1)) 12 (.bool (decide (s4.2.1 < (p1.length:Int))))) 8 (vI y8)) 39 (.bool b11))) (fun tm0 => ?_) (fun key => ?_)
   ·refine dr (oN (eT ?_))
    rcases iOs h with ⟨hp13,h⟩ | ⟨hp13,h⟩
    ·refine cT (vB hp13) (cS (cR (oY rfl (yAS rfl) (oY rfl (yAB rfl) (oN (eT (ao (aa (am (aa ?_))))))))))
     obtain rfl:=sI h
     exact ay ⟨rfl,_,A2_s4,c2_s4,s4.2.2.length,rfl,rfl,(kp4 (kp (kp rfl)))⟩
    ·refine cF (vB hp13) (cK (eT (cR (oY rfl (yMS rfl) (oY rfl (yMI rfl) ?_)))))
     refine aF 1 (aq cI [y8]) _ iz bJ gO iJ (by decide) (by decide) (by kernel_rfl) (eL ax rfl) rfl (fun b14 => ?_)
     obtain ⟨hg17,h⟩:=gOs h
     refine ba 2 bJ gO iJ rfl rfl rfl (RdL.row 3 rfl) (eL ax rfl) (bK gB _) (bO hg17 (by decide)) rfl (fun A15 c16 => ?_)
     refine oY rfl (yAS rfl) (oN (au (eT (cR (oY rfl (yMI rfl) (oY rfl (aY rfl rfl) (oY rfl (yAI rfl) (oN (aN 3 ?_)))))))))
     obtain rfl:=sI h
     exact eN ⟨_,A15,c16,(s4.2.2.length + 1),(cJ rfl rfl),rfl,(kp4 (kp (kp rfl)))⟩
   ·clear h; rcases iOs hb12 with ⟨hp10,h⟩ | ⟨hp10,h⟩
    ·refine aH (sF rfl rfl rfl rfl hp10) (aH (sF rfl rfl rfl rfl hp10) (aH (sF rfl rfl rfl rfl hp10) (aH rfl (aH rfl (aH rfl (aH rfl (aH rfl (aH rfl (aH rfl (aH rfl (aH rfl (aH rfl (aH rfl (aH (sF rfl rfl rfl rfl hp10) (qY rfl (ai (vB hp10) rfl) ?_)))))))))))))))
     obtain rfl:=sI h
     exact key _ _ (kp4 (kp4 (kp rfl)))
    ·refine qY (sT rfl rfl rfl rfl hp10) (yMI rfl) (qY (sT rfl rfl rfl rfl hp10) (iN rfl rfl) (qY (sT rfl rfl rfl rfl hp10) (yMB rfl) ?_))
     obtain ⟨b19,hb20,h⟩:=bOs h
     refine qJ 12 (fun tm0 => (upd (upd (upd (upd (upd (upd (upd (upd (upd (upd tm0 1 (.slice Ac p1.length cc)) 2 (.pointer (some ⟨b1,0,none⟩))) 4 (.slice none 0 0)) 5 (.bool s4.1)) 6 (.slice A2_s4 s4.2.2.length c2_s4)) 7 (vI s4.2.1)) 12 (.bool (decide (s4.2.1 < (p1.length:Int))))) 8 (vI y8)) 23 (.bool (decide (y8 < 0)))) 38 (.bool b19))) (fun tm0 => ?_) (fun key => ?_)
     ·refine qY rfl (aj (vB hp10) rfl) ?_
      obtain rfl:=sI h
      exact key _ _ (kp4 (kp4 (kp rfl)))
     ·clear h; rcases iOs hb20 with ⟨hp18,h⟩ | ⟨hp18,h⟩
      ·refine qY (sT rfl rfl rfl rfl hp18) (yMS rfl) (qY (sT rfl rfl rfl rfl hp18) (yMI rfl) ?_)
       obtain ⟨hg21,h⟩:=gOs h
       refine qY (sT rfl rfl rfl rfl hp18) (yI cO (by decide) hg21.1 hg21.2 (RdL.arg hr1_0) (eL ax rfl) rfl rfl) ?_
       refine qY (sT rfl rfl rfl rfl hp18) (yR (A:=Ac) (j:=(Int.toNat s4.2.1 * 1)) (v:=vI (rdL p1 s4.2.1)) bg (RdL.arg hr1_0) rfl (aL ax hg21.1 (aA hg21.2 rfl) rfl)) (qY (sT rfl rfl rfl rfl hp18) (yMS rfl) (qY (sT rfl rfl rfl rfl hp18) (yMI rfl) (qY (sT rfl rfl rfl rfl hp18) (f4 rfl rfl) (qY (sT rfl rfl rfl rfl hp18) (y_max rfl rfl) ?_))))
       obtain ⟨hg22,h⟩:=gOs h
       refine qY (sT rfl rfl rfl rfl hp18) (yI cO (by decide) hg22.1 hg22.2 (RdL.arg hr1_0) (eL ax rfl) rfl rfl) ?_
       refine qY (sT rfl rfl rfl rfl hp18) (yR (A:=Ac) (j:=(Int.toNat (max 0 (w64 (s4.2.1 - 1))) * 1)) (v:=vI (rdL p1 (max 0 (w64 (s4.2.1 - 1))))) bg (RdL.arg hr1_0) rfl (aL ax hg22.1 (aA hg22.2 rfl) rfl)) (qY (sT rfl rfl rfl rfl hp18) (km rfl rfl) (qY (sT rfl rfl rfl rfl hp10) (ai (vB hp18) rfl) ?_))
       obtain rfl:=sI h
       exact key _ _ (kp4 (kp4 (kp (kp rfl))))
      ·refine aH (sF rfl rfl rfl rfl hp18) (aH (sF rfl rfl rfl rfl hp18) (aH (sF rfl rfl rfl rfl hp18) (aH (sF rfl rfl rfl rfl hp18) (aH (sF rfl rfl rfl rfl hp18) (aH (sF rfl rfl rfl rfl hp18) (aH (sF rfl rfl rfl rfl hp18) (aH (sF rfl rfl rfl rfl hp18) (aH (sF rfl rfl rfl rfl hp18) (aH (sF rfl rfl rfl rfl hp18) (aH (sF rfl rfl rfl rfl hp18) (qY (sT rfl rfl rfl rfl hp10) (aj (vB hp18) rfl) ?_)))))))))))
       obtain rfl:=sI h
       exact key _ _ (kp4 (kp4 (kp (kp rfl))))
  ·refine cF (vB hp6) (aG (ag ?_))
   obtain rfl:=sI h
   exact ay ⟨rfl,_,A2_s4,c2_s4,s4.2.2.length,rfl,rfl,(kp4 (kp (kp rfl)))⟩
 ·intro e L tm hJ
  rcases u5 with u24 | u25
  ·dsimp only at h hJ
   obtain ⟨rfl,tm0_u24,A2_u24,c2_u24,n2_u24,rfl,rfl,rfl⟩:=hJ
   refine ⟨(by intro hc; cases hc),?_⟩
   refine am (aa ?_)
   obtain rfl:=sI h
   exact bF (.inl rfl) rfl (rVt (v:=.slice none 0 0) rfl) (rVt (v:=.bool u24.1) rfl) (fun W2 hW2 => ⟨(none,0,0),rfl,rfl,(hW2.pick 1 rfl)⟩)
  ·dsimp only at h hJ
   obtain ⟨rfl,tm0_u25,A2_u25,c2_u25,n2_u25,rfl,rfl,rfl⟩:=hJ
   refine ⟨(by intro hc; cases hc),?_⟩
   refine ab (eT (cS (cR (oY rfl (yMS rfl) (oY rfl (yAS rfl) (oY rfl (yAB rfl) (oN (eT (ao ?_)))))))))
   obtain rfl:=sI h
   exact bF (.inl rfl) rfl (rVt (v:=.slice A2_u25 u25.2.2.length c2_u25) rfl) (rVt (v:=.bool true) rfl) (fun W2 hW2 => ⟨(A2_u25,u25.2.2.length,c2_u25),rfl,rfl,(hW2.pick 2 rfl)⟩)
theorem mA (p0:TY) (p1:(List Int)) (res:TInts) (h:d3 p0 p1 = some res) (W:World) (Aa:Option Addr) (n0_0 ca : Nat) (hn0_0:n0_0 = p0.fB.length) (hr0_0:Rd W Aa n0_0 ca (aq TBay_cells p0.fB)) (Ab:Option Addr) (n0_1 cb : Nat) (hn0_1:n0_1 = p0.fR.length) (hr0_1:Rd W Ab n0_1 cb (aq TOrder_cells p0.fR)) (Ac:Option Addr) (n1_0 cc : Nat) (hn1_0:n1_0 = p1.length) (hr1_0:Rd W Ac n1_0 cc (aq cI p1)) :
  Calls Tryz.prog 32 [.agg #[.slice Aa n0_0 ca,.slice Ab n0_1 cb],.slice Ac n1_0 cc].toArray W fun e W2 => ∃ x : Option Addr × Nat × Nat,x.2.1 = res.fL.length ∧ e = .returned (.agg #[.slice x.1 x.2.1 x.2.2,vI res.fE]) ∧ Ext W W2 [aJ x.1 x.2.2 3 1 x.2.1 (aq cI res.fL)]:=by
 subst hn0_0
 subst hn0_1
 subst hn1_0
 unfold d3 at h
 refine ac (m:=74) Tryz.func32 rfl rfl (nB rfl) (cS (cR ?_))
 refine aX [.slice Aa p0.fB.length ca,.slice Ab p0.fR.length cb] rfl rfl rfl (fun b1 => ?_)
 refine aB kV rfl (fun b2 => ?_)
 refine oN (eT (cS (cR (oY rfl (yN 0 [.slice Aa p0.fB.length ca,.slice Ab p0.fR.length cb] bt rfl rfl rfl) ?_))))
 obtain ⟨y3,hy4,h⟩:=bOs h
 refine oY rfl (yC [.agg #[.slice Aa p0.fB.length ca,.slice Ab p0.fR.length cb]] th rfl (fun W2 hW2 => dw p0 y3 hy4 W2 Aa p0.fB.length ca rfl ((RdL.arg hr0_0) W2 hW2) Ab p0.fR.length cb rfl ((RdL.arg hr0_1) W2 hW2)) rfl) (oY rfl (yAI rfl) (oN (eT (cS (cS (cR (oY rfl (yMI rfl) (oY rfl (em rfl rfl) (oN (eT ?_))))))))))
 rcases iOs h with ⟨hp5,h⟩ | ⟨hp5,h⟩
 ·refine cT (vB hp5) (cS (cR (oY rfl (yMI rfl) ?_)))
  refine oY rfl (aR [.slice none 0 0,vI y3] [(0,1),(1,1)] mq kV (by kernel_rfl)) ?_
  refine cH rfl (yS 1 [.slice none 0 0,vI y3] m3 rfl (nB rfl) rfl rfl rfl) (oN (eT (ao (aa ?_))))
  obtain rfl:=sI h
  exact ap (.inl rfl) rfl (bp 1 [.slice none 0 0,vI y3] pR rfl rfl rfl) (fun W2 hW2 => ⟨(none,0,0),rfl,rfl,((hW2.nilrow 3 1).pick 2 rfl)⟩)
 ·refine cF (vB hp5) (cK (eT (cS (cR (oY rfl (yN 0 [.slice Aa p0.fB.length ca,.slice Ab p0.fR.length cb] bt rfl rfl rfl) (oY rfl (yMS rfl) ?_))))))
  obtain ⟨y6,hy7,h⟩:=bOs h
  refine oC [.agg #[.slice Aa p0.fB.length ca,.slice Ab p0.fR.length cb],.slice Ac p1.length cc] _ _ _ rfl go_95 rfl (fun W2 hW2 => mG p0 p1 y6 hy7 W2 Aa p0.fB.length ca rfl ((RdL.arg hr0_0) W2 hW2) Ab p0.fR.length cb rfl ((RdL.arg hr0_1) W2 hW2) Ac p1.length cc rfl ((RdL.arg hr1_0) W2 hW2)) ?_
  rintro ⟨A8,n10,c9⟩ hn11
  replace hn11 : n10 = y6.1.length:=hn11; subst hn11
  refine oY rfl (aM rfl) (oY rfl (yE rfl rfl) (oY rfl (yE rfl rfl) (oY rfl (yAS rfl) (oY rfl (yAB rfl) (oN (eT (cS (cS (cR (oY rfl (yMB rfl) (oY rfl (cq rfl) (oN (eT ?_)))))))))))))
  rcases iOs h with ⟨hp12,h⟩ | ⟨hp12,h⟩
  ·refine cT (vB hp12) (cS (cR ?_))
   refine oY rfl (aR [.slice none 0 0,vI 1] [(0,1),(1,1)] mq kV (by kernel_rfl)) ?_
   refine cH rfl (yS 1 [.slice none 0 0,vI 1] m3 rfl (nB rfl) rfl rfl rfl) (oN (eT (ao (aa ?_))))
   obtain rfl:=sI h
   exact ap (.inl rfl) rfl (bp 1 [.slice none 0 0,vI 1] pR rfl rfl rfl) (fun W2 hW2 => ⟨(none,0,0),rfl,rfl,((hW2.nilrow 3 1).pick 3 rfl)⟩)
  ·refine cF (vB hp12) (cK (eT (cS (cR (oY rfl (yN 0 [.slice Aa p0.fB.length ca,.slice Ab p0.fR.length cb] bt rfl rfl rfl) (oY rfl (yMS rfl) ?_))))))
   obtain ⟨y13,hy14,h⟩:=bOs h
   refine oY rfl (yC [.agg #[.slice Aa p0.fB.length ca,.slice Ab p0.fR.length cb],.slice A8 y6.1.length c9] r9 rfl (fun W2 hW2 => fz p0 y6.1 y13 hy14 W2 Aa p0.fB.length ca rfl ((RdL.arg hr0_0) W2 hW2) Ab p0.fR.length cb rfl ((RdL.arg hr0_1) W2 hW2) A8 y6.1.length c9 rfl ((RdL.row 2 rfl) W2 hW2)) rfl) (oY rfl (yAB rfl) (oN (eT (cS (cS (cR (oY rfl (yMB rfl) (oN (eT ?_)))))))))
   rcases iOs h with ⟨hp15,h⟩ | ⟨hp15,h⟩
   ·refine cT (vB hp15) (cS (cR ?_))
    refine oY rfl (aR [.slice none 0 0,vI 5] [(0,1),(1,1)] mq kV (by kernel_rfl)) ?_
    refine cH rfl (yS 1 [.slice none 0 0,vI 5] m3 rfl (nB rfl) rfl rfl rfl) (oN (eT (ao (aa ?_))))
    obtain rfl:=sI h
    exact ap (.inl rfl) rfl (bp 1 [.slice none 0 0,vI 5] pR rfl rfl rfl) (fun W2 hW2 => ⟨(none,0,0),rfl,rfl,((hW2.nilrow 3 1).pick 3 rfl)⟩)
   ·refine cF (vB hp15) (cK (eT (cS (cR (oY rfl (yAI rfl) (oN (eT (cS (ah ?_)))))))))
    obtain ⟨u19,hl34,h⟩:=bOs h
    refine a6 (fun (s:(Bool × Int × (List Int))) L tm => ∃ (tm0:Nat → Value) (A2_s:Option Addr) (c2_s:Nat) (n2_s:Nat),n2_s = s.2.2.length ∧ L = [ak b1 53 [.slice Aa p0.fB.length ca,.slice Ab p0.fR.length cb],ak b2 46 [.slice none 0 0,vI 0],aJ A2_s c2_s 3 1 n2_s (aq cI s.2.2)] ∧ tm = (upd (upd (upd (upd (upd tm0 2 (.pointer (some ⟨b1,0,none⟩))) 4 (.pointer (some ⟨b2,0,none⟩))) 6 (.slice A2_s n2_s c2_s)) 8 (.bool s.1)) 9 (vI s.2.1))) 0 hl34 ⟨_,A8,c9,y6.1.length,rfl,rfl,(kp4 (kp rfl))⟩ ?_ ?_
    ·rintro s18 L tm st ⟨tm0_s18,A2_s18,c2_s18,n2_s18,rfl,rfl,rfl⟩ h
     unfold cN at h
     refine cS (cS (cR (oY rfl (yMI rfl) (oY rfl (yMS rfl) (oY rfl (bo (us:=[]) bJ rfl) (oY rfl (bq rfl rfl) (oN (eT ?_))))))))
     rcases iOs h with ⟨hp20,h⟩ | ⟨hp20,h⟩
     ·refine cT (vB hp20) (cK (eT (ah (cS ?_))))
      obtain ⟨hg23,h⟩:=gOs h
      obtain ⟨hg26,h⟩:=gOs h
      obtain ⟨hg27,h⟩:=gOs h
      obtain ⟨hg30,h⟩:=gOs h
      refine df [[],[],[],[1,2],[0,1,2,3],[],[],[6],[5,6,7],[0,1,2,3,4,5,6,7,8],[0,1,2,3,4,5,6,7,8,9]] [(none,1,[true,true,true]),(none,0,[true,true,true,false]),(none,0,[true,true,true,false]),(none,0,[true,true,true,false]),(some 3,0,[true,true,true,true]),(none,0,[true,true,true,false]),(none,0,[true,true,true,false]),(none,0,[true,true,true,false]),(none,0,[true,true,true,false]),(some 3,0,[true,true,true,true]),(none,0,[true,true,true,true])] [⟨fun ξ21 => .slice (some ⟨(ξ21 0 0).2.1,0,none⟩) 0 0,fun _ => noR,fun ξ21 => [aJ (some ⟨(ξ21 0 0).2.1,0,none⟩) 0 3 1 0 (aq cI ([]:List Int))]⟩,⟨fun _ => .slice A2_s18 s18.2.2.length c2_s18,fun _ => noR,fun _ => []⟩,⟨fun _ => vI s18.2.1,fun _ => noR,fun _ => []⟩,⟨fun _ => .slice A2_s18 (Int.toNat s18.2.1) c2_s18,fun _ => noR,fun _ => []⟩,⟨fun ξ21 => .slice (ξ21 4 0).1 (0 + (Int.toNat s18.2.1)) (ξ21 4 0).2.2.1,fun ξ21 => aJ (ξ21 4 0).1 (ξ21 4 0).2.2.1 3 1 (0 + (Int.toNat s18.2.1)) (aq cI (([]:List Int) ++ (s18.2.2.take (Int.toNat s18.2.1)))),fun _ => []⟩,⟨fun _ => .slice A2_s18 s18.2.2.length c2_s18,fun _ => noR,fun _ => []⟩,⟨fun _ => vI s18.2.1,fun _ => noR,fun _ => []⟩,⟨fun _ => vI (w64 (s18.2.1 + 1)),fun _ => noR,fun _ => []⟩,⟨fun _ => .slice (if c2_s18 = Int.toNat (w64 (s18.2.1 + 1)) then A2_s18 else Option.map (fun x => x.add (Int.toNat (w64 (s18.2.1 + 1)) * 1)) A2_s18) (s18.2.2.length - Int.toNat (w64 (s18.2.1 + 1))) (c2_s18 - Int.toNat (w64 (s18.2.1 + 1))),fun _ => noR,fun _ => []⟩,⟨fun ξ21 => .slice (ξ21 9 0).1 ((0 + (Int.toNat s18.2.1)) + (s18.2.2.length - Int.toNat (w64 (s18.2.1 + 1)))) (ξ21 9 0).2.2.1,fun ξ21 => aJ (ξ21 9 0).1 (ξ21 9 0).2.2.1 3 1 ((0 + (Int.toNat s18.2.1)) + (s18.2.2.length - Int.toNat (w64 (s18.2.1 + 1)))) (aq cI ((([]:List Int) ++ (s18.2.2.take (Int.toNat s18.2.1))) ++ (s18.2.2.drop (Int.toNat (w64 (s18.2.1 + 1)))))),fun _ => []⟩,⟨fun ξ21 => .slice (ξ21 9 0).1 ((0 + (Int.toNat s18.2.1)) + (s18.2.2.length - Int.toNat (w64 (s18.2.1 + 1)))) (ξ21 9 0).2.2.1,fun _ => noR,fun _ => []⟩] 3 cQ (by kernel_rfl) (by kernel_rfl) ⟨⟨fun ξ21 ξ21' h => ⟨by simp only [h 0 (.inl rfl)],rfl,by simp only [h 0 (.inl rfl)]⟩,fun _ => rfl⟩,⟨fun ξ21 ξ21' h => ⟨rfl,rfl,rfl⟩,fun _ => rfl⟩,⟨fun ξ21 ξ21' h => ⟨rfl,rfl,rfl⟩,fun _ => rfl⟩,⟨fun ξ21 ξ21' h => ⟨rfl,rfl,rfl⟩,fun _ => rfl⟩,⟨fun ξ21 ξ21' h => ⟨by simp only [h 4 (.inl rfl)],by simp only [h 4 (.inl rfl)],rfl⟩,fun _ => rfl⟩,⟨fun ξ21 ξ21' h => ⟨rfl,rfl,rfl⟩,fun _ => rfl⟩,⟨fun ξ21 ξ21' h => ⟨rfl,rfl,rfl⟩,fun _ => rfl⟩,⟨fun ξ21 ξ21' h => ⟨rfl,rfl,rfl⟩,fun _ => rfl⟩,⟨fun ξ21 ξ21' h => ⟨rfl,rfl,rfl⟩,fun _ => rfl⟩,⟨fun ξ21 ξ21' h => ⟨by simp only [h 9 (.inl rfl)],by simp only [h 9 (.inl rfl)],rfl⟩,fun _ => rfl⟩,⟨fun ξ21 ξ21' h => ⟨by simp only [h 9 (.inr rfl)],rfl,rfl⟩,fun _ => rfl⟩,trivial⟩ rfl (fun ξ21 => ?_)
      refine bn rfl (fun L2 => ?_) ?_
      ·dsimp only [aw,lca,lna]
       refine cy cI bJ gO iJ rfl (fun b22 => ?_)
       refine oN ?_
       exact ae (fun _ => (none,b22,0,[],noR)) rfl rfl
      dsimp only [a8,lsz,lss,lna,lca,List.append_nil]
      refine bn rfl (fun L2 => ?_) ?_
      ·dsimp only [aw,lca,lna]
       refine oY rfl (yMS rfl) (oN ?_)
       exact ae (fun _ => (none,0,0,[],noR)) rfl (List.append_nil _)
      dsimp only [a8,lsz,lss,lna,lca,List.append_nil]
      refine bn rfl (fun L2 => ?_) ?_
      ·dsimp only [aw,lca,lna]
       refine oY rfl (yMI rfl) (oN ?_)
       exact ae (fun _ => (none,0,0,[],noR)) rfl (List.append_nil _)
      dsimp only [a8,lsz,lss,lna,lca,List.append_nil]
      refine bn rfl (fun L2 => ?_) ?_
      ·dsimp only [aw,lca,lna]
       refine oY rfl (nS cO hg23.1 hg23.2 (RdL.row 2 rfl) rfl rfl) (oN ?_)
       exact ae (fun _ => (none,0,0,[],noR)) rfl (List.append_nil _)
      dsimp only [a8,lsz,lss,lna,lca,List.append_nil]
      refine bn rfl (fun L2 => ?_) ?_
      ·dsimp only [aw,lca,lna]
       refine ba 3 bJ gO iJ rfl rfl rfl (RdL.cutH ax (RdL.row 2 rfl) hg23.1 hg23.2) (eL ax (gp hg23.2 rfl)) (bK gB _) (bO hg26 (by decide)) rfl (fun A24 c25 => ?_)
       refine oN ?_
       first | exact ae (fun _ => (A24,0,c25,[],noR)) rfl rfl | exact ae (fun _ => (A24,0,c25,[],noR)) rfl (List.append_nil _)
      dsimp only [a8,lsz,lss,lna,lca,List.append_nil]
      refine bn rfl (fun L2 => ?_) ?_
      ·dsimp only [aw,lca,lna]
       refine oY rfl (yMS rfl) (oN ?_)
       exact ae (fun _ => (none,0,0,[],noR)) rfl (List.append_nil _)
      dsimp only [a8,lsz,lss,lna,lca,List.append_nil]
      refine bn rfl (fun L2 => ?_) ?_
      ·dsimp only [aw,lca,lna]
       refine oY rfl (yMI rfl) (oN ?_)
       exact ae (fun _ => (none,0,0,[],noR)) rfl (List.append_nil _)
      dsimp only [a8,lsz,lss,lna,lca,List.append_nil]
      refine bn rfl (fun L2 => ?_) ?_
      ·dsimp only [aw,lca,lna]
       refine oY rfl (aY rfl rfl) (oN ?_)
       exact ae (fun _ => (none,0,0,[],noR)) rfl (List.append_nil _)
      dsimp only [a8,lsz,lss,lna,lca,List.append_nil]
      refine bn rfl (fun L2 => ?_) ?_
      ·dsimp only [aw,lca,lna]
       refine oY rfl (ol cO hg27.1 hg27.2 (RdL.row 2 rfl) rfl rfl) (oN ?_)
       exact ae (fun _ => (none,0,0,[],noR)) rfl (List.append_nil _)
      dsimp only [a8,lsz,lss,lna,lca,List.append_nil]
      refine bn rfl (fun L2 => ?_) ?_
      ·dsimp only [aw,lca,lna]
       refine ba 3 bJ gO iJ rfl rfl rfl (RdL.cutL ax (RdL.row 2 rfl) hg27.1 hg27.2 rfl) (eL ax (iF rfl)) (bK gB _) (bO hg30 (by decide)) rfl (fun A28 c29 => ?_)
       refine oN ?_
       first | exact ae (fun _ => (A28,0,c29,[],noR)) rfl rfl | exact ae (fun _ => (A28,0,c29,[],noR)) rfl (List.append_nil _)
      dsimp only [a8,lsz,lss,lna,lca,List.append_nil]
      refine bn rfl (fun L2 => ?_) ?_
      ·dsimp only [aw,lca,lna]
       refine oY rfl (yAS rfl) (oN ?_)
       exact ae (fun _ => (none,0,0,[],noR)) rfl (List.append_nil _)
      dsimp only [a8,lsz,lss,lna,lca,List.append_nil]
      refine g7 (eT (cS (cR (oY rfl (yN 0 [.slice Aa p0.fB.length ca,.slice Ab p0.fR.length cb] bt rfl rfl rfl) (oY rfl (yMS rfl) ?_)))))
      obtain ⟨y31,hy32,h⟩:=bOs h
      refine oY rfl (yC [.agg #[.slice Aa p0.fB.length ca,.slice Ab p0.fR.length cb],.slice (ξ21 9 0).1 ((0 + (Int.toNat s18.2.1)) + (s18.2.2.length - Int.toNat (w64 (s18.2.1 + 1)))) (ξ21 9 0).2.2.1] r9 rfl (fun W2 hW2 => fz p0 ((([]:List Int) ++ (s18.2.2.take (Int.toNat s18.2.1))) ++ (s18.2.2.drop (Int.toNat (w64 (s18.2.1 + 1))))) y31 hy32 W2 Aa p0.fB.length ca rfl ((RdL.arg hr0_0) W2 hW2) Ab p0.fR.length cb rfl ((RdL.arg hr0_1) W2 hW2) (ξ21 9 0).1 ((0 + (Int.toNat s18.2.1)) + (s18.2.2.length - Int.toNat (w64 (s18.2.1 + 1)))) (ξ21 9 0).2.2.1 (cJ (cJ rfl (gp hg23.2 rfl)) (iF rfl)) ((RdL.row 3 rfl) W2 hW2)) rfl) (oY rfl (yAB rfl) (oN (eT (cS (cR (oY rfl (yMB rfl) (oN (eT ?_))))))))
      rcases iOs h with ⟨hp33,h⟩ | ⟨hp33,h⟩
      ·refine cT (vB hp33) (cR (oY rfl (yMI rfl) (oY rfl (aY rfl rfl) (oY rfl (yAI rfl) (oN (au (aN 3 ?_)))))))
       obtain rfl:=sI h
       exact eN ⟨_,A2_s18,c2_s18,s18.2.2.length,rfl,rfl,(kp4 (kp rfl))⟩
      ·refine cF (vB hp33) (cR (oY rfl (yMS rfl) (oY rfl (yAS rfl) (oN (au ?_)))))
       refine pC 2 3 (by decide) rfl ?_
       try dsimp only [lsz,lss]
       refine aN 3 ?_
       obtain rfl:=sI h
       exact eN ⟨_,(ξ21 9 0).1,(ξ21 9 0).2.2.1,((0 + (Int.toNat s18.2.1)) + (s18.2.2.length - Int.toNat (w64 (s18.2.1 + 1)))),(cJ (cJ rfl (gp hg23.2 rfl)) (iF rfl)),rfl,(kp4 (kp rfl))⟩
     ·refine cF (vB hp20) (aG (ag ?_))
      obtain rfl:=sI h
      exact ay ⟨rfl,_,A2_s18,c2_s18,s18.2.2.length,rfl,rfl,(kp4 (kp rfl))⟩
    ·intro e L tm hJ
     obtain ⟨rfl,tm0_u19,A2_u19,c2_u19,n2_u19,rfl,rfl,rfl⟩:=hJ
     refine ⟨(by intro hc; cases hc),?_⟩
     refine ab (eT (cS (cR (oY rfl (yAS rfl) (oN (eT (cS (cS (cR (oY rfl (yAI rfl) (oN (eT (ah ?_)))))))))))))
     obtain ⟨u38,hl46,h⟩:=bOs h
     refine ck 3 1 ?_
     refine a6 (fun (s:(Int × (List Int))) L tm => ∃ (tm0:Nat → Value) (A3_s:Option Addr) (c3_s:Nat) (n3_s:Nat),n3_s = s.2.length ∧ L = [ak b1 53 [.slice Aa p0.fB.length ca,.slice Ab p0.fR.length cb],ak b2 46 [.slice none 0 0,vI 0],aJ A2_u19 c2_u19 3 1 u19.2.2.length (aq cI u19.2.2),aJ A3_s c3_s 3 1 n3_s (aq cI s.2)] ∧ tm = (upd (upd (upd (upd (upd tm0 2 (.pointer (some ⟨b1,0,none⟩))) 4 (.pointer (some ⟨b2,0,none⟩))) 6 (.slice A2_u19 u19.2.2.length c2_u19)) 11 (.slice A3_s n3_s c3_s)) 12 (vI s.1))) 2 hl46 ⟨_,none,0,0,rfl,rfl,(kp4 (kp rfl))⟩ ?_ ?_
     ·rintro s37 L tm st ⟨tm0_s37,A3_s37,c3_s37,n3_s37,rfl,rfl,rfl⟩ h
      unfold dk at h
      refine cS (cS (cR (oY rfl (yMI rfl) (oY rfl (yMS rfl) (oY rfl (bo (us:=[]) bJ rfl) (oY rfl (bq rfl rfl) (oN (eT ?_))))))))
      rcases iOs h with ⟨hp39,h⟩ | ⟨hp39,h⟩
      ·refine cT (vB hp39) (cK (eT (cS (ah ?_))))
       refine m9 [0] 10 cQ (by kernel_rfl) (by kernel_rfl) ?_
       refine qY rfl (yMS rfl) (qY rfl (yFA bf rfl) (qY rfl (yL 0 dE rfl rfl rfl) (qY rfl (yMS rfl) (qY rfl (yMI rfl) ?_))))
       obtain ⟨hg40,h⟩:=gOs h
       refine qY rfl (yI cO (by decide) hg40.1 hg40.2 (RdL.row 2 rfl) (eL ax rfl) rfl rfl) ?_
       refine qY rfl (yR (A:=A2_u19) (j:=(Int.toNat s37.1 * 1)) (v:=vI (rdL u19.2.2 s37.1)) bg (RdL.row 2 rfl) rfl (aL ax hg40.1 (aA hg40.2 rfl) rfl)) ?_
       obtain ⟨hg41,h⟩:=gOs h
       refine qY rfl (yI gE (by decide) hg41.1 hg41.2 (RdL.arg hr0_1) (eL ad rfl) rfl rfl) ?_
       refine qY rfl (yFR (A:=Ab) (j:=(Int.toNat (rdL u19.2.2 s37.1) * 5)) gm rfl) (qY rfl (yR (A:=Ab) (j:=((Int.toNat (rdL u19.2.2 s37.1) * 5) + 0)) (v:=vI ((rdL p0.fR (rdL u19.2.2 s37.1)).fID)) bg (RdL.arg hr0_1) rfl (eG ad hg41.1 (aA hg41.2 rfl) rfl)) (dr ?_))
       refine aF 1 (aq cI [(rdL p0.fR (rdL u19.2.2 s37.1)).fID]) _ iz bJ gO iJ (by decide) (by decide) (by kernel_rfl) (eL ax rfl) rfl (fun b42 => ?_)
       obtain ⟨hg45,h⟩:=gOs h
       refine ba 3 bJ gO iJ rfl rfl rfl (RdL.row 4 rfl) (eL ax rfl) (bK gB _) (bO hg45 (by decide)) rfl (fun A43 c44 => ?_)
       refine oY rfl (yAS rfl) (oN (jl (au (eT (cR (oY rfl (yMI rfl) (oY rfl (aY rfl rfl) (oY rfl (yAI rfl) (oN (aN 4 ?_))))))))))
       obtain rfl:=sI h
       exact eN ⟨_,A43,c44,(s37.2.length + 1),(cJ rfl rfl),rfl,(kp4 (kp rfl))⟩
      ·refine cF (vB hp39) (aG (ag ?_))
       obtain rfl:=sI h
       exact ay ⟨rfl,_,A3_s37,c3_s37,s37.2.length,rfl,rfl,(kp4 (kp rfl))⟩
     ·intro e L tm hJ
      obtain ⟨rfl,tm0_u38,A3_u38,c3_u38,n3_u38,rfl,rfl,rfl⟩:=hJ
      refine ⟨(by intro hc; cases hc),?_⟩
      refine ab (eT (cS (cR (oY rfl (yMS rfl) ?_))))
      refine oY rfl (aR [.slice A3_u38 u38.2.length c3_u38,vI 0] [(0,1),(1,1)] mq kV (by kernel_rfl)) ?_
      refine cH rfl (yS 1 [.slice A3_u38 u38.2.length c3_u38,vI 0] m3 rfl (nB rfl) rfl rfl rfl) (oN (eT (ao ?_)))
      obtain rfl:=sI h
      exact ap (.inl rfl) rfl (bp 1 [.slice A3_u38 u38.2.length c3_u38,vI 0] pR rfl rfl rfl) (fun W2 hW2 => ⟨(A3_u38,u38.2.length,c3_u38),rfl,rfl,(hW2.pick 3 rfl)⟩)
theorem pm (p0:TY) (p1:Int) (res:(Int × Int)) (h:gc p0 p1 = some res) (W:World) (Aa:Option Addr) (n0_0 ca : Nat) (hn0_0:n0_0 = p0.fB.length) (hr0_0:Rd W Aa n0_0 ca (aq TBay_cells p0.fB)) (Ab:Option Addr) (n0_1 cb : Nat) (hn0_1:n0_1 = p0.fR.length) (hr0_1:Rd W Ab n0_1 cb (aq TOrder_cells p0.fR)) :
  Calls Tryz.prog 34 [.agg #[.slice Aa n0_0 ca,.slice Ab n0_1 cb],vI p1].toArray W fun e W2 => e = .returned (.tuple #[vI res.1,vI res.2]) ∧ Ext W W2 []:=by
 subst hn0_0
 subst hn0_1
 unfold gc at h
 refine ac (m:=43) Tryz.func34 rfl rfl (nB rfl) (cS (cR ?_))
 refine aX [.slice Aa p0.fB.length ca,.slice Ab p0.fR.length cb] rfl rfl rfl (fun b1 => ?_)
 refine oY rfl (yAI rfl) (oY rfl (yAI rfl) (oN (eT (cS (cR (oY rfl (yN 0 [.slice Aa p0.fB.length ca,.slice Ab p0.fR.length cb] bt rfl rfl rfl) ?_))))))
 obtain ⟨y2,hy3,h⟩:=bOs h
 refine oY rfl (yC [.agg #[.slice Aa p0.fB.length ca,.slice Ab p0.fR.length cb]] th rfl (fun W2 hW2 => dw p0 y2 hy3 W2 Aa p0.fB.length ca rfl ((RdL.arg hr0_0) W2 hW2) Ab p0.fR.length cb rfl ((RdL.arg hr0_1) W2 hW2)) rfl) (oY rfl (yAI rfl) (oN (eT (cS (cS (cR (oY rfl (yMI rfl) (oY rfl (em rfl rfl) (oN (eT ?_))))))))))
 rcases iOs h with ⟨hp4,h⟩ | ⟨hp4,h⟩
 ·refine cT (vB hp4) (cS (cR (oY rfl (yMI rfl) (oY rfl (yAI rfl) (oY rfl (yAI rfl) (oN (eT (ao (aa ?_)))))))))
  obtain rfl:=sI h
  exact bF (.inl rfl) rfl (rVt (v:=vI 0) rfl) (rVt (v:=vI y2) rfl) (fun W2 hW2 => ⟨rfl,hW2.none⟩)
 ·refine cF (vB hp4) (cK (eT (cS (cR (oY rfl (yN 0 [.slice Aa p0.fB.length ca,.slice Ab p0.fR.length cb] bt rfl rfl rfl) (oY rfl (yMI rfl) ?_))))))
  obtain ⟨y5,hy6,h⟩:=bOs h
  refine oY rfl (yC [.agg #[.slice Aa p0.fB.length ca,.slice Ab p0.fR.length cb],vI p1] go_98 rfl (fun W2 hW2 => mu p0 p1 y5 hy6 W2 Aa p0.fB.length ca rfl ((RdL.arg hr0_0) W2 hW2) Ab p0.fR.length cb rfl ((RdL.arg hr0_1) W2 hW2)) rfl) (oY rfl (yAI rfl) (oN (eT (cS (cS (cR (oY rfl (yMI rfl) (oY rfl (bq rfl rfl) (oN (eT ?_))))))))))
  rcases iOs h with ⟨hp7,h⟩ | ⟨hp7,h⟩
  ·refine cT (vB hp7) (cS (cR (oY rfl (yAI rfl) (oY rfl (yAI rfl) (oN (eT (ao (aa ?_))))))))
   obtain rfl:=sI h
   exact bF (.inl rfl) rfl (rVt (v:=vI 0) rfl) (rVt (v:=vI 5) rfl) (fun W2 hW2 => ⟨rfl,hW2.none⟩)
  ·refine cF (vB hp7) (cK (eT (cS ?_)))
   obtain ⟨hg10,h⟩:=gOs h
   obtain ⟨hg13,h⟩:=gOs h
   obtain ⟨hg14,h⟩:=gOs h
   obtain ⟨hg17,h⟩:=gOs h
   refine df [[],[],[1],[],[1,2,3],[0,1,2,3,4],[],[6],[],[8],[6,7,8,9],[0,1,2,3,4,5,6,7,8,9,10],[],[12],[0,1,2,3,4,5,6,7,8,9,10,11,12,13],[],[0,1,2,3,4,5,6,7,8,9,10,11,12,13,14,15]] [(none,1,[true]),(none,0,[true,false]),(none,0,[true,false]),(none,0,[true,false]),(none,0,[true,false]),(some 1,0,[true,true]),(none,0,[true,false]),(none,0,[true,false]),(none,0,[true,false]),(none,0,[true,false]),(none,0,[true,false]),(some 1,0,[true,true]),(none,0,[true,false]),(none,0,[true,false]),(none,0,[true,true]),(none,1,[true,false]),(some 2,0,[true,true,true])] [⟨fun ξ8 => .slice (some ⟨(ξ8 0 0).2.1,0,none⟩) 0 0,fun _ => noR,fun ξ8 => [aJ (some ⟨(ξ8 0 0).2.1,0,none⟩) 0 69 3 0 (aq TBay_cells ([]:List TBay))]⟩,⟨fun _ => .pointer (some ⟨b1,0 + 0,none⟩),fun _ => noR,fun _ => []⟩,⟨fun _ => .slice Aa p0.fB.length ca,fun _ => noR,fun _ => []⟩,⟨fun _ => vI y5,fun _ => noR,fun _ => []⟩,⟨fun _ => .slice Aa (Int.toNat y5) ca,fun _ => noR,fun _ => []⟩,⟨fun ξ8 => .slice (ξ8 5 0).1 (0 + (Int.toNat y5)) (ξ8 5 0).2.2.1,fun ξ8 => aJ (ξ8 5 0).1 (ξ8 5 0).2.2.1 69 3 (0 + (Int.toNat y5)) (aq TBay_cells (([]:List TBay) ++ (p0.fB.take (Int.toNat y5)))),fun _ => []⟩,⟨fun _ => .pointer (some ⟨b1,0 + 0,none⟩),fun _ => noR,fun _ => []⟩,⟨fun _ => .slice Aa p0.fB.length ca,fun _ => noR,fun _ => []⟩,⟨fun _ => vI y5,fun _ => noR,fun _ => []⟩,⟨fun _ => vI (w64 (y5 + 1)),fun _ => noR,fun _ => []⟩,⟨fun _ => .slice (if ca = Int.toNat (w64 (y5 + 1)) then Aa else Option.map (fun x => x.add (Int.toNat (w64 (y5 + 1)) * 3)) Aa) (p0.fB.length - Int.toNat (w64 (y5 + 1))) (ca - Int.toNat (w64 (y5 + 1))),fun _ => noR,fun _ => []⟩,⟨fun ξ8 => .slice (ξ8 11 0).1 ((0 + (Int.toNat y5)) + (p0.fB.length - Int.toNat (w64 (y5 + 1)))) (ξ8 11 0).2.2.1,fun ξ8 => aJ (ξ8 11 0).1 (ξ8 11 0).2.2.1 69 3 ((0 + (Int.toNat y5)) + (p0.fB.length - Int.toNat (w64 (y5 + 1)))) (aq TBay_cells ((([]:List TBay) ++ (p0.fB.take (Int.toNat y5))) ++ (p0.fB.drop (Int.toNat (w64 (y5 + 1)))))),fun _ => []⟩,⟨fun _ => .pointer (some ⟨b1,0 + 1,none⟩),fun _ => noR,fun _ => []⟩,⟨fun _ => .slice Ab p0.fR.length cb,fun _ => noR,fun _ => []⟩,⟨fun ξ8 => .agg #[.slice (ξ8 11 0).1 ((0 + (Int.toNat y5)) + (p0.fB.length - Int.toNat (w64 (y5 + 1)))) (ξ8 11 0).2.2.1,.slice Ab p0.fR.length cb],fun _ => noR,fun _ => []⟩,⟨fun ξ8 => .pointer (some ⟨(ξ8 15 0).2.1,0,none⟩),fun _ => noR,fun ξ8 => [ak (ξ8 15 0).2.1 53 [.slice none 0 0,.slice none 0 0]]⟩,⟨fun _ => undef,fun ξ8 => ak (ξ8 15 0).2.1 53 [.slice (ξ8 11 0).1 ((0 + (Int.toNat y5)) + (p0.fB.length - Int.toNat (w64 (y5 + 1)))) (ξ8 11 0).2.2.1,.slice Ab p0.fR.length cb],fun _ => []⟩] 1 cQ (by kernel_rfl) (by kernel_rfl) ⟨⟨fun ξ8 ξ8' h => ⟨by simp only [h 0 (.inl rfl)],rfl,by simp only [h 0 (.inl rfl)]⟩,fun _ => rfl⟩,⟨fun ξ8 ξ8' h => ⟨rfl,rfl,rfl⟩,fun _ => rfl⟩,⟨fun ξ8 ξ8' h => ⟨rfl,rfl,rfl⟩,fun _ => rfl⟩,⟨fun ξ8 ξ8' h => ⟨rfl,rfl,rfl⟩,fun _ => rfl⟩,⟨fun ξ8 ξ8' h => ⟨rfl,rfl,rfl⟩,fun _ => rfl⟩,⟨fun ξ8 ξ8' h => ⟨by simp only [h 5 (.inl rfl)],by simp only [h 5 (.inl rfl)],rfl⟩,fun _ => rfl⟩,⟨fun ξ8 ξ8' h => ⟨rfl,rfl,rfl⟩,fun _ => rfl⟩,⟨fun ξ8 ξ8' h => ⟨rfl,rfl,rfl⟩,fun _ => rfl⟩,⟨fun ξ8 ξ8' h => ⟨rfl,rfl,rfl⟩,fun _ => rfl⟩,⟨fun ξ8 ξ8' h => ⟨rfl,rfl,rfl⟩,fun _ => rfl⟩,⟨fun ξ8 ξ8' h => ⟨rfl,rfl,rfl⟩,fun _ => rfl⟩,⟨fun ξ8 ξ8' h => ⟨by simp only [h 11 (.inl rfl)],by simp only [h 11 (.inl rfl)],rfl⟩,fun _ => rfl⟩,⟨fun ξ8 ξ8' h => ⟨rfl,rfl,rfl⟩,fun _ => rfl⟩,⟨fun ξ8 ξ8' h => ⟨rfl,rfl,rfl⟩,fun _ => rfl⟩,⟨fun ξ8 ξ8' h => ⟨by simp only [h 11 (.inr rfl)],rfl,rfl⟩,fun _ => rfl⟩,⟨fun ξ8 ξ8' h => ⟨by simp only [h 15 (.inl rfl)],rfl,by simp only [h 15 (.inl rfl)]⟩,fun _ => rfl⟩,⟨fun ξ8 ξ8' h => ⟨rfl,by simp only [h 11 (.inr rfl),h 15 (.inr rfl)],rfl⟩,fun _ => rfl⟩,trivial⟩ rfl (fun ξ8 => ?_)
   refine bn rfl (fun L2 => ?_) ?_
   ·dsimp only [aw,lca,lna]
    refine cy TBay_cells gh lO qg rfl (fun b9 => ?_)
    refine oN ?_
    exact ae (fun _ => (none,b9,0,[],noR)) rfl rfl
   dsimp only [a8,lsz,lss,lna,lca,List.append_nil]
   refine bn rfl (fun L2 => ?_) ?_
   ·dsimp only [aw,lca,lna]
    refine oY rfl (yFA cP rfl) (oN ?_)
    exact ae (fun _ => (none,0,0,[],noR)) rfl (List.append_nil _)
   dsimp only [a8,lsz,lss,lna,lca,List.append_nil]
   refine bn rfl (fun L2 => ?_) ?_
   ·dsimp only [aw,lca,lna]
    refine oY rfl (yL 0 gH rfl rfl rfl) (oN ?_)
    exact ae (fun _ => (none,0,0,[],noR)) rfl (List.append_nil _)
   dsimp only [a8,lsz,lss,lna,lca,List.append_nil]
   refine bn rfl (fun L2 => ?_) ?_
   ·dsimp only [aw,lca,lna]
    refine oY rfl (yMI rfl) (oN ?_)
    exact ae (fun _ => (none,0,0,[],noR)) rfl (List.append_nil _)
   dsimp only [a8,lsz,lss,lna,lca,List.append_nil]
   refine bn rfl (fun L2 => ?_) ?_
   ·dsimp only [aw,lca,lna]
    refine oY rfl (nS kL hg10.1 hg10.2 (RdL.arg hr0_0) rfl rfl) (oN ?_)
    exact ae (fun _ => (none,0,0,[],noR)) rfl (List.append_nil _)
   dsimp only [a8,lsz,lss,lna,lca,List.append_nil]
   refine bn rfl (fun L2 => ?_) ?_
   ·dsimp only [aw,lca,lna]
    refine ba 1 gh lO qg rfl rfl rfl (RdL.cutH aI (RdL.arg hr0_0) hg10.1 hg10.2) (eL aI (gp hg10.2 rfl)) (bK gt _) (bO hg13 (by decide)) rfl (fun A11 c12 => ?_)
    refine oN ?_
    first | exact ae (fun _ => (A11,0,c12,[],noR)) rfl rfl | exact ae (fun _ => (A11,0,c12,[],noR)) rfl (List.append_nil _)
   dsimp only [a8,lsz,lss,lna,lca,List.append_nil]
   refine bn rfl (fun L2 => ?_) ?_
   ·dsimp only [aw,lca,lna]
    refine oY rfl (yFA cP rfl) (oN ?_)
    exact ae (fun _ => (none,0,0,[],noR)) rfl (List.append_nil _)
   dsimp only [a8,lsz,lss,lna,lca,List.append_nil]
   refine bn rfl (fun L2 => ?_) ?_
   ·dsimp only [aw,lca,lna]
    refine oY rfl (yL 0 gH rfl rfl rfl) (oN ?_)
    exact ae (fun _ => (none,0,0,[],noR)) rfl (List.append_nil _)
   dsimp only [a8,lsz,lss,lna,lca,List.append_nil]
   refine bn rfl (fun L2 => ?_) ?_
   ·dsimp only [aw,lca,lna]
    refine oY rfl (yMI rfl) (oN ?_)
    exact ae (fun _ => (none,0,0,[],noR)) rfl (List.append_nil _)
   dsimp only [a8,lsz,lss,lna,lca,List.append_nil]
   refine bn rfl (fun L2 => ?_) ?_
   ·dsimp only [aw,lca,lna]
    refine oY rfl (aY rfl rfl) (oN ?_)
    exact ae (fun _ => (none,0,0,[],noR)) rfl (List.append_nil _)
   dsimp only [a8,lsz,lss,lna,lca,List.append_nil]
   refine bn rfl (fun L2 => ?_) ?_
   ·dsimp only [aw,lca,lna]
    refine oY rfl (ol kL hg14.1 hg14.2 (RdL.arg hr0_0) rfl rfl) (oN ?_)
    exact ae (fun _ => (none,0,0,[],noR)) rfl (List.append_nil _)
   dsimp only [a8,lsz,lss,lna,lca,List.append_nil]
   refine bn rfl (fun L2 => ?_) ?_
   ·dsimp only [aw,lca,lna]
    refine ba 1 gh lO qg rfl rfl rfl (RdL.cutL aI (RdL.arg hr0_0) hg14.1 hg14.2 rfl) (eL aI (iF rfl)) (bK gt _) (bO hg17 (by decide)) rfl (fun A15 c16 => ?_)
    refine oN ?_
    first | exact ae (fun _ => (A15,0,c16,[],noR)) rfl rfl | exact ae (fun _ => (A15,0,c16,[],noR)) rfl (List.append_nil _)
   dsimp only [a8,lsz,lss,lna,lca,List.append_nil]
   refine bn rfl (fun L2 => ?_) ?_
   ·dsimp only [aw,lca,lna]
    refine oY rfl (yFA bf rfl) (oN ?_)
    exact ae (fun _ => (none,0,0,[],noR)) rfl (List.append_nil _)
   dsimp only [a8,lsz,lss,lna,lca,List.append_nil]
   refine bn rfl (fun L2 => ?_) ?_
   ·dsimp only [aw,lca,lna]
    refine oY rfl (yL 0 dE rfl rfl rfl) (oN ?_)
    exact ae (fun _ => (none,0,0,[],noR)) rfl (List.append_nil _)
   dsimp only [a8,lsz,lss,lna,lca,List.append_nil]
   refine bn rfl (fun L2 => ?_) ?_
   ·dsimp only [aw,lca,lna]
    refine oY rfl (aR [.slice (ξ8 11 0).1 ((0 + (Int.toNat y5)) + (p0.fB.length - Int.toNat (w64 (y5 + 1)))) (ξ8 11 0).2.2.1,.slice Ab p0.fR.length cb] [(0,1),(1,1)] qX o8 (by kernel_rfl)) ?_
    refine oN ?_
    exact ae (fun _ => (none,0,0,[],noR)) rfl (List.append_nil _)
   dsimp only [a8,lsz,lss,lna,lca,List.append_nil]
   refine bn rfl (fun L2 => ?_) ?_
   ·dsimp only [aw,lca,lna]
    refine aB o8 rfl (fun b18 => ?_)
    refine oN ?_
    exact ae (fun _ => (none,b18,0,[],noR)) rfl rfl
   dsimp only [a8,lsz,lss,lna,lca,List.append_nil]
   refine sr rfl (fun L2 => ?_) ?_
   ·dsimp only [aw,lca,lna]
    refine cH rfl (yS 2 [.slice (ξ8 11 0).1 ((0 + (Int.toNat y5)) + (p0.fB.length - Int.toNat (w64 (y5 + 1)))) (ξ8 11 0).2.2.1,.slice Ab p0.fR.length cb] sz_53 rfl (nB rfl) rfl rfl rfl) (oN ?_)
    first | exact bX (fun _ => (none,0,0,[],noR)) rfl | exact bX (fun _ => (none,0,0,[],noR)) (List.append_nil _)
   dsimp only [a8,lsz,lss,lna,lca,List.append_nil]
   refine g7 (eT (cS ?_))
   obtain ⟨y20,hy21,h⟩:=bOs h
   obtain ⟨y26,hy27,h⟩:=bOs h
   obtain ⟨y28,hy29,h⟩:=bOs h
   obtain ⟨y34,hy35,h⟩:=bOs h
   refine df [[],[],[1],[0,1,2],[],[],[0,1,2,3,5],[0,1,2,3,4,5,6],[0,1,2,3,4,5,6,7],[0,1,2,3,4,5,6,7,8],[0,1,2,3,4,5,6,7,8,9]] [(none,0,[true,true,true]),(none,0,[true,true,true]),(none,1,[true,true,true]),(none,0,[true,true,true,true]),(none,0,[true,true,true,false]),(none,0,[true,true,true,false]),(none,1,[true,true,true,true]),(none,0,[true,true,true,true,true]),(none,0,[true,true,true,true,true]),(none,0,[true,true,true,true,true]),(none,0,[true,true,true,true,true])] [⟨fun _ => .agg #[.slice Aa p0.fB.length ca,.slice Ab p0.fR.length cb],fun _ => noR,fun _ => []⟩,⟨fun _ => .agg #[.slice Aa p0.fB.length ca,.slice Ab p0.fR.length cb],fun _ => noR,fun _ => []⟩,⟨fun ξ19 => .slice (ξ19 2 0).1 y20.length (ξ19 2 0).2.2.1,fun _ => noR,fun ξ19 => [aJ (ξ19 2 0).1 (ξ19 2 0).2.2.1 3 1 y20.length (aq cI y20)]⟩,⟨fun _ => vI y26,fun _ => noR,fun _ => []⟩,⟨fun _ => .agg #[.slice (ξ8 11 0).1 ((0 + (Int.toNat y5)) + (p0.fB.length - Int.toNat (w64 (y5 + 1)))) (ξ8 11 0).2.2.1,.slice Ab p0.fR.length cb],fun _ => noR,fun _ => []⟩,⟨fun _ => .agg #[.slice (ξ8 11 0).1 ((0 + (Int.toNat y5)) + (p0.fB.length - Int.toNat (w64 (y5 + 1)))) (ξ8 11 0).2.2.1,.slice Ab p0.fR.length cb],fun _ => noR,fun _ => []⟩,⟨fun ξ19 => .slice (ξ19 6 0).1 y28.length (ξ19 6 0).2.2.1,fun _ => noR,fun ξ19 => [aJ (ξ19 6 0).1 (ξ19 6 0).2.2.1 3 1 y28.length (aq cI y28)]⟩,⟨fun _ => vI y34,fun _ => noR,fun _ => []⟩,⟨fun _ => vI (w64 (y26 - y34)),fun _ => noR,fun _ => []⟩,⟨fun _ => vI (w64 (y26 - y34)),fun _ => noR,fun _ => []⟩,⟨fun _ => vI 0,fun _ => noR,fun _ => []⟩] 3 cQ (by kernel_rfl) (by kernel_rfl) ⟨⟨fun ξ19 ξ19' h => ⟨rfl,rfl,rfl⟩,fun _ => rfl⟩,⟨fun ξ19 ξ19' h => ⟨rfl,rfl,rfl⟩,fun _ => rfl⟩,⟨fun ξ19 ξ19' h => ⟨by simp only [h 2 (.inl rfl)],rfl,by simp only [h 2 (.inl rfl)]⟩,fun _ => rfl⟩,⟨fun ξ19 ξ19' h => ⟨rfl,rfl,rfl⟩,fun _ => rfl⟩,⟨fun ξ19 ξ19' h => ⟨rfl,rfl,rfl⟩,fun _ => rfl⟩,⟨fun ξ19 ξ19' h => ⟨rfl,rfl,rfl⟩,fun _ => rfl⟩,⟨fun ξ19 ξ19' h => ⟨by simp only [h 6 (.inl rfl)],rfl,by simp only [h 6 (.inl rfl)]⟩,fun _ => rfl⟩,⟨fun ξ19 ξ19' h => ⟨rfl,rfl,rfl⟩,fun _ => rfl⟩,⟨fun ξ19 ξ19' h => ⟨rfl,rfl,rfl⟩,fun _ => rfl⟩,⟨fun ξ19 ξ19' h => ⟨rfl,rfl,rfl⟩,fun _ => rfl⟩,⟨fun ξ19 ξ19' h => ⟨rfl,rfl,rfl⟩,fun _ => rfl⟩,trivial⟩ rfl (fun ξ19 => ?_)
   refine bn rfl (fun L2 => ?_) ?_
   ·dsimp only [aw,lca,lna]
    refine oY rfl (yN 0 [.slice Aa p0.fB.length ca,.slice Ab p0.fR.length cb] bt rfl rfl rfl) (oN ?_)
    exact ae (fun _ => (none,0,0,[],noR)) rfl (List.append_nil _)
   dsimp only [a8,lsz,lss,lna,lca,List.append_nil]
   refine bn rfl (fun L2 => ?_) ?_
   ·dsimp only [aw,lca,lna]
    refine oY rfl (yN 0 [.slice Aa p0.fB.length ca,.slice Ab p0.fR.length cb] bt rfl rfl rfl) (oN ?_)
    exact ae (fun _ => (none,0,0,[],noR)) rfl (List.append_nil _)
   dsimp only [a8,lsz,lss,lna,lca,List.append_nil]
   refine bn rfl (fun L2 => ?_) ?_
   ·dsimp only [aw,lca,lna]
    refine oC [.agg #[.slice Aa p0.fB.length ca,.slice Ab p0.fR.length cb],vI (-1),vI (-1)] _ _ _ rfl rY rfl (fun W2 hW2 => eV p0 (-1) (-1) y20 hy21 W2 Aa p0.fB.length ca rfl ((RdL.arg hr0_0) W2 hW2) Ab p0.fR.length cb rfl ((RdL.arg hr0_1) W2 hW2)) ?_
    rintro ⟨A22,n24,c23⟩ hn25
    replace hn25 : n24 = y20.length:=hn25; subst hn25
    refine oN ?_
    exact ae (fun _ => (A22,0,c23,[],noR)) rfl rfl
   dsimp only [a8,lsz,lss,lna,lca,List.append_nil]
   refine bn rfl (fun L2 => ?_) ?_
   ·dsimp only [aw,lca,lna]
    refine oY rfl (yC [.agg #[.slice Aa p0.fB.length ca,.slice Ab p0.fR.length cb],.slice (ξ19 2 0).1 y20.length (ξ19 2 0).2.2.1] r3 rfl (fun W2 hW2 => ee p0 y20 y26 hy27 W2 Aa p0.fB.length ca rfl ((RdL.arg hr0_0) W2 hW2) Ab p0.fR.length cb rfl ((RdL.arg hr0_1) W2 hW2) (ξ19 2 0).1 y20.length (ξ19 2 0).2.2.1 rfl ((RdL.row 3 rfl) W2 hW2)) rfl) (oN ?_)
    exact ae (fun _ => (none,0,0,[],noR)) rfl (List.append_nil _)
   dsimp only [a8,lsz,lss,lna,lca,List.append_nil]
   refine bn rfl (fun L2 => ?_) ?_
   ·dsimp only [aw,lca,lna]
    refine oY rfl (yN 2 [.slice (ξ8 11 0).1 ((0 + (Int.toNat y5)) + (p0.fB.length - Int.toNat (w64 (y5 + 1)))) (ξ8 11 0).2.2.1,.slice Ab p0.fR.length cb] bt rfl rfl rfl) (oN ?_)
    exact ae (fun _ => (none,0,0,[],noR)) rfl (List.append_nil _)
   dsimp only [a8,lsz,lss,lna,lca,List.append_nil]
   refine bn rfl (fun L2 => ?_) ?_
   ·dsimp only [aw,lca,lna]
    refine oY rfl (yN 2 [.slice (ξ8 11 0).1 ((0 + (Int.toNat y5)) + (p0.fB.length - Int.toNat (w64 (y5 + 1)))) (ξ8 11 0).2.2.1,.slice Ab p0.fR.length cb] bt rfl rfl rfl) (oN ?_)
    exact ae (fun _ => (none,0,0,[],noR)) rfl (List.append_nil _)
   dsimp only [a8,lsz,lss,lna,lca,List.append_nil]
   refine bn rfl (fun L2 => ?_) ?_
   ·dsimp only [aw,lca,lna]
    refine oC [.agg #[.slice (ξ8 11 0).1 ((0 + (Int.toNat y5)) + (p0.fB.length - Int.toNat (w64 (y5 + 1)))) (ξ8 11 0).2.2.1,.slice Ab p0.fR.length cb],vI (-1),vI (-1)] _ _ _ rfl rY rfl (fun W2 hW2 => eV (TY.mk ((([]:List TBay) ++ (p0.fB.take (Int.toNat y5))) ++ (p0.fB.drop (Int.toNat (w64 (y5 + 1))))) p0.fR) (-1) (-1) y28 hy29 W2 (ξ8 11 0).1 ((0 + (Int.toNat y5)) + (p0.fB.length - Int.toNat (w64 (y5 + 1)))) (ξ8 11 0).2.2.1 (cJ (cJ rfl (gp hg10.2 rfl)) (iF rfl)) ((RdL.row 1 rfl) W2 hW2) Ab p0.fR.length cb rfl ((RdL.arg hr0_1) W2 hW2)) ?_
    rintro ⟨A30,n32,c31⟩ hn33
    replace hn33 : n32 = y28.length:=hn33; subst hn33
    refine oN ?_
    exact ae (fun _ => (A30,0,c31,[],noR)) rfl rfl
   dsimp only [a8,lsz,lss,lna,lca,List.append_nil]
   refine bn rfl (fun L2 => ?_) ?_
   ·dsimp only [aw,lca,lna]
    refine oY rfl (yC [.agg #[.slice (ξ8 11 0).1 ((0 + (Int.toNat y5)) + (p0.fB.length - Int.toNat (w64 (y5 + 1)))) (ξ8 11 0).2.2.1,.slice Ab p0.fR.length cb],.slice (ξ19 6 0).1 y28.length (ξ19 6 0).2.2.1] r3 rfl (fun W2 hW2 => ee (TY.mk ((([]:List TBay) ++ (p0.fB.take (Int.toNat y5))) ++ (p0.fB.drop (Int.toNat (w64 (y5 + 1))))) p0.fR) y28 y34 hy35 W2 (ξ8 11 0).1 ((0 + (Int.toNat y5)) + (p0.fB.length - Int.toNat (w64 (y5 + 1)))) (ξ8 11 0).2.2.1 (cJ (cJ rfl (gp hg10.2 rfl)) (iF rfl)) ((RdL.row 1 rfl) W2 hW2) Ab p0.fR.length cb rfl ((RdL.arg hr0_1) W2 hW2) (ξ19 6 0).1 y28.length (ξ19 6 0).2.2.1 rfl ((RdL.row 4 rfl) W2 hW2)) rfl) (oN ?_)
    exact ae (fun _ => (none,0,0,[],noR)) rfl (List.append_nil _)
   dsimp only [a8,lsz,lss,lna,lca,List.append_nil]
   refine bn rfl (fun L2 => ?_) ?_
   ·dsimp only [aw,lca,lna]
    refine oY rfl (f4 rfl rfl) (oN ?_)
    exact ae (fun _ => (none,0,0,[],noR)) rfl (List.append_nil _)
   dsimp only [a8,lsz,lss,lna,lca,List.append_nil]
   refine bn rfl (fun L2 => ?_) ?_
   ·dsimp only [aw,lca,lna]
    refine oY rfl (yAI rfl) (oN ?_)
    exact ae (fun _ => (none,0,0,[],noR)) rfl (List.append_nil _)
   dsimp only [a8,lsz,lss,lna,lca,List.append_nil]
   refine bn rfl (fun L2 => ?_) ?_
   ·dsimp only [aw,lca,lna]
    refine oY rfl (yAI rfl) (oN ?_)
    exact ae (fun _ => (none,0,0,[],noR)) rfl (List.append_nil _)
   dsimp only [a8,lsz,lss,lna,lca,List.append_nil]
   refine g7 (eT (ao ?_))
   obtain rfl:=sI h
   exact bF (.inl rfl) rfl (rVt (v:=vI (w64 (y26 - y34))) rfl) (rVt (v:=vI 0) rfl) (fun W2 hW2 => ⟨rfl,hW2.none⟩)
end Go.Proofs.YthndghnkebboaaaGreat
set_option maxHeartbeats 4000000
set_option maxRecDepth 100000
namespace Go.Proofs.YthndghnkebboaaaGreat
open Go.RowKit (Below)
attribute [local irreducible] OX QX CX EX OpY Calls CallsIn
theorem calxlaw05_CartOrders_ok (p0:TY) (p1:(List Int)) (p2:Int) (res:Bool) (h:dH p0 p1 p2 = some res) (W:World) (Aa:Option Addr) (n0_0 ca : Nat) (hn0_0:n0_0 = p0.fB.length) (hr0_0:Rd W Aa n0_0 ca (aq TBay_cells p0.fB)) (Ab:Option Addr) (n0_1 cb : Nat) (hn0_1:n0_1 = p0.fR.length) (hr0_1:Rd W Ab n0_1 cb (aq TOrder_cells p0.fR)) (Ac:Option Addr) (n1_0 cc : Nat) (hn1_0:n1_0 = p1.length) (hr1_0:Rd W Ac n1_0 cc (aq cI p1)) :
  Calls Tryz.prog 5 [.agg #[.slice Aa n0_0 ca,.slice Ab n0_1 cb],.slice Ac n1_0 cc,vI p2].toArray W fun e W2 => e = .returned (.bool res) ∧ Ext W W2 []:=by
 subst hn0_0
 subst hn0_1
 subst hn1_0
 unfold dH at h
 refine ac (m:=111) Tryz.func5 rfl rfl (nB rfl) (cS (cR ?_))
 refine aX [.slice Aa p0.fB.length ca,.slice Ab p0.fR.length cb] rfl rfl rfl (fun b1 => ?_)
 refine oY rfl (yAB rfl) (oN (eT (cS (cS (cR (oY rfl (yN 0 [.slice Aa p0.fB.length ca,.slice Ab p0.fR.length cb] bt rfl rfl rfl) ?_))))))
 obtain ⟨y2,hy3,h⟩:=bOs h
 refine oY rfl (yC [.agg #[.slice Aa p0.fB.length ca,.slice Ab p0.fR.length cb]] go_26 rfl (fun W2 hW2 => l9 p0 y2 hy3 W2 Aa p0.fB.length ca rfl ((RdL.arg hr0_0) W2 hW2) Ab p0.fR.length cb rfl ((RdL.arg hr0_1) W2 hW2)) rfl) (oY rfl (cq rfl) (oY rfl (yMB rfl) ?_))
 refine oJ 4 (fun tm0 => (upd (upd (upd (upd (upd tm0 1 (.slice Ac p1.length cc)) 2 (vI p2)) 3 (.pointer (some ⟨b1,0,none⟩))) 6 (.bool false)) 27 (.bool ((!y2) || (decide (40 < (p1.length:Int))))))) (fun tm0 => ?_) (fun key => ?_)
 ·refine oN (eT ?_)
  rcases iOs h with ⟨hp5,h⟩ | ⟨hp5,h⟩
  ·refine cT (vB hp5) (cS (cR ?_))
   obtain ⟨y6,hy7,h⟩:=bOs h
   refine oY rfl (yC [] go_17 rfl (fun W2 hW2 => g9  y6 hy7 W2 ) rfl) (oY rfl (yAB rfl) (oN (eT (ao (aa ?_)))))
   obtain rfl:=sI h
   exact ap (.inl rfl) rfl (rVt (v:=.bool y6) rfl) (fun W2 hW2 => ⟨rfl,hW2.none⟩)
  ·refine cF (vB hp5) (cK (eT (cS (cR (oY rfl (yN 0 [.slice Aa p0.fB.length ca,.slice Ab p0.fR.length cb] bt rfl rfl rfl) ?_)))))
   obtain ⟨y8,hy9,h⟩:=bOs h
   refine oC [.agg #[.slice Aa p0.fB.length ca,.slice Ab p0.fR.length cb]] _ _ _ rfl go_27 rfl (fun W2 hW2 => kA p0 y8 hy9 W2 Aa p0.fB.length ca rfl ((RdL.arg hr0_0) W2 hW2) Ab p0.fR.length cb rfl ((RdL.arg hr0_1) W2 hW2)) ?_
   rintro ⟨A10,n12,c11⟩ hn13
   replace hn13 : n12 = y8.1.length:=hn13; subst hn13
   refine oY rfl (aM rfl) (oY rfl (yE rfl rfl) (oY rfl (yE rfl rfl) (oY rfl (yAS rfl) (oY rfl (yAI rfl) (oN (eT (cS (cR (oY rfl (yN 0 [.slice Aa p0.fB.length ca,.slice Ab p0.fR.length cb] bt rfl rfl rfl) ?_)))))))))
   obtain ⟨y14,hy15,h⟩:=bOs h
   refine oC [.agg #[.slice Aa p0.fB.length ca,.slice Ab p0.fR.length cb]] _ _ _ rfl go_28 rfl (fun W2 hW2 => nD p0 y14 hy15 W2 Aa p0.fB.length ca rfl ((RdL.arg hr0_0) W2 hW2) Ab p0.fR.length cb rfl ((RdL.arg hr0_1) W2 hW2)) ?_
   rintro ⟨A16,n18,c17⟩ hn19
   replace hn19 : n18 = y14.fL.length:=hn19; subst hn19
   refine aB kV rfl (fun b20 => ?_)
   refine cH rfl (yS 3 [.slice A16 y14.fL.length c17,vI y14.fE] m3 rfl (nB rfl) rfl rfl rfl) (oN (eT (cS (cR (oY rfl (yN 0 [.slice Aa p0.fB.length ca,.slice Ab p0.fR.length cb] bt rfl rfl rfl) ?_)))))
   obtain ⟨y21,hy22,h⟩:=bOs h
   refine oC [.agg #[.slice Aa p0.fB.length ca,.slice Ab p0.fR.length cb]] _ _ _ rfl go_29 rfl (fun W2 hW2 => lM p0 y21 hy22 W2 Aa p0.fB.length ca rfl ((RdL.arg hr0_0) W2 hW2) Ab p0.fR.length cb rfl ((RdL.arg hr0_1) W2 hW2)) ?_
   rintro ⟨A23,n25,c24⟩ hn26
   replace hn26 : n25 = y21.1.length:=hn26; subst hn26
   refine oY rfl (aM rfl) (oY rfl (yE rfl rfl) (oY rfl (yE rfl rfl) (oY rfl (yAS rfl) (oY rfl (yAI rfl) (oN (eT (cS (cR (oY rfl (yN 0 [.slice Aa p0.fB.length ca,.slice Ab p0.fR.length cb] bt rfl rfl rfl) ?_)))))))))
   obtain ⟨y27,hy28,h⟩:=bOs h
   refine oC [.agg #[.slice Aa p0.fB.length ca,.slice Ab p0.fR.length cb]] _ _ _ rfl go_30 rfl (fun W2 hW2 => nQ p0 y27 hy28 W2 Aa p0.fB.length ca rfl ((RdL.arg hr0_0) W2 hW2) Ab p0.fR.length cb rfl ((RdL.arg hr0_1) W2 hW2)) ?_
   rintro ⟨A29,n31,c30⟩ hn32
   replace hn32 : n31 = y27.fL.length:=hn32; subst hn32
   try dsimp only [lna,lca,lsz,lss]
   refine aB kV rfl (fun b33 => ?_)
   try dsimp only [lna,lca,lsz,lss]
   refine cH rfl (yS 6 [.slice A29 y27.fL.length c30,vI y27.fE] m3 rfl (nB rfl) rfl rfl rfl) (oN (eT (cS (cR (oY rfl (yN 0 [.slice Aa p0.fB.length ca,.slice Ab p0.fR.length cb] bt rfl rfl rfl) (oY rfl (yMS rfl) ?_))))))
   obtain ⟨y34,hy35,h⟩:=bOs h
   refine oC [.agg #[.slice Aa p0.fB.length ca,.slice Ab p0.fR.length cb],.slice Ac p1.length cc] _ _ _ rfl go_31 rfl (fun W2 hW2 => jz p0 p1 y34 hy35 W2 Aa p0.fB.length ca rfl ((RdL.arg hr0_0) W2 hW2) Ab p0.fR.length cb rfl ((RdL.arg hr0_1) W2 hW2) Ac p1.length cc rfl ((RdL.arg hr1_0) W2 hW2)) ?_
   rintro ⟨A36,n38,c37⟩ hn39
   replace hn39 : n38 = y34.1.length:=hn39; subst hn39
   try dsimp only [lna,lca,lsz,lss]
   refine oY rfl (aM rfl) (oY rfl (yE rfl rfl) (oY rfl (yE rfl rfl) (oY rfl (yAS rfl) (oY rfl (yAI rfl) (oN (eT (cS (cR (oY rfl (yN 0 [.slice Aa p0.fB.length ca,.slice Ab p0.fR.length cb] bt rfl rfl rfl) (oY rfl (yMS rfl) ?_))))))))))
   obtain ⟨y40,hy41,h⟩:=bOs h
   refine oC [.agg #[.slice Aa p0.fB.length ca,.slice Ab p0.fR.length cb],.slice Ac p1.length cc] _ _ _ rfl go_32 rfl (fun W2 hW2 => mA p0 p1 y40 hy41 W2 Aa p0.fB.length ca rfl ((RdL.arg hr0_0) W2 hW2) Ab p0.fR.length cb rfl ((RdL.arg hr0_1) W2 hW2) Ac p1.length cc rfl ((RdL.arg hr1_0) W2 hW2)) ?_
   rintro ⟨A42,n44,c43⟩ hn45
   replace hn45 : n44 = y40.fL.length:=hn45; subst hn45
   try dsimp only [lna,lca,lsz,lss]
   refine aB kV rfl (fun b46 => ?_)
   try dsimp only [lna,lca,lsz,lss]
   refine cH rfl (yS 9 [.slice A42 y40.fL.length c43,vI y40.fE] m3 rfl (nB rfl) rfl rfl rfl) (oN (eT (cS (cR (oY rfl (yN 0 [.slice Aa p0.fB.length ca,.slice Ab p0.fR.length cb] bt rfl rfl rfl) (oY rfl (yMI rfl) ?_))))))
   obtain ⟨y47,hy48,h⟩:=bOs h
   refine oY rfl (yC [.agg #[.slice Aa p0.fB.length ca,.slice Ab p0.fR.length cb],vI p2] go_33 rfl (fun W2 hW2 => md p0 p2 y47 hy48 W2 Aa p0.fB.length ca rfl ((RdL.arg hr0_0) W2 hW2) Ab p0.fR.length cb rfl ((RdL.arg hr0_1) W2 hW2)) rfl) (oY rfl (aM rfl) (oY rfl (yE rfl rfl) (oY rfl (yE rfl rfl) (oY rfl (yAI rfl) (oY rfl (yAI rfl) (oN (eT (cS (cR (oY rfl (yN 0 [.slice Aa p0.fB.length ca,.slice Ab p0.fR.length cb] bt rfl rfl rfl) (oY rfl (yMI rfl) ?_)))))))))))
   obtain ⟨y49,hy50,h⟩:=bOs h
   refine oY rfl (yC [.agg #[.slice Aa p0.fB.length ca,.slice Ab p0.fR.length cb],vI p2] go_34 rfl (fun W2 hW2 => pm p0 p2 y49 hy50 W2 Aa p0.fB.length ca rfl ((RdL.arg hr0_0) W2 hW2) Ab p0.fR.length cb rfl ((RdL.arg hr0_1) W2 hW2)) rfl) (oY rfl (aM rfl) (oY rfl (yE rfl rfl) (oY rfl (yE rfl rfl) (oY rfl (yAI rfl) (oY rfl (yAI rfl) (oN (eT (cS (cR ?_)))))))))
   obtain ⟨y51,hy52,h⟩:=bOs h
   refine oY rfl (yC [] go_17 rfl (fun W2 hW2 => g9  y51 hy52 W2 ) rfl) (oY rfl (yMB rfl) ?_)
   obtain ⟨b54,hb55,h⟩:=bOs h
   refine oJ 5 (fun tm0 => (upd (upd (upd (upd (upd (upd (upd (upd (upd (upd (upd (upd (upd (upd tm0 6 (.bool false)) 8 (vI y8.2)) 9 (.pointer (some ⟨b20,0,none⟩))) 10 (.slice A23 y21.1.length c24)) 11 (vI y21.2)) 12 (.pointer (some ⟨b33,0,none⟩))) 13 (.slice A36 y34.1.length c37)) 14 (vI y34.2)) 15 (.pointer (some ⟨b46,0,none⟩))) 16 (vI y47.1)) 17 (vI y47.2)) 18 (vI y49.1)) 19 (vI y49.2)) 70 (.bool b54))) (fun tm0 => ?_) (fun key => ?_)
   ·refine oY rfl (yMB rfl) ?_
    refine oJ 5 (fun tm0 => (upd (upd (upd (upd (upd (upd (upd (upd (upd (upd (upd (upd tm0 6 (.bool false)) 10 (.slice A23 y21.1.length c24)) 11 (vI y21.2)) 12 (.pointer (some ⟨b33,0,none⟩))) 13 (.slice A36 y34.1.length c37)) 14 (vI y34.2)) 15 (.pointer (some ⟨b46,0,none⟩))) 16 (vI y47.1)) 17 (vI y47.2)) 18 (vI y49.1)) 19 (vI y49.2)) 76 (.bool (b54 && (y8.2 == y14.fE))))) (fun tm0 => ?_) (fun key => ?_)
    ·refine oY rfl (yMB rfl) ?_
     obtain ⟨b58,hb59,h⟩:=bOs h
     refine oJ 5 (fun tm0 => (upd (upd (upd (upd (upd (upd (upd (upd (upd (upd (upd tm0 6 (.bool false)) 11 (vI y21.2)) 12 (.pointer (some ⟨b33,0,none⟩))) 13 (.slice A36 y34.1.length c37)) 14 (vI y34.2)) 15 (.pointer (some ⟨b46,0,none⟩))) 16 (vI y47.1)) 17 (vI y47.2)) 18 (vI y49.1)) 19 (vI y49.2)) 82 (.bool b58))) (fun tm0 => ?_) (fun key => ?_)
     ·refine oY rfl (yMB rfl) ?_
      refine oJ 5 (fun tm0 => (upd (upd (upd (upd (upd (upd (upd (upd (upd tm0 6 (.bool false)) 13 (.slice A36 y34.1.length c37)) 14 (vI y34.2)) 15 (.pointer (some ⟨b46,0,none⟩))) 16 (vI y47.1)) 17 (vI y47.2)) 18 (vI y49.1)) 19 (vI y49.2)) 88 (.bool (b58 && (y21.2 == y27.fE))))) (fun tm0 => ?_) (fun key => ?_)
      ·refine oY rfl (yMB rfl) ?_
       obtain ⟨b62,hb63,h⟩:=bOs h
       refine oJ 5 (fun tm0 => (upd (upd (upd (upd (upd (upd (upd (upd tm0 6 (.bool false)) 14 (vI y34.2)) 15 (.pointer (some ⟨b46,0,none⟩))) 16 (vI y47.1)) 17 (vI y47.2)) 18 (vI y49.1)) 19 (vI y49.2)) 94 (.bool b62))) (fun tm0 => ?_) (fun key => ?_)
       ·refine oY rfl (yMB rfl) ?_
        refine oJ 5 (fun tm0 => (upd (upd (upd (upd (upd (upd tm0 6 (.bool false)) 16 (vI y47.1)) 17 (vI y47.2)) 18 (vI y49.1)) 19 (vI y49.2)) 100 (.bool (b62 && (y34.2 == y40.fE))))) (fun tm0 => ?_) (fun key => ?_)
        ·refine oY rfl (yMB rfl) ?_
         refine oJ 4 (fun tm0 => (upd (upd (upd (upd tm0 6 (.bool false)) 17 (vI y47.2)) 19 (vI y49.2)) 105 (.bool ((b62 && (y34.2 == y40.fE)) && (y47.1 == y49.1))))) (fun tm0 => ?_) (fun key => ?_)
         ·refine oY rfl (yMB rfl) ?_
          refine oJ 4 (fun tm0 => (upd (upd tm0 6 (.bool false)) 110 (.bool (((b62 && (y34.2 == y40.fE)) && (y47.1 == y49.1)) && (y47.2 == y49.2))))) (fun tm0 => ?_) (fun key => ?_)
          ·refine oY rfl (yAB rfl) (oN (eT (ao ?_)))
           obtain rfl:=sI h
           exact ap (.inl rfl) rfl (rVt (v:=.bool (((b62 && (y34.2 == y40.fE)) && (y47.1 == y49.1)) && (y47.2 == y49.2))) rfl) (fun W2 hW2 => ⟨rfl,hW2.none⟩)
          ·rcases ar ((b62 && (y34.2 == y40.fE)) && (y47.1 == y49.1)) with hp66 | hp66
           ·refine oY (sT rfl rfl rfl rfl hp66) (yMI rfl) (oY (sT rfl rfl rfl rfl hp66) (yMI rfl) (oY (sT rfl rfl rfl rfl hp66) (dC rfl rfl) (oY rfl (ai (vB hp66) rfl) ?_)))
            exact key _ _ (keep (keep rfl rfl) (vB (ii hp66)))
           ·refine oSk (sF rfl rfl rfl rfl hp66) (oSk (sF rfl rfl rfl rfl hp66) (oSk (sF rfl rfl rfl rfl hp66) (oY rfl (aj (vB hp66) rfl) ?_)))
            exact key _ _ (keep (keep rfl rfl) (vB (ik hp66)))
         ·rcases ar (b62 && (y34.2 == y40.fE)) with hp65 | hp65
          ·refine oY (sT rfl rfl rfl rfl hp65) (yMI rfl) (oY (sT rfl rfl rfl rfl hp65) (yMI rfl) (oY (sT rfl rfl rfl rfl hp65) (dC rfl rfl) (oY rfl (ai (vB hp65) rfl) ?_)))
           exact key _ _ (keep (keep (keep (keep rfl rfl) rfl) rfl) (vB (ii hp65)))
          ·refine oSk (sF rfl rfl rfl rfl hp65) (oSk (sF rfl rfl rfl rfl hp65) (oSk (sF rfl rfl rfl rfl hp65) (oY rfl (aj (vB hp65) rfl) ?_)))
           exact key _ _ (keep (keep (keep (keep rfl rfl) rfl) rfl) (vB (ik hp65)))
        ·rcases ar b62 with hp64 | hp64
         ·refine oY (sT rfl rfl rfl rfl hp64) (yMI rfl) (oY (sT rfl rfl rfl rfl hp64) (yFA qo rfl) (oY (sT rfl rfl rfl rfl hp64) (yL 9 sc_30 rfl rfl rfl) (oY (sT rfl rfl rfl rfl hp64) (dC rfl rfl) (oY rfl (ai (vB hp64) rfl) ?_))))
          exact key _ _ (keep (keep (keep (keep (keep (keep rfl rfl) rfl) rfl) rfl) rfl) (vB (ii hp64)))
         ·refine oSk (sF rfl rfl rfl rfl hp64) (oSk (sF rfl rfl rfl rfl hp64) (oSk (sF rfl rfl rfl rfl hp64) (oSk (sF rfl rfl rfl rfl hp64) (oY rfl (aj (vB hp64) rfl) ?_))))
          exact key _ _ (keep (keep (keep (keep (keep (keep rfl rfl) rfl) rfl) rfl) rfl) (vB (ik hp64)))
       ·clear h; rcases iOs hb63 with ⟨hp61,h⟩ | ⟨hp61,h⟩
        ·refine oY (sT rfl rfl rfl rfl hp61) (yMS rfl) (oY (sT rfl rfl rfl rfl hp61) (yFA qG rfl) (oY (sT rfl rfl rfl rfl hp61) (yL 9 nA rfl rfl rfl) ?_))
         obtain ⟨y67,hy68,h⟩:=bOs h
         refine oY (sT rfl rfl rfl rfl hp61) (yC [.slice A36 y34.1.length c37,.slice A42 y40.fL.length c43] pF rfl (fun W2 hW2 => bU y34.1 y40.fL y67 hy68 W2 A36 y34.1.length c37 rfl ((RdL.row 7 rfl) W2 hW2) A42 y40.fL.length c43 rfl ((RdL.row 8 rfl) W2 hW2)) rfl) (oY rfl (ai (vB hp61) rfl) ?_)
         obtain rfl:=sI h
         exact key _ _ (kp4 (kp4 rfl))
        ·refine oSk (sF rfl rfl rfl rfl hp61) (oSk (sF rfl rfl rfl rfl hp61) (oSk (sF rfl rfl rfl rfl hp61) (oSk (sF rfl rfl rfl rfl hp61) (oY rfl (aj (vB hp61) rfl) ?_))))
         obtain rfl:=sI h
         exact key _ _ (kp4 (kp4 rfl))
      ·rcases ar b58 with hp60 | hp60
       ·refine oY (sT rfl rfl rfl rfl hp60) (yMI rfl) (oY (sT rfl rfl rfl rfl hp60) (yFA qo rfl) (oY (sT rfl rfl rfl rfl hp60) (yL 6 sc_30 rfl rfl rfl) (oY (sT rfl rfl rfl rfl hp60) (dC rfl rfl) (oY rfl (ai (vB hp60) rfl) ?_))))
        exact key _ _ (keep (keep (keep (keep (keep (keep (keep (keep (keep rfl rfl) rfl) rfl) rfl) rfl) rfl) rfl) rfl) (vB (ii hp60)))
       ·refine oSk (sF rfl rfl rfl rfl hp60) (oSk (sF rfl rfl rfl rfl hp60) (oSk (sF rfl rfl rfl rfl hp60) (oSk (sF rfl rfl rfl rfl hp60) (oY rfl (aj (vB hp60) rfl) ?_))))
        exact key _ _ (keep (keep (keep (keep (keep (keep (keep (keep (keep rfl rfl) rfl) rfl) rfl) rfl) rfl) rfl) rfl) (vB (ik hp60)))
     ·clear h; rcases iOs hb59 with ⟨hp57,h⟩ | ⟨hp57,h⟩
      ·refine oY (sT rfl rfl rfl rfl hp57) (yMS rfl) (oY (sT rfl rfl rfl rfl hp57) (yFA qG rfl) (oY (sT rfl rfl rfl rfl hp57) (yL 6 nA rfl rfl rfl) ?_))
       obtain ⟨y69,hy70,h⟩:=bOs h
       refine oY (sT rfl rfl rfl rfl hp57) (yC [.slice A23 y21.1.length c24,.slice A29 y27.fL.length c30] pF rfl (fun W2 hW2 => bU y21.1 y27.fL y69 hy70 W2 A23 y21.1.length c24 rfl ((RdL.row 4 rfl) W2 hW2) A29 y27.fL.length c30 rfl ((RdL.row 5 rfl) W2 hW2)) rfl) (oY rfl (ai (vB hp57) rfl) ?_)
       obtain rfl:=sI h
       exact key _ _ (kp4 (kp4 (kp (kp (kp rfl)))))
      ·refine oSk (sF rfl rfl rfl rfl hp57) (oSk (sF rfl rfl rfl rfl hp57) (oSk (sF rfl rfl rfl rfl hp57) (oSk (sF rfl rfl rfl rfl hp57) (oY rfl (aj (vB hp57) rfl) ?_))))
       obtain rfl:=sI h
       exact key _ _ (kp4 (kp4 (kp (kp (kp rfl)))))
    ·rcases ar b54 with hp56 | hp56
     ·refine oY (sT rfl rfl rfl rfl hp56) (yMI rfl) (oY (sT rfl rfl rfl rfl hp56) (yFA qo rfl) (oY (sT rfl rfl rfl rfl hp56) (yL 3 sc_30 rfl rfl rfl) (oY (sT rfl rfl rfl rfl hp56) (dC rfl rfl) (oY rfl (ai (vB hp56) rfl) ?_))))
      exact key _ _ (keep (keep (keep (keep (keep (keep (keep (keep (keep (keep (keep (keep rfl rfl) rfl) rfl) rfl) rfl) rfl) rfl) rfl) rfl) rfl) rfl) (vB (ii hp56)))
     ·refine oSk (sF rfl rfl rfl rfl hp56) (oSk (sF rfl rfl rfl rfl hp56) (oSk (sF rfl rfl rfl rfl hp56) (oSk (sF rfl rfl rfl rfl hp56) (oY rfl (aj (vB hp56) rfl) ?_))))
      exact key _ _ (keep (keep (keep (keep (keep (keep (keep (keep (keep (keep (keep (keep rfl rfl) rfl) rfl) rfl) rfl) rfl) rfl) rfl) rfl) rfl) rfl) (vB (ik hp56)))
   ·clear h; rcases iOs hb55 with ⟨hp53,h⟩ | ⟨hp53,h⟩
    ·refine oY (sT rfl rfl rfl rfl hp53) (yMS rfl) (oY (sT rfl rfl rfl rfl hp53) (yFA qG rfl) (oY (sT rfl rfl rfl rfl hp53) (yL 3 nA rfl rfl rfl) ?_))
     obtain ⟨y71,hy72,h⟩:=bOs h
     refine oY (sT rfl rfl rfl rfl hp53) (yC [.slice A10 y8.1.length c11,.slice A16 y14.fL.length c17] pF rfl (fun W2 hW2 => bU y8.1 y14.fL y71 hy72 W2 A10 y8.1.length c11 rfl ((RdL.row 1 rfl) W2 hW2) A16 y14.fL.length c17 rfl ((RdL.row 2 rfl) W2 hW2)) rfl) (oY rfl (ai (vB hp53) rfl) ?_)
     obtain rfl:=sI h
     exact key _ _ (kp4 (kp4 (kp4 (kp (kp rfl)))))
    ·refine oSk (sF rfl rfl rfl rfl hp53) (oSk (sF rfl rfl rfl rfl hp53) (oSk (sF rfl rfl rfl rfl hp53) (oSk (sF rfl rfl rfl rfl hp53) (oY rfl (aj (vB hp53) rfl) ?_))))
     obtain rfl:=sI h
     exact key _ _ (kp4 (kp4 (kp4 (kp (kp rfl)))))
 ·rcases ar (!y2) with hp4 | hp4
  ·refine oSk (sF rfl rfl rfl rfl hp4) (oSk (sF rfl rfl rfl rfl hp4) (oSk (sF rfl rfl rfl rfl hp4) (oY rfl (ai (vB hp4) rfl) ?_)))
   exact key _ _ (keep (keep (keep (keep (keep rfl rfl) rfl) rfl) rfl) (vB (jG hp4)))
  ·refine oY (sT rfl rfl rfl rfl hp4) (yMS rfl) (oY (sT rfl rfl rfl rfl hp4) (bo (us:=[]) bJ rfl) (oY (sT rfl rfl rfl rfl hp4) (iN rfl rfl) (oY rfl (aj (vB hp4) rfl) ?_)))
   exact key _ _ (keep (keep (keep (keep (keep rfl rfl) rfl) rfl) rfl) (vB (jD hp4)))
end Go.Proofs.YthndghnkebboaaaGreat
