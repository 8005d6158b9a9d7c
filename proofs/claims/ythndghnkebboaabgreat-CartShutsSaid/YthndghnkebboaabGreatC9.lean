import Derived.Test.YthndghnkebboaabGreatF
import Derived.Test.YthndghnkebboaabGreatGy
import Derived.Test.YthndghnkebboaabGreatC0
import Derived.Test.YthndghnkebboaabGreatC1
import Derived.Test.YthndghnkebboaabGreatC3
import Derived.Test.YthndghnkebboaabGreatC8
set_option maxHeartbeats 4000000
set_option maxRecDepth 100000
set_option linter.unusedVariables false
namespace Go.Proofs.YthndghnkebboaabGreat
open Go.RowKit (Below)
attribute [local irreducible] OX QX CX EX OpY Calls CallsIn
theorem jk (p0:(List Int)) (p1:Int) (res:Bool) (h:db p0 p1 = some res) (W:World) (Aa:Option Addr) (n0_0 ca : Nat) (hn0_0:n0_0 = p0.length) (hr0_0:Rd W Aa n0_0 ca (encL cI p0)) :
  Calls Tryz.prog 10 [.slice Aa n0_0 ca,vI p1].toArray W fun e W2 => e = .returned (.bool res) ∧ Ext W W2 []:=by
 subst hn0_0
 unfold db at h
 refine ac (m:=18) Tryz.func10 rfl rfl (nB rfl) (cS (cR (oY rfl (yAB rfl) (oN (eT (cS (cS (cR (oY rfl (yAI rfl) (oN (eT (cB ?_))))))))))))
 obtain ⟨u3,hl7,h⟩:=bOs h
 refine bT (fun (s:(Bool × Int)) L tm => ∃ (tm0:Nat → Value),L = [] ∧ tm = (upd (upd (upd (upd tm0 0 (.slice Aa p0.length ca)) 1 (vI p1)) 4 (.bool s.1)) 5 (vI s.2))) 0 hl7 ⟨_,rfl,(kp4 rfl)⟩ ?_ ?_
 ·rintro s2 L tm st ⟨tm0_s2,rfl,rfl⟩ h
  unfold cW at h
  refine cS (cS (cR (oY rfl (yMI rfl) (oY rfl (yMS rfl) (oY rfl (bu (us:=[]) dH rfl) (oY rfl (bB rfl rfl) (oN (eT ?_))))))))
  rcases iOs h with ⟨hp4,h⟩ | ⟨hp4,h⟩
  ·refine cT (vB hp4) (cK (eT (cS (cB (cS (cR (oY rfl (yMS rfl) (oY rfl (yMI rfl) ?_))))))))
   obtain ⟨hg5,h⟩:=gOs h
   refine oY rfl (yI d9 (by decide) hg5.1 hg5.2 (RdL.arg hr0_0) (eL aG rfl) rfl rfl) ?_
   refine oY rfl (yR (A:=Aa) (j:=(Int.toNat s2.2 * 1)) (v:=vI (rdL p0 s2.2)) bc (RdL.arg hr0_0) rfl (aW aG hg5.1 (av hg5.2 rfl) rfl)) (oY rfl (yMI rfl) (oY rfl (cJ rfl rfl) (oN (eT ?_))))
   rcases iOs h with ⟨hp6,h⟩ | ⟨hp6,h⟩
   ·refine cT (vB hp6) (cS (cR (oY rfl (yAB rfl) (oN (eT (am (al (aa ?_))))))))
    obtain rfl:=sI h
    exact aA ⟨rfl,_,rfl,(kp4 rfl)⟩
   ·refine cF (vB hp6) (cK (az (eT (cR (oY rfl (yMI rfl) (oY rfl (be rfl rfl) (oY rfl (yAI rfl) (oN ?_))))))))
    obtain rfl:=sI h
    exact eN ⟨_,rfl,(kp4 rfl)⟩
  ·refine cF (vB hp4) (aH (ai ?_))
   obtain rfl:=sI h
   exact aA ⟨rfl,_,rfl,(kp4 rfl)⟩
 ·intro e L tm hJ
  rcases u3 with u8 | u9
  ·dsimp only at h hJ
   obtain ⟨rfl,tm0_u8,rfl,rfl⟩:=hJ
   refine ⟨(by intro hc; cases hc),?_⟩
   refine al (aa ?_)
   obtain rfl:=sI h
   exact ao (.inl rfl) rfl (rVt (v:=.bool u8.1) rfl) (fun W2 hW2 => ⟨rfl,hW2.none⟩)
  ·dsimp only at h hJ
   obtain ⟨rfl,tm0_u9,rfl,rfl⟩:=hJ
   refine ⟨(by intro hc; cases hc),?_⟩
   refine ag (eT (cS (cR (oY rfl (yAB rfl) (oN (eT (am ?_)))))))
   obtain rfl:=sI h
   exact ao (.inl rfl) rfl (rVt (v:=.bool false) rfl) (fun W2 hW2 => ⟨rfl,hW2.none⟩)
theorem calxlaw05_CartShuts_ok (p0:TR) (p1:Int) (p2:Int) (p3:Int) (p4:Int) (p5:Int) (p6:TSpan) (res:Bool) (h:dJ p0 p1 p2 p3 p4 p5 p6 = some res) (W:World) (Ab:Option Addr) (n0_1 cb : Nat) (ys0_1:List (Hd × TT)) (hn0_1:n0_1 = p0.fT.length) (hr0_1:Rd W Ab n0_1 cb (encL TTrack_cells2 ys0_1)) (hN0_1:NestW W (fun z : TT => z.fK) TSpan_cells ys0_1 p0.fT) :
  Calls Tryz.prog 3 [.agg #[vI p0.fL,.slice Ab n0_1 cb],vI p1,vI p2,vI p3,vI p4,.int .u8 p5,.agg #[vI p6.fLo,vI p6.fHi]].toArray W fun e W2 => e = .returned (.bool res) ∧ Ext W W2 []:=by
 subst hn0_1
 unfold dJ at h
 refine ac (m:=170) Tryz.func3 rfl rfl (nB rfl) (cS (cR ?_))
 refine aZ [vI p0.fL,.slice Ab p0.fT.length cb] rfl rfl rfl (fun b1 => ?_)
 refine aZ [vI p6.fLo,vI p6.fHi] rfl rfl rfl (fun b2 => ?_)
 refine oY rfl (yAB rfl) (oN (eT (cS (cS (cR (oY rfl (yN 0 [vI p0.fL,.slice Ab p0.fT.length cb] dU rfl rfl rfl) ?_))))))
 obtain ⟨y3,hy4,h⟩:=bOs h
 refine oY rfl (yC [.agg #[vI p0.fL,.slice Ab p0.fT.length cb]] go_5 rfl (fun W2 hW2 => mi p0 y3 hy4 W2 Ab p0.fT.length cb ys0_1 rfl ((RdL.arg hr0_1) W2 hW2) (NestL.at (NestL.arg hN0_1) W2 hW2)) rfl) (oY rfl (cr rfl) (oY rfl (yMB rfl) ?_))
 refine oJ 5 (fun tm0 => (upd (upd (upd (upd (upd (upd (upd (upd (upd tm0 1 (vI p1)) 2 (vI p2)) 3 (vI p3)) 4 (vI p4)) 5 (.int .u8 p5)) 7 (.pointer (some ⟨b1,0,none⟩))) 13 (.pointer (some ⟨b2,0,none⟩))) 14 (.bool false)) 36 (.bool ((!y3) || ((p0.fT.length:Int) == 0))))) (fun tm0 => ?_) (fun key => ?_)
 ·refine oN (eT ?_)
  rcases iOs h with ⟨hp6,h⟩ | ⟨hp6,h⟩
  ·refine cT (vB hp6) (cS (cR ?_))
   obtain ⟨y7,hy8,h⟩:=bOs h
   refine oY rfl (yC [] go_6 rfl (fun W2 hW2 => dK  y7 hy8 W2 ) rfl) (oY rfl (yAB rfl) (oN (eT (am (aa ?_)))))
   obtain rfl:=sI h
   exact ao (.inl rfl) rfl (rVt (v:=.bool y7) rfl) (fun W2 hW2 => ⟨rfl,hW2.none⟩)
  ·refine cF (vB hp6) (cK (eT (cS (cR (oY rfl (yN 0 [vI p0.fL,.slice Ab p0.fT.length cb] dU rfl rfl rfl) (oY rfl (yMI rfl) (oY rfl (yMI rfl) (oY rfl (yMI rfl) (oY rfl (yMI rfl) ?_)))))))))
   obtain ⟨y9,hy10,h⟩:=bOs h
   refine oC [.agg #[vI p0.fL,.slice Ab p0.fT.length cb],vI p1,vI p2,vI p3,vI p4] _ _ _ rfl go_7 rfl (fun W2 hW2 => fo p0 p1 p2 p3 p4 y9 hy10 W2 Ab p0.fT.length cb ys0_1 rfl ((RdL.arg hr0_1) W2 hW2) (NestL.at (NestL.arg hN0_1) W2 hW2) W (fun _ => True) (fun W3 hb => ⟨fu hW2.below hb,trivial⟩) ) ?_
   rintro ⟨⟨A13,n15,c14⟩,F17⟩ ⟨hn16,hV18⟩
   replace hn16 : n15 = y9.1.fLegs.length:=hn16; subst hn16
   refine oY rfl (aI rfl) (oY rfl (yE rfl rfl) (oY rfl (yE rfl rfl) ?_))
   refine aB iX rfl (fun b19 => ?_)
   refine ck rfl (yS 3 [.slice A13 y9.1.fLegs.length c14,vI y9.1.fA,vI y9.1.fToll] jB rfl (nB rfl) rfl rfl rfl) (oY rfl (yAI rfl) (oN (eT (cS (cS (cR (oY rfl (yMI rfl) (oY rfl (eo rfl rfl) (oN (eT ?_))))))))))
   rcases iOs h with ⟨hp20,h⟩ | ⟨hp20,h⟩
   ·refine cT (vB hp20) (cS (cR ?_))
    obtain ⟨y21,hy22,h⟩:=bOs h
    refine oY rfl (yC [] go_6 rfl (fun W2 hW2 => dK  y21 hy22 W2 ) rfl) (oY rfl (yAB rfl) (oN (eT (am (aa ?_)))))
    obtain rfl:=sI h
    exact ao (.inl rfl) rfl (rVt (v:=.bool y21) rfl) (fun W2 hW2 => ⟨rfl,hW2.none⟩)
   ·refine cF (vB hp20) (cK (eT (cS (cR (oY rfl (yMI rfl) (oY rfl (tH ui_5 ui_3 rfl) (oY rfl (yFA bS rfl) (oY rfl (yL 0 fX rfl rfl rfl) (oY rfl (bu (us:=[]) gg rfl) ?_)))))))))
    obtain ⟨hg23,h⟩:=gOs h
    refine oY rfl (y_rem hg23 rfl rfl) (oY rfl (yAI rfl) (oN (eT (cS ?_))))
    obtain ⟨hg25,h⟩:=gOs h
    obtain ⟨y26,hy27,h⟩:=bOs h
    refine cO [[],[],[1],[],[1,2,3],[1,2,3,4],[1,2,3,4,5],[],[0,1,2,3,4,5,6,7],[0,1,2,3,4,5,6,7,8],[0,1,2,3,4,5,6,7,8,9],[0,1,2,3,4,5,6,7,8,9],[],[0,1,2,3,4,5,6,7,8,9,10,12],[0,1,2,3,4,5,6,7,8,9,10,11,12,13]] [(none,0,[true,true,true,true]),(none,0,[true,true,true,true]),(none,0,[true,true,true,true]),(none,0,[true,true,true,true]),(none,0,[true,true,true,true]),(none,0,[true,true,true,true]),(none,0,[true,true,true,true]),(none,0,[true,true,true,true]),(none,3,[true,true,true,true]),(none,0,[true,true,true,true,true,true,true]),(none,0,[true,true,true,true,true,true,true]),(none,0,[true,true,true,true,true,true,true]),(none,1,[true,true,true,true,false,false,false]),(some 7,0,[true,true,true,true,true,true,true,true]),(none,0,[true,true,true,true,true,true,true,true])] [⟨fun _ => .agg #[vI p0.fL,.slice Ab p0.fT.length cb],fun _ => noR,fun _ => []⟩,⟨fun _ => .pointer (some ⟨b1,0 + 1,none⟩),fun _ => noR,fun _ => []⟩,⟨fun _ => .slice Ab p0.fT.length cb,fun _ => noR,fun _ => []⟩,⟨fun _ => vI (Int.tmod (w64 p5) (p0.fT.length:Int)),fun _ => noR,fun _ => []⟩,⟨fun _ => slA Ab (Int.toNat (Int.tmod (w64 p5) (p0.fT.length:Int)) * 6),fun _ => noR,fun _ => []⟩,⟨fun _ => slA Ab ((Int.toNat (Int.tmod (w64 p5) (p0.fT.length:Int)) * 6) + 0),fun _ => noR,fun _ => []⟩,⟨fun _ => vI ((rdL p0.fT (Int.tmod (w64 p5) (p0.fT.length:Int))).fID),fun _ => noR,fun _ => []⟩,⟨fun _ => .agg #[vI p6.fLo,vI p6.fHi],fun _ => noR,fun _ => []⟩,⟨fun ξ24 => .tuple #[.agg #[vI y26.1.fL,.slice (ξ24 8 0).1 y26.1.fT.length (ξ24 8 0).2.2.1],vI y26.2],fun _ => noR,fun ξ24 => [aJ (ξ24 8 0).1 (ξ24 8 0).2.2.1 39 6 y26.1.fT.length (encL TTrack_cells2 (List.zip (ξ24 8 0).2.2.2.1 y26.1.fT)),(ξ24 8 0).2.2.2.2,rR (NestP (fun z : TT => z.fK) (List.zip (ξ24 8 0).2.2.2.1 y26.1.fT) y26.1.fT ∧ PvL (fun z : TT => z.fK) TSpan_cells W (fun W4 => (fun _ => True) W4 ∧ Res.holds (ξ24 8 0).2.2.2.2 W4) (List.zip (ξ24 8 0).2.2.2.1 y26.1.fT))]⟩,⟨fun ξ24 => .tuple #[.agg #[vI y26.1.fL,.slice (ξ24 8 0).1 y26.1.fT.length (ξ24 8 0).2.2.1],vI y26.2],fun _ => noR,fun _ => []⟩,⟨fun ξ24 => .agg #[vI y26.1.fL,.slice (ξ24 8 0).1 y26.1.fT.length (ξ24 8 0).2.2.1],fun _ => noR,fun _ => []⟩,⟨fun _ => vI y26.2,fun _ => noR,fun _ => []⟩,⟨fun ξ24 => .pointer (some ⟨(ξ24 12 0).2.1,0,none⟩),fun _ => noR,fun ξ24 => [ah (ξ24 12 0).2.1 24 [vI 0,.slice none 0 0]]⟩,⟨fun _ => undef,fun ξ24 => ah (ξ24 12 0).2.1 24 [vI y26.1.fL,.slice (ξ24 8 0).1 y26.1.fT.length (ξ24 8 0).2.2.1],fun _ => []⟩,⟨fun _ => vI y26.2,fun _ => noR,fun _ => []⟩] 4 cQ (by kernel_rfl) (by kernel_rfl) ⟨⟨fun ξ24 ξ24' h => ⟨rfl,rfl,rfl⟩,fun _ => rfl⟩,⟨fun ξ24 ξ24' h => ⟨rfl,rfl,rfl⟩,fun _ => rfl⟩,⟨fun ξ24 ξ24' h => ⟨rfl,rfl,rfl⟩,fun _ => rfl⟩,⟨fun ξ24 ξ24' h => ⟨rfl,rfl,rfl⟩,fun _ => rfl⟩,⟨fun ξ24 ξ24' h => ⟨rfl,rfl,rfl⟩,fun _ => rfl⟩,⟨fun ξ24 ξ24' h => ⟨rfl,rfl,rfl⟩,fun _ => rfl⟩,⟨fun ξ24 ξ24' h => ⟨rfl,rfl,rfl⟩,fun _ => rfl⟩,⟨fun ξ24 ξ24' h => ⟨rfl,rfl,rfl⟩,fun _ => rfl⟩,⟨fun ξ24 ξ24' h => ⟨by simp only [h 8 (.inl rfl)],rfl,by simp only [h 8 (.inl rfl)]⟩,fun _ => rfl⟩,⟨fun ξ24 ξ24' h => ⟨by simp only [h 8 (.inr rfl)],rfl,rfl⟩,fun _ => rfl⟩,⟨fun ξ24 ξ24' h => ⟨by simp only [h 8 (.inr rfl)],rfl,rfl⟩,fun _ => rfl⟩,⟨fun ξ24 ξ24' h => ⟨rfl,rfl,rfl⟩,fun _ => rfl⟩,⟨fun ξ24 ξ24' h => ⟨by simp only [h 12 (.inl rfl)],rfl,by simp only [h 12 (.inl rfl)]⟩,fun _ => rfl⟩,⟨fun ξ24 ξ24' h => ⟨rfl,by simp only [h 8 (.inr rfl),h 12 (.inr rfl)],rfl⟩,fun _ => rfl⟩,⟨fun ξ24 ξ24' h => ⟨rfl,rfl,rfl⟩,fun _ => rfl⟩,trivial⟩ rfl (fun ξ24 => ?_)
    refine bj rfl (fun L2 => ?_) ?_
    ·dsimp only [ar,lca,lna]
     refine oY rfl (yN 0 [vI p0.fL,.slice Ab p0.fT.length cb] dU rfl rfl rfl) (oN ?_)
     exact ab (fun _ => (none,0,0,[],noR)) rfl (List.append_nil _)
    dsimp only [aV,lsz,lss,lna,lca,List.append_nil]
    refine bj rfl (fun L2 => ?_) ?_
    ·dsimp only [ar,lca,lna]
     refine oY rfl (yFA bS rfl) (oN ?_)
     exact ab (fun _ => (none,0,0,[],noR)) rfl (List.append_nil _)
    dsimp only [aV,lsz,lss,lna,lca,List.append_nil]
    refine bj rfl (fun L2 => ?_) ?_
    ·dsimp only [ar,lca,lna]
     refine oY rfl (yL 0 fX rfl rfl rfl) (oN ?_)
     exact ab (fun _ => (none,0,0,[],noR)) rfl (List.append_nil _)
    dsimp only [aV,lsz,lss,lna,lca,List.append_nil]
    refine bj rfl (fun L2 => ?_) ?_
    ·dsimp only [ar,lca,lna]
     refine oY rfl (yMI rfl) (oN ?_)
     exact ab (fun _ => (none,0,0,[],noR)) rfl (List.append_nil _)
    dsimp only [aV,lsz,lss,lna,lca,List.append_nil]
    refine bj rfl (fun L2 => ?_) ?_
    ·dsimp only [ar,lca,lna]
     refine oY rfl (yI io (by decide) hg25.1 hg25.2 (RdL.arg hr0_1) (eL aj (NestP.hn hN0_1.p rfl)) rfl rfl) ?_
     refine oN ?_
     exact ab (fun _ => (none,0,0,[],noR)) rfl (List.append_nil _)
    dsimp only [aV,lsz,lss,lna,lca,List.append_nil]
    refine bj rfl (fun L2 => ?_) ?_
    ·dsimp only [ar,lca,lna]
     refine oY rfl (yFR (A:=Ab) (j:=(Int.toNat (Int.tmod (w64 p5) (p0.fT.length:Int)) * 6)) jy rfl) (oN ?_)
     exact ab (fun _ => (none,0,0,[],noR)) rfl (List.append_nil _)
    dsimp only [aV,lsz,lss,lna,lca,List.append_nil]
    refine bj rfl (fun L2 => ?_) ?_
    ·dsimp only [ar,lca,lna]
     refine oY rfl (yR (A:=Ab) (j:=((Int.toNat (Int.tmod (w64 p5) (p0.fT.length:Int)) * 6) + 0)) (v:=vI ((rdL p0.fT (Int.tmod (w64 p5) (p0.fT.length:Int))).fID)) bc (RdL.arg hr0_1) rfl (eG aj hg25.1 (av hg25.2 (NestP.hn hN0_1.p rfl)) (congrArg (fun z : TT => some (Value.int .i64 z.fID)) (NestP.snd hN0_1.p (Int.tmod (w64 p5) (p0.fT.length:Int)))))) (oN ?_)
     exact ab (fun _ => (none,0,0,[],noR)) rfl (List.append_nil _)
    dsimp only [aV,lsz,lss,lna,lca,List.append_nil]
    refine bj rfl (fun L2 => ?_) ?_
    ·dsimp only [ar,lca,lna]
     refine oY rfl (yN 1 [vI p6.fLo,vI p6.fHi] ns rfl rfl rfl) (oN ?_)
     exact ab (fun _ => (none,0,0,[],noR)) rfl (List.append_nil _)
    dsimp only [aV,lsz,lss,lna,lca,List.append_nil]
    refine bj rfl (fun L2 => ?_) ?_
    ·dsimp only [ar,lca,lna]
     refine oC [.agg #[vI p0.fL,.slice Ab p0.fT.length cb],vI ((rdL p0.fT (Int.tmod (w64 p5) (p0.fT.length:Int))).fID),.agg #[vI p6.fLo,vI p6.fHi]] _ _ _ rfl go_8 rfl (fun W2 hW2 => pU p0 ((rdL p0.fT (Int.tmod (w64 p5) (p0.fT.length:Int))).fID) p6 y26 hy27 W2 Ab p0.fT.length cb ys0_1 rfl ((RdL.arg hr0_1) W2 hW2) (NestL.at (NestL.arg hN0_1) W2 hW2) W (fun _ => True) (fun W3 hb => ⟨fu hW2.below hb,trivial⟩) (PvL.of_nest hN0_1)) ?_
     rintro ⟨⟨A30,n32,c31⟩,ys35,F36⟩ ⟨hn33,hP34,hV37⟩
     replace hn33 : n32 = y26.1.fT.length:=hn33; subst hn33
     obtain ⟨hs38,rfl⟩ : ∃ hs38 : List Hd,ys35 = List.zip hs38 y26.1.fT:=⟨_,NestP.zip hP34⟩
     refine n1 (p:=(NestP (fun z : TT => z.fK) (List.zip hs38 y26.1.fT) y26.1.fT ∧ PvL (fun z : TT => z.fK) TSpan_cells W (fun W4 => (fun _ => True) W4 ∧ Res.holds F36 W4) (List.zip hs38 y26.1.fT))) ⟨hP34,hV37⟩ ?_
     try dsimp only [lna,lca]
     rw [List.append_assoc L2]
     dsimp only [lna,lca]
     refine oN ?_
     exact ab (fun _ => (A30,0,c31,hs38,F36)) rfl rfl
    dsimp only [aV,lsz,lss,lna,lca,List.append_nil]
    refine bj rfl (fun L2 => ?_) ?_
    ·dsimp only [ar,lca,lna]
     refine oY rfl (aI rfl) (oN ?_)
     exact ab (fun _ => (none,0,0,[],noR)) rfl (List.append_nil _)
    dsimp only [aV,lsz,lss,lna,lca,List.append_nil]
    refine bj rfl (fun L2 => ?_) ?_
    ·dsimp only [ar,lca,lna]
     refine oY rfl (yE rfl rfl) (oN ?_)
     exact ab (fun _ => (none,0,0,[],noR)) rfl (List.append_nil _)
    dsimp only [aV,lsz,lss,lna,lca,List.append_nil]
    refine bj rfl (fun L2 => ?_) ?_
    ·dsimp only [ar,lca,lna]
     refine oY rfl (yE rfl rfl) (oN ?_)
     exact ab (fun _ => (none,0,0,[],noR)) rfl (List.append_nil _)
    dsimp only [aV,lsz,lss,lna,lca,List.append_nil]
    refine bj rfl (fun L2 => ?_) ?_
    ·dsimp only [ar,lca,lna]
     refine aB jN rfl (fun b39 => ?_)
     refine oN ?_
     exact ab (fun _ => (none,b39,0,[],noR)) rfl rfl
    dsimp only [aV,lsz,lss,lna,lca,List.append_nil]
    refine pw rfl (fun L2 => ?_) ?_
    ·dsimp only [ar,lca,lna]
     refine ck rfl (yS 7 [vI y26.1.fL,.slice (ξ24 8 0).1 y26.1.fT.length (ξ24 8 0).2.2.1] mm rfl (nB rfl) rfl rfl rfl) (oN ?_)
     first | exact bf (fun _ => (none,0,0,[],noR)) rfl | exact bf (fun _ => (none,0,0,[],noR)) (List.append_nil _)
    dsimp only [aV,lsz,lss,lna,lca,List.append_nil]
    refine bj rfl (fun L2 => ?_) ?_
    ·dsimp only [ar,lca,lna]
     refine oY rfl (yAI rfl) (oN ?_)
     exact ab (fun _ => (none,0,0,[],noR)) rfl (List.append_nil _)
    dsimp only [aV,lsz,lss,lna,lca,List.append_nil]
    refine g9 ?_
    refine sD 6 rfl (fun hF => ?_)
    obtain ⟨hP34,hV37⟩:=hF
    refine eT (cS (cS (cR ?_)))
    try dsimp only [lna,lca,lsz,lss]
    refine oY rfl (yMI rfl) (oY rfl (cJ rfl rfl) (oN (eT ?_)))
    rcases iOs h with ⟨hp40,h⟩ | ⟨hp40,h⟩
    ·refine cT (vB hp40) (cS (cR (oY rfl (yN 7 [vI y26.1.fL,.slice (ξ24 8 0).1 y26.1.fT.length (ξ24 8 0).2.2.1] dU rfl rfl rfl) (oY rfl (yMI rfl) (oY rfl (yMI rfl) (oY rfl (yMI rfl) (oY rfl (yMI rfl) ?_)))))))
     obtain ⟨y41,hy42,h⟩:=bOs h
     refine oC [.agg #[vI y26.1.fL,.slice (ξ24 8 0).1 y26.1.fT.length (ξ24 8 0).2.2.1],vI p1,vI p2,vI p3,vI p4] _ _ _ rfl go_7 rfl (fun W2 hW2 => fo y26.1 p1 p2 p3 p4 y41 hy42 W2 (ξ24 8 0).1 y26.1.fT.length (ξ24 8 0).2.2.1 (List.zip (ξ24 8 0).2.2.2.1 y26.1.fT) rfl ((RdL.row 4 rfl) W2 hW2) (NestL.at (PvL.nestL hP34 hV37 (fun W2 hW2 => ⟨hW2.below,trivial,hW2.mem (i:=5) rfl⟩)) W2 hW2) W (fun _ => True) (fun W3 hb => ⟨fu hW2.below hb,trivial⟩) ) ?_
     rintro ⟨⟨A45,n47,c46⟩,F49⟩ ⟨hn48,hV50⟩
     replace hn48 : n47 = y41.1.fLegs.length:=hn48; subst hn48
     try dsimp only [lna,lca,lsz,lss]
     refine oY rfl (aI rfl) (oY rfl (yE rfl rfl) (oY rfl (yE rfl rfl) ?_))
     refine aB iX rfl (fun b51 => ?_)
     try dsimp only [lna,lca,lsz,lss]
     refine ck rfl (yS 9 [.slice A45 y41.1.fLegs.length c46,vI y41.1.fA,vI y41.1.fToll] jB rfl (nB rfl) rfl rfl rfl) (oY rfl (yAI rfl) (oN (eT (cS (cR (oY rfl (yMI rfl) (oY rfl (eo rfl rfl) (oY rfl (yMB rfl) ?_))))))))
     refine oJ 3 (fun tm0 => (upd (upd (upd (upd (upd (upd (upd (upd (upd (upd (upd tm0 1 (vI p1)) 2 (vI p2)) 3 (vI p3)) 4 (vI p4)) 7 (.pointer (some ⟨b1,0,none⟩))) 14 (.bool false)) 15 (.pointer (some ⟨b19,0,none⟩))) 17 (vI (Int.tmod (w64 p5) (p0.fT.length:Int)))) 20 (.pointer (some ⟨b51,0,none⟩))) 21 (vI y41.2)) 84 (.bool ((y41.2 != 0) && (y41.2 != 5))))) (fun tm0 => ?_) (fun key => ?_)
     ·refine oY rfl (yMB rfl) ?_
      refine oJ 10 (fun tm0 => (upd (upd (upd (upd (upd (upd (upd (upd (upd tm0 1 (vI p1)) 2 (vI p2)) 3 (vI p3)) 4 (vI p4)) 7 (.pointer (some ⟨b1,0,none⟩))) 14 (.bool false)) 15 (.pointer (some ⟨b19,0,none⟩))) 17 (vI (Int.tmod (w64 p5) (p0.fT.length:Int)))) 95 (.bool (((y41.2 != 0) && (y41.2 != 5)) || ((y41.2 == 0) && (decide (y41.1.fA < y9.1.fA))))))) (fun tm0 => ?_) (fun key => ?_)
      ·refine oN (eT ?_)
       rcases iOs h with ⟨hp54,h⟩ | ⟨hp54,h⟩
       ·refine cT (vB hp54) (cS (cR (oY rfl (yAB rfl) (oN (eT (am (aa ?_)))))))
        obtain rfl:=sI h
        exact ao (.inl rfl) rfl (rVt (v:=.bool false) rfl) (fun W2 hW2 => ⟨rfl,hW2.none⟩)
       ·refine cF (vB hp54) (cK (eT (cS (cR (oY rfl (yN 0 [vI p0.fL,.slice Ab p0.fT.length cb] dU rfl rfl rfl) (oY rfl (yMI rfl) (oY rfl (yMI rfl) (oY rfl (yMI rfl) (oY rfl (yMI rfl) ?_)))))))))
        obtain ⟨y55,hy56,h⟩:=bOs h
        refine oC [.agg #[vI p0.fL,.slice Ab p0.fT.length cb],vI p1,vI p2,vI p3,vI p4] _ _ _ rfl go_9 rfl (fun W2 hW2 => gk p0 p1 p2 p3 p4 y55 hy56 W2 Ab p0.fT.length cb ys0_1 rfl ((RdL.arg hr0_1) W2 hW2) (NestL.at (NestL.arg hN0_1) W2 hW2)) ?_
        rintro ⟨A57,n59,c58⟩ hn60
        replace hn60 : n59 = y55.1.length:=hn60; subst hn60
        try dsimp only [lna,lca,lsz,lss]
        refine oY rfl (aI rfl) (oY rfl (yE rfl rfl) (oY rfl (yE rfl rfl) (oY rfl (yAS rfl) (oY rfl (yAI rfl) (oN (eT (cS ?_)))))))
        obtain ⟨hg63,h⟩:=gOs h
        obtain ⟨hg66,h⟩:=gOs h
        obtain ⟨hg67,h⟩:=gOs h
        obtain ⟨hg70,h⟩:=gOs h
        refine cO [[],[0],[],[],[3],[],[3,4,5],[2,3,4,5,6],[],[8],[],[10],[8,9,10,11],[2,3,4,5,6,7,8,9,10,11,12],[0,1,2,3,4,5,6,7,8,9,10,11,12,13],[],[0,1,2,3,4,5,6,7,8,9,10,11,12,13,14,15]] [(none,0,[true,true,true,true,true,true,true,true,true,true,true]),(none,0,[true,true,true,true,true,true,true,true,true,true,true]),(none,1,[true,true,true,true,true,true,true,true,true,true,true]),(none,0,[true,true,true,true,true,true,true,true,true,true,true,false]),(none,0,[true,true,true,true,true,true,true,true,true,true,true,false]),(none,0,[true,true,true,true,true,true,true,true,true,true,true,false]),(none,0,[true,true,true,true,true,true,true,true,true,true,true,false]),(some 11,0,[true,true,true,true,true,true,true,true,true,true,true,true]),(none,0,[true,true,true,true,true,true,true,true,true,true,true,false]),(none,0,[true,true,true,true,true,true,true,true,true,true,true,false]),(none,0,[true,true,true,true,true,true,true,true,true,true,true,false]),(none,0,[true,true,true,true,true,true,true,true,true,true,true,false]),(none,0,[true,true,true,true,true,true,true,true,true,true,true,false]),(some 11,0,[true,true,true,true,true,true,true,true,true,true,true,true]),(none,0,[true,true,true,true,true,true,true,true,true,true,true,true]),(none,1,[true,true,true,true,true,true,true,true,true,true,true,false]),(some 12,0,[true,true,true,true,true,true,true,true,true,true,true,true,true])] [⟨fun _ => .pointer (some ⟨b1,0 + 0,none⟩),fun _ => noR,fun _ => []⟩,⟨fun _ => vI p0.fL,fun _ => noR,fun _ => []⟩,⟨fun ξ61 => .slice (some ⟨(ξ61 2 0).2.1,0,none⟩) 0 0,fun _ => noR,fun ξ61 => [aJ (some ⟨(ξ61 2 0).2.1,0,none⟩) 0 39 6 0 (encL TTrack_cells2 ([]:List (Hd × TT)))]⟩,⟨fun _ => .pointer (some ⟨b1,0 + 1,none⟩),fun _ => noR,fun _ => []⟩,⟨fun _ => .slice Ab p0.fT.length cb,fun _ => noR,fun _ => []⟩,⟨fun _ => vI (Int.tmod (w64 p5) (p0.fT.length:Int)),fun _ => noR,fun _ => []⟩,⟨fun _ => .slice Ab (Int.toNat (Int.tmod (w64 p5) (p0.fT.length:Int))) cb,fun _ => noR,fun _ => []⟩,⟨fun ξ61 => .slice (ξ61 7 0).1 (0 + (Int.toNat (Int.tmod (w64 p5) (p0.fT.length:Int)))) (ξ61 7 0).2.2.1,fun ξ61 => aJ (ξ61 7 0).1 (ξ61 7 0).2.2.1 39 6 (0 + (Int.toNat (Int.tmod (w64 p5) (p0.fT.length:Int)))) (encL TTrack_cells2 (([]:List (Hd × TT)) ++ (ys0_1.take (Int.toNat (Int.tmod (w64 p5) (p0.fT.length:Int)))))),fun _ => []⟩,⟨fun _ => .pointer (some ⟨b1,0 + 1,none⟩),fun _ => noR,fun _ => []⟩,⟨fun _ => .slice Ab p0.fT.length cb,fun _ => noR,fun _ => []⟩,⟨fun _ => vI (Int.tmod (w64 p5) (p0.fT.length:Int)),fun _ => noR,fun _ => []⟩,⟨fun _ => vI (w64 ((Int.tmod (w64 p5) (p0.fT.length:Int)) + 1)),fun _ => noR,fun _ => []⟩,⟨fun _ => .slice (if cb = Int.toNat (w64 ((Int.tmod (w64 p5) (p0.fT.length:Int)) + 1)) then Ab else Option.map (fun x => x.add (Int.toNat (w64 ((Int.tmod (w64 p5) (p0.fT.length:Int)) + 1)) * 6)) Ab) (p0.fT.length - Int.toNat (w64 ((Int.tmod (w64 p5) (p0.fT.length:Int)) + 1))) (cb - Int.toNat (w64 ((Int.tmod (w64 p5) (p0.fT.length:Int)) + 1))),fun _ => noR,fun _ => []⟩,⟨fun ξ61 => .slice (ξ61 13 0).1 ((0 + (Int.toNat (Int.tmod (w64 p5) (p0.fT.length:Int)))) + (p0.fT.length - Int.toNat (w64 ((Int.tmod (w64 p5) (p0.fT.length:Int)) + 1)))) (ξ61 13 0).2.2.1,fun ξ61 => aJ (ξ61 13 0).1 (ξ61 13 0).2.2.1 39 6 ((0 + (Int.toNat (Int.tmod (w64 p5) (p0.fT.length:Int)))) + (p0.fT.length - Int.toNat (w64 ((Int.tmod (w64 p5) (p0.fT.length:Int)) + 1)))) (encL TTrack_cells2 ((([]:List (Hd × TT)) ++ (ys0_1.take (Int.toNat (Int.tmod (w64 p5) (p0.fT.length:Int))))) ++ (ys0_1.drop (Int.toNat (w64 ((Int.tmod (w64 p5) (p0.fT.length:Int)) + 1)))))),fun _ => []⟩,⟨fun ξ61 => .agg #[vI p0.fL,.slice (ξ61 13 0).1 ((0 + (Int.toNat (Int.tmod (w64 p5) (p0.fT.length:Int)))) + (p0.fT.length - Int.toNat (w64 ((Int.tmod (w64 p5) (p0.fT.length:Int)) + 1)))) (ξ61 13 0).2.2.1],fun _ => noR,fun _ => []⟩,⟨fun ξ61 => .pointer (some ⟨(ξ61 15 0).2.1,0,none⟩),fun _ => noR,fun ξ61 => [ah (ξ61 15 0).2.1 24 [vI 0,.slice none 0 0]]⟩,⟨fun _ => undef,fun ξ61 => ah (ξ61 15 0).2.1 24 [vI p0.fL,.slice (ξ61 13 0).1 ((0 + (Int.toNat (Int.tmod (w64 p5) (p0.fT.length:Int)))) + (p0.fT.length - Int.toNat (w64 ((Int.tmod (w64 p5) (p0.fT.length:Int)) + 1)))) (ξ61 13 0).2.2.1],fun _ => []⟩] 11 cQ (by kernel_rfl) (by kernel_rfl) ⟨⟨fun ξ61 ξ61' h => ⟨rfl,rfl,rfl⟩,fun _ => rfl⟩,⟨fun ξ61 ξ61' h => ⟨rfl,rfl,rfl⟩,fun _ => rfl⟩,⟨fun ξ61 ξ61' h => ⟨by simp only [h 2 (.inl rfl)],rfl,by simp only [h 2 (.inl rfl)]⟩,fun _ => rfl⟩,⟨fun ξ61 ξ61' h => ⟨rfl,rfl,rfl⟩,fun _ => rfl⟩,⟨fun ξ61 ξ61' h => ⟨rfl,rfl,rfl⟩,fun _ => rfl⟩,⟨fun ξ61 ξ61' h => ⟨rfl,rfl,rfl⟩,fun _ => rfl⟩,⟨fun ξ61 ξ61' h => ⟨rfl,rfl,rfl⟩,fun _ => rfl⟩,⟨fun ξ61 ξ61' h => ⟨by simp only [h 7 (.inl rfl)],by simp only [h 7 (.inl rfl)],rfl⟩,fun _ => rfl⟩,⟨fun ξ61 ξ61' h => ⟨rfl,rfl,rfl⟩,fun _ => rfl⟩,⟨fun ξ61 ξ61' h => ⟨rfl,rfl,rfl⟩,fun _ => rfl⟩,⟨fun ξ61 ξ61' h => ⟨rfl,rfl,rfl⟩,fun _ => rfl⟩,⟨fun ξ61 ξ61' h => ⟨rfl,rfl,rfl⟩,fun _ => rfl⟩,⟨fun ξ61 ξ61' h => ⟨rfl,rfl,rfl⟩,fun _ => rfl⟩,⟨fun ξ61 ξ61' h => ⟨by simp only [h 13 (.inl rfl)],by simp only [h 13 (.inl rfl)],rfl⟩,fun _ => rfl⟩,⟨fun ξ61 ξ61' h => ⟨by simp only [h 13 (.inr rfl)],rfl,rfl⟩,fun _ => rfl⟩,⟨fun ξ61 ξ61' h => ⟨by simp only [h 15 (.inl rfl)],rfl,by simp only [h 15 (.inl rfl)]⟩,fun _ => rfl⟩,⟨fun ξ61 ξ61' h => ⟨rfl,by simp only [h 13 (.inr rfl),h 15 (.inr rfl)],rfl⟩,fun _ => rfl⟩,trivial⟩ rfl (fun ξ61 => ?_)
        refine bj rfl (fun L2 => ?_) ?_
        ·dsimp only [ar,lca,lna]
         refine oY rfl (yFA gY rfl) (oN ?_)
         exact ab (fun _ => (none,0,0,[],noR)) rfl (List.append_nil _)
        dsimp only [aV,lsz,lss,lna,lca,List.append_nil]
        refine bj rfl (fun L2 => ?_) ?_
        ·dsimp only [ar,lca,lna]
         refine oY rfl (yL 0 bc rfl rfl rfl) (oN ?_)
         exact ab (fun _ => (none,0,0,[],noR)) rfl (List.append_nil _)
        dsimp only [aV,lsz,lss,lna,lca,List.append_nil]
        refine bj rfl (fun L2 => ?_) ?_
        ·dsimp only [ar,lca,lna]
         refine dh TTrack_cells2 gg je nH rfl (fun b62 => ?_)
         refine oN ?_
         exact ab (fun _ => (none,b62,0,[],noR)) rfl rfl
        dsimp only [aV,lsz,lss,lna,lca,List.append_nil]
        refine bj rfl (fun L2 => ?_) ?_
        ·dsimp only [ar,lca,lna]
         refine oY rfl (yFA bS rfl) (oN ?_)
         exact ab (fun _ => (none,0,0,[],noR)) rfl (List.append_nil _)
        dsimp only [aV,lsz,lss,lna,lca,List.append_nil]
        refine bj rfl (fun L2 => ?_) ?_
        ·dsimp only [ar,lca,lna]
         refine oY rfl (yL 0 fX rfl rfl rfl) (oN ?_)
         exact ab (fun _ => (none,0,0,[],noR)) rfl (List.append_nil _)
        dsimp only [aV,lsz,lss,lna,lca,List.append_nil]
        refine bj rfl (fun L2 => ?_) ?_
        ·dsimp only [ar,lca,lna]
         refine oY rfl (yMI rfl) (oN ?_)
         exact ab (fun _ => (none,0,0,[],noR)) rfl (List.append_nil _)
        dsimp only [aV,lsz,lss,lna,lca,List.append_nil]
        refine bj rfl (fun L2 => ?_) ?_
        ·dsimp only [ar,lca,lna]
         refine oY rfl (pS io hg63.1 hg63.2 (RdL.arg hr0_1) rfl rfl) (oN ?_)
         exact ab (fun _ => (none,0,0,[],noR)) rfl (List.append_nil _)
        dsimp only [aV,lsz,lss,lna,lca,List.append_nil]
        refine bj rfl (fun L2 => ?_) ?_
        ·dsimp only [ar,lca,lna]
         refine bq 11 gg je nH rfl rfl rfl (RdL.cutH aj (RdL.arg hr0_1) hg63.1 hg63.2) (eL aj (NestP.hn (NestP.take _ hN0_1.p) (ke hg63.2 rfl))) (cf cG _) (cv hg66 (by decide)) rfl (fun A64 c65 => ?_)
         refine oN ?_
         first | exact ab (fun _ => (A64,0,c65,[],noR)) rfl rfl | exact ab (fun _ => (A64,0,c65,[],noR)) rfl (List.append_nil _)
        dsimp only [aV,lsz,lss,lna,lca,List.append_nil]
        refine bj rfl (fun L2 => ?_) ?_
        ·dsimp only [ar,lca,lna]
         refine oY rfl (yFA bS rfl) (oN ?_)
         exact ab (fun _ => (none,0,0,[],noR)) rfl (List.append_nil _)
        dsimp only [aV,lsz,lss,lna,lca,List.append_nil]
        refine bj rfl (fun L2 => ?_) ?_
        ·dsimp only [ar,lca,lna]
         refine oY rfl (yL 0 fX rfl rfl rfl) (oN ?_)
         exact ab (fun _ => (none,0,0,[],noR)) rfl (List.append_nil _)
        dsimp only [aV,lsz,lss,lna,lca,List.append_nil]
        refine bj rfl (fun L2 => ?_) ?_
        ·dsimp only [ar,lca,lna]
         refine oY rfl (yMI rfl) (oN ?_)
         exact ab (fun _ => (none,0,0,[],noR)) rfl (List.append_nil _)
        dsimp only [aV,lsz,lss,lna,lca,List.append_nil]
        refine bj rfl (fun L2 => ?_) ?_
        ·dsimp only [ar,lca,lna]
         refine oY rfl (be rfl rfl) (oN ?_)
         exact ab (fun _ => (none,0,0,[],noR)) rfl (List.append_nil _)
        dsimp only [aV,lsz,lss,lna,lca,List.append_nil]
        refine bj rfl (fun L2 => ?_) ?_
        ·dsimp only [ar,lca,lna]
         refine oY rfl (pF io hg67.1 hg67.2 (RdL.arg hr0_1) rfl rfl) (oN ?_)
         exact ab (fun _ => (none,0,0,[],noR)) rfl (List.append_nil _)
        dsimp only [aV,lsz,lss,lna,lca,List.append_nil]
        refine bj rfl (fun L2 => ?_) ?_
        ·dsimp only [ar,lca,lna]
         refine bq 11 gg je nH rfl rfl rfl (RdL.cutL aj (RdL.arg hr0_1) hg67.1 hg67.2 (NestP.hn hN0_1.p rfl)) (eL aj (NestP.hn (NestP.drop _ hN0_1.p) (mA rfl))) (cf cG _) (cv hg70 (by decide)) rfl (fun A68 c69 => ?_)
         refine oN ?_
         first | exact ab (fun _ => (A68,0,c69,[],noR)) rfl rfl | exact ab (fun _ => (A68,0,c69,[],noR)) rfl (List.append_nil _)
        dsimp only [aV,lsz,lss,lna,lca,List.append_nil]
        refine bj rfl (fun L2 => ?_) ?_
        ·dsimp only [ar,lca,lna]
         refine oY rfl (aS [vI p0.fL,.slice (ξ61 13 0).1 ((0 + (Int.toNat (Int.tmod (w64 p5) (p0.fT.length:Int)))) + (p0.fT.length - Int.toNat (w64 ((Int.tmod (w64 p5) (p0.fT.length:Int)) + 1)))) (ξ61 13 0).2.2.1] [(0,1),(1,1)] lw jN (by kernel_rfl)) ?_
         refine oN ?_
         exact ab (fun _ => (none,0,0,[],noR)) rfl (List.append_nil _)
        dsimp only [aV,lsz,lss,lna,lca,List.append_nil]
        refine bj rfl (fun L2 => ?_) ?_
        ·dsimp only [ar,lca,lna]
         refine aB jN rfl (fun b71 => ?_)
         refine oN ?_
         exact ab (fun _ => (none,b71,0,[],noR)) rfl rfl
        dsimp only [aV,lsz,lss,lna,lca,List.append_nil]
        refine pw rfl (fun L2 => ?_) ?_
        ·dsimp only [ar,lca,lna]
         refine ck rfl (yS 12 [vI p0.fL,.slice (ξ61 13 0).1 ((0 + (Int.toNat (Int.tmod (w64 p5) (p0.fT.length:Int)))) + (p0.fT.length - Int.toNat (w64 ((Int.tmod (w64 p5) (p0.fT.length:Int)) + 1)))) (ξ61 13 0).2.2.1] mm rfl (nB rfl) rfl rfl rfl) (oN ?_)
         first | exact bf (fun _ => (none,0,0,[],noR)) rfl | exact bf (fun _ => (none,0,0,[],noR)) (List.append_nil _)
        dsimp only [aV,lsz,lss,lna,lca,List.append_nil]
        refine g9 (eT (cS (cR ?_)))
        try dsimp only [lna,lca,lsz,lss]
        refine oY rfl (yN 12 [vI p0.fL,.slice (ξ61 13 0).1 ((0 + (Int.toNat (Int.tmod (w64 p5) (p0.fT.length:Int)))) + (p0.fT.length - Int.toNat (w64 ((Int.tmod (w64 p5) (p0.fT.length:Int)) + 1)))) (ξ61 13 0).2.2.1] dU rfl rfl rfl) (oY rfl (yMI rfl) (oY rfl (yMI rfl) (oY rfl (yMI rfl) (oY rfl (yMI rfl) ?_))))
        obtain ⟨y72,hy73,h⟩:=bOs h
        refine oC [.agg #[vI p0.fL,.slice (ξ61 13 0).1 ((0 + (Int.toNat (Int.tmod (w64 p5) (p0.fT.length:Int)))) + (p0.fT.length - Int.toNat (w64 ((Int.tmod (w64 p5) (p0.fT.length:Int)) + 1)))) (ξ61 13 0).2.2.1],vI p1,vI p2,vI p3,vI p4] _ _ _ rfl go_7 rfl (fun W2 hW2 => fo (TR.mk p0.fL ((([]:List TT) ++ (p0.fT.take (Int.toNat (Int.tmod (w64 p5) (p0.fT.length:Int))))) ++ (p0.fT.drop (Int.toNat (w64 ((Int.tmod (w64 p5) (p0.fT.length:Int)) + 1)))))) p1 p2 p3 p4 y72 hy73 W2 (ξ61 13 0).1 ((0 + (Int.toNat (Int.tmod (w64 p5) (p0.fT.length:Int)))) + (p0.fT.length - Int.toNat (w64 ((Int.tmod (w64 p5) (p0.fT.length:Int)) + 1)))) (ξ61 13 0).2.2.1 ((([]:List (Hd × TT)) ++ (ys0_1.take (Int.toNat (Int.tmod (w64 p5) (p0.fT.length:Int))))) ++ (ys0_1.drop (Int.toNat (w64 ((Int.tmod (w64 p5) (p0.fT.length:Int)) + 1))))) (fi (fi rfl (ke hg63.2 rfl)) (mA rfl)) ((RdL.row 11 rfl) W2 hW2) (NestL.at (PvL.nestL (NestP.app (NestP.app NestP.nil (NestP.take _ hN0_1.p)) (NestP.drop _ hN0_1.p)) (PvL.app (PvL.app PvL.nil (PvL.sub (PvL.of_nest hN0_1) (fun y hy => List.mem_of_mem_take hy))) (PvL.sub (PvL.of_nest hN0_1) (fun y hy => List.mem_of_mem_drop hy))) (fun W2 hW2 => ⟨hW2.below,trivial⟩)) W2 hW2) W (fun _ => True) (fun W3 hb => ⟨fu hW2.below hb,trivial⟩) ) ?_
        rintro ⟨⟨A76,n78,c77⟩,F80⟩ ⟨hn79,hV81⟩
        replace hn79 : n78 = y72.1.fLegs.length:=hn79; subst hn79
        try dsimp only [lna,lca,lsz,lss]
        refine oY rfl (aI rfl) (oY rfl (yE rfl rfl) (oY rfl (yE rfl rfl) ?_))
        refine aB iX rfl (fun b82 => ?_)
        try dsimp only [lna,lca,lsz,lss]
        refine ck rfl (yS 14 [.slice A76 y72.1.fLegs.length c77,vI y72.1.fA,vI y72.1.fToll] jB rfl (nB rfl) rfl rfl rfl) (oY rfl (yAI rfl) (oN (eT (cS (cR (oY rfl (yMI rfl) (oY rfl (cJ rfl rfl) (oY rfl (yMB rfl) ?_))))))))
        refine oJ 6 (fun tm0 => (upd (upd (upd (upd (upd (upd (upd (upd (upd tm0 7 (.pointer (some ⟨b1,0,none⟩))) 14 (.bool false)) 15 (.pointer (some ⟨b19,0,none⟩))) 17 (vI (Int.tmod (w64 p5) (p0.fT.length:Int)))) 22 (.slice A57 y55.1.length c58)) 23 (vI y55.2)) 25 (.pointer (some ⟨b82,0,none⟩))) 26 (vI y72.2)) 137 (.bool ((y72.2 == 0) && (y72.1.fA == y9.1.fA))))) (fun tm0 => ?_) (fun key => ?_)
        ·refine oY rfl (yAB rfl) (oN (eT (cS (cR ?_))))
         obtain ⟨y84,hy85,h⟩:=bOs h
         refine oY rfl (yC [] go_6 rfl (fun W2 hW2 => dK  y84 hy85 W2 ) rfl) (oY rfl (yMB rfl) ?_)
         refine oJ 3 (fun tm0 => (upd (upd (upd (upd (upd (upd (upd (upd (upd tm0 7 (.pointer (some ⟨b1,0,none⟩))) 14 (.bool false)) 15 (.pointer (some ⟨b19,0,none⟩))) 17 (vI (Int.tmod (w64 p5) (p0.fT.length:Int)))) 22 (.slice A57 y55.1.length c58)) 25 (.pointer (some ⟨b82,0,none⟩))) 26 (vI y72.2)) 27 (.bool ((y72.2 == 0) && (y72.1.fA == y9.1.fA)))) 142 (.bool (y84 && (y55.2 == 0))))) (fun tm0 => ?_) (fun key => ?_)
         ·refine oY rfl (yMB rfl) ?_
          obtain ⟨b88,hb89,h⟩:=bOs h
          refine oJ 11 (fun tm0 => (upd (upd (upd (upd (upd tm0 14 (.bool false)) 15 (.pointer (some ⟨b19,0,none⟩))) 25 (.pointer (some ⟨b82,0,none⟩))) 26 (vI y72.2)) 154 (.bool b88))) (fun tm0 => ?_) (fun key => ?_)
          ·refine oY rfl (yMB rfl) ?_
           refine oJ 14 (fun tm0 => (upd (upd tm0 14 (.bool false)) 169 (.bool (b88 && ((y72.2 == 5) || ((y72.2 == 0) && (decide (y9.1.fA ≤ y72.1.fA)))))))) (fun tm0 => ?_) (fun key => ?_)
           ·refine oY rfl (yAB rfl) (oN (eT (am ?_)))
            obtain rfl:=sI h
            exact ao (.inl rfl) rfl (rVt (v:=.bool (b88 && ((y72.2 == 5) || ((y72.2 == 0) && (decide (y9.1.fA ≤ y72.1.fA)))))) rfl) (fun W2 hW2 => ⟨rfl,hW2.none⟩)
           ·rcases aq b88 with hp90 | hp90
            ·refine oY (sT rfl rfl rfl rfl hp90) (yMI rfl) (oY (sT rfl rfl rfl rfl hp90) (cJ rfl rfl) (oY (sT rfl rfl rfl rfl hp90) (yMB rfl) ?_))
             refine oJ 10 (fun tm0 => (upd (upd (upd tm0 14 (.bool false)) 155 (.bool b88)) 168 (.bool ((y72.2 == 5) || ((y72.2 == 0) && (decide (y9.1.fA ≤ y72.1.fA))))))) (fun tm0 => ?_) (fun key => ?_)
             ·refine oY rfl (ad (vB hp90) rfl) ?_
              exact key _ _ (keep (keep rfl rfl) (vB (ge hp90)))
             ·rcases aq (y72.2 == 5) with hp91 | hp91
              ·refine oSk (sF rfl rfl rfl rfl hp91) (oSk (sF rfl rfl rfl rfl hp91) (oSk (sF rfl rfl rfl rfl hp91) (oSk rfl (oSk rfl (oSk rfl (oSk rfl (oSk rfl (oSk (sF rfl rfl rfl rfl hp91) (oY (sT rfl rfl rfl rfl hp90) (ad (vB hp91) rfl) ?_)))))))))
               exact key _ _ (keep (keep (keep rfl rfl) rfl) (vB (kg hp91)))
              ·refine oY (sT rfl rfl rfl rfl hp91) (yMI rfl) (oY (sT rfl rfl rfl rfl hp91) (cJ rfl rfl) (oY (sT rfl rfl rfl rfl hp91) (yMB rfl) ?_))
               refine oJ 6 (fun tm0 => (upd (upd (upd (upd tm0 14 (.bool false)) 155 (.bool b88)) 158 (.bool (y72.2 == 5))) 167 (.bool ((y72.2 == 0) && (decide (y9.1.fA ≤ y72.1.fA)))))) (fun tm0 => ?_) (fun key => ?_)
               ·refine oY (sT rfl rfl rfl rfl hp90) (ae (vB hp91) rfl) ?_
                exact key _ _ (keep (keep (keep rfl rfl) rfl) (vB (j9 hp91)))
               ·rcases aq (y72.2 == 0) with hp92 | hp92
                ·refine oY (sT rfl rfl rfl rfl hp92) (yFA fa rfl) (oY (sT rfl rfl rfl rfl hp92) (yL 14 bc rfl rfl rfl) (oY (sT rfl rfl rfl rfl hp92) (yFA fa rfl) (oY (sT rfl rfl rfl rfl hp92) (yL 3 bc rfl rfl rfl) (oY (sT rfl rfl rfl rfl hp92) (pg rfl rfl) (oY (sT rfl rfl rfl rfl hp91) (ad (vB hp92) rfl) ?_)))))
                 exact key _ _ (keep (keep (keep (keep rfl rfl) rfl) rfl) (vB (ge hp92)))
                ·refine oSk (sF rfl rfl rfl rfl hp92) (oSk (sF rfl rfl rfl rfl hp92) (oSk (sF rfl rfl rfl rfl hp92) (oSk (sF rfl rfl rfl rfl hp92) (oSk (sF rfl rfl rfl rfl hp92) (oY (sT rfl rfl rfl rfl hp91) (ae (vB hp92) rfl) ?_)))))
                 exact key _ _ (keep (keep (keep (keep rfl rfl) rfl) rfl) (vB (gc hp92)))
            ·refine oSk (sF rfl rfl rfl rfl hp90) (oSk (sF rfl rfl rfl rfl hp90) (oSk (sF rfl rfl rfl rfl hp90) (oSk rfl (oSk rfl (oSk rfl (oSk rfl (oSk rfl (oSk rfl (oSk rfl (oSk rfl (oSk rfl (oSk (sF rfl rfl rfl rfl hp90) (oY rfl (ae (vB hp90) rfl) ?_)))))))))))))
             exact key _ _ (keep (keep rfl rfl) (vB (gc hp90)))
          ·clear h; rcases iOs hb89 with ⟨hp87,h⟩ | ⟨hp87,h⟩
           ·refine oY (sT rfl rfl rfl rfl hp87) (yMB rfl) (oY (sT rfl rfl rfl rfl hp87) (yMS rfl) (oY (sT rfl rfl rfl rfl hp87) (yFA bS rfl) (oY (sT rfl rfl rfl rfl hp87) (yL 0 fX rfl rfl rfl) (oY (sT rfl rfl rfl rfl hp87) (yMI rfl) ?_))))
            obtain ⟨hg93,h⟩:=gOs h
            refine oY (sT rfl rfl rfl rfl hp87) (yI io (by decide) hg93.1 hg93.2 (RdL.arg hr0_1) (eL aj (NestP.hn hN0_1.p rfl)) rfl rfl) ?_
            refine oY (sT rfl rfl rfl rfl hp87) (yFR (A:=Ab) (j:=(Int.toNat (Int.tmod (w64 p5) (p0.fT.length:Int)) * 6)) jy rfl) (oY (sT rfl rfl rfl rfl hp87) (yR (A:=Ab) (j:=((Int.toNat (Int.tmod (w64 p5) (p0.fT.length:Int)) * 6) + 0)) (v:=vI ((rdL p0.fT (Int.tmod (w64 p5) (p0.fT.length:Int))).fID)) bc (RdL.arg hr0_1) rfl (eG aj hg93.1 (av hg93.2 (NestP.hn hN0_1.p rfl)) (congrArg (fun z : TT => some (Value.int .i64 z.fID)) (NestP.snd hN0_1.p (Int.tmod (w64 p5) (p0.fT.length:Int)))))) ?_)
            obtain ⟨y94,hy95,h⟩:=bOs h
            refine oY (sT rfl rfl rfl rfl hp87) (yC [.slice A57 y55.1.length c58,vI ((rdL p0.fT (Int.tmod (w64 p5) (p0.fT.length:Int))).fID)] go_10 rfl (fun W2 hW2 => jk y55.1 ((rdL p0.fT (Int.tmod (w64 p5) (p0.fT.length:Int))).fID) y94 hy95 W2 A57 y55.1.length c58 rfl ((RdL.row 10 rfl) W2 hW2)) rfl) (oY (sT rfl rfl rfl rfl hp87) (y_neqb ub_4 rfl rfl) (oY rfl (ad (vB hp87) rfl) ?_))
            obtain rfl:=sI h
            exact key _ _ (kp4 (kp rfl))
           ·refine oSk (sF rfl rfl rfl rfl hp87) (oSk (sF rfl rfl rfl rfl hp87) (oSk (sF rfl rfl rfl rfl hp87) (oSk (sF rfl rfl rfl rfl hp87) (oSk (sF rfl rfl rfl rfl hp87) (oSk (sF rfl rfl rfl rfl hp87) (oSk (sF rfl rfl rfl rfl hp87) (oSk (sF rfl rfl rfl rfl hp87) (oSk (sF rfl rfl rfl rfl hp87) (oSk (sF rfl rfl rfl rfl hp87) (oY rfl (ae (vB hp87) rfl) ?_))))))))))
            obtain rfl:=sI h
            exact key _ _ (kp4 (kp rfl))
         ·rcases aq y84 with hp86 | hp86
          ·refine oY (sT rfl rfl rfl rfl hp86) (yMI rfl) (oY (sT rfl rfl rfl rfl hp86) (cJ rfl rfl) (oY rfl (ad (vB hp86) rfl) ?_))
           exact key _ _ (keep (keep (keep (keep (keep (keep (keep (keep (keep rfl rfl) rfl) rfl) rfl) rfl) rfl) rfl) rfl) (vB (ge hp86)))
          ·refine oSk (sF rfl rfl rfl rfl hp86) (oSk (sF rfl rfl rfl rfl hp86) (oY rfl (ae (vB hp86) rfl) ?_))
           exact key _ _ (keep (keep (keep (keep (keep (keep (keep (keep (keep rfl rfl) rfl) rfl) rfl) rfl) rfl) rfl) rfl) (vB (gc hp86)))
        ·rcases aq (y72.2 == 0) with hp83 | hp83
         ·refine oY (sT rfl rfl rfl rfl hp83) (yFA fa rfl) (oY (sT rfl rfl rfl rfl hp83) (yL 14 bc rfl rfl rfl) (oY (sT rfl rfl rfl rfl hp83) (yFA fa rfl) (oY (sT rfl rfl rfl rfl hp83) (yL 3 bc rfl rfl rfl) (oY (sT rfl rfl rfl rfl hp83) (cJ rfl rfl) (oY rfl (ad (vB hp83) rfl) ?_)))))
          exact key _ _ (keep (keep (keep (keep (keep (keep (keep (keep (keep rfl rfl) rfl) rfl) rfl) rfl) rfl) rfl) rfl) (vB (ge hp83)))
         ·refine oSk (sF rfl rfl rfl rfl hp83) (oSk (sF rfl rfl rfl rfl hp83) (oSk (sF rfl rfl rfl rfl hp83) (oSk (sF rfl rfl rfl rfl hp83) (oSk (sF rfl rfl rfl rfl hp83) (oY rfl (ae (vB hp83) rfl) ?_)))))
          exact key _ _ (keep (keep (keep (keep (keep (keep (keep (keep (keep rfl rfl) rfl) rfl) rfl) rfl) rfl) rfl) rfl) (vB (gc hp83)))
      ·rcases aq ((y41.2 != 0) && (y41.2 != 5)) with hp53 | hp53
       ·refine oSk (sF rfl rfl rfl rfl hp53) (oSk (sF rfl rfl rfl rfl hp53) (oSk (sF rfl rfl rfl rfl hp53) (oSk rfl (oSk rfl (oSk rfl (oSk rfl (oSk rfl (oSk (sF rfl rfl rfl rfl hp53) (oY rfl (ad (vB hp53) rfl) ?_)))))))))
        exact key _ _ (keep (keep (keep (keep (keep (keep (keep (keep (keep rfl rfl) rfl) rfl) rfl) rfl) rfl) rfl) rfl) (vB (kg hp53)))
       ·refine oY (sT rfl rfl rfl rfl hp53) (yMI rfl) (oY (sT rfl rfl rfl rfl hp53) (cJ rfl rfl) (oY (sT rfl rfl rfl rfl hp53) (yMB rfl) ?_))
        refine oJ 6 (fun tm0 => (upd (upd (upd (upd (upd (upd (upd (upd (upd (upd tm0 1 (vI p1)) 2 (vI p2)) 3 (vI p3)) 4 (vI p4)) 7 (.pointer (some ⟨b1,0,none⟩))) 14 (.bool false)) 15 (.pointer (some ⟨b19,0,none⟩))) 17 (vI (Int.tmod (w64 p5) (p0.fT.length:Int)))) 85 (.bool ((y41.2 != 0) && (y41.2 != 5)))) 94 (.bool ((y41.2 == 0) && (decide (y41.1.fA < y9.1.fA)))))) (fun tm0 => ?_) (fun key => ?_)
        ·refine oY rfl (ae (vB hp53) rfl) ?_
         exact key _ _ (keep (keep (keep (keep (keep (keep (keep (keep (keep rfl rfl) rfl) rfl) rfl) rfl) rfl) rfl) rfl) (vB (j9 hp53)))
        ·rcases aq (y41.2 == 0) with hp96 | hp96
         ·refine oY (sT rfl rfl rfl rfl hp96) (yFA fa rfl) (oY (sT rfl rfl rfl rfl hp96) (yL 9 bc rfl rfl rfl) (oY (sT rfl rfl rfl rfl hp96) (yFA fa rfl) (oY (sT rfl rfl rfl rfl hp96) (yL 3 bc rfl rfl rfl) (oY (sT rfl rfl rfl rfl hp96) (bB rfl rfl) (oY (sT rfl rfl rfl rfl hp53) (ad (vB hp96) rfl) ?_)))))
          exact key _ _ (keep (keep (keep (keep (keep (keep (keep (keep (keep (keep rfl rfl) rfl) rfl) rfl) rfl) rfl) rfl) rfl) rfl) (vB (ge hp96)))
         ·refine oSk (sF rfl rfl rfl rfl hp96) (oSk (sF rfl rfl rfl rfl hp96) (oSk (sF rfl rfl rfl rfl hp96) (oSk (sF rfl rfl rfl rfl hp96) (oSk (sF rfl rfl rfl rfl hp96) (oY (sT rfl rfl rfl rfl hp53) (ae (vB hp96) rfl) ?_)))))
          exact key _ _ (keep (keep (keep (keep (keep (keep (keep (keep (keep (keep rfl rfl) rfl) rfl) rfl) rfl) rfl) rfl) rfl) rfl) (vB (gc hp96)))
     ·rcases aq (y41.2 != 0) with hp52 | hp52
      ·refine oY (sT rfl rfl rfl rfl hp52) (yMI rfl) (oY (sT rfl rfl rfl rfl hp52) (eo rfl rfl) (oY rfl (ad (vB hp52) rfl) ?_))
       exact key _ _ (keep (keep (keep (keep (keep (keep (keep (keep (keep (keep (keep rfl rfl) rfl) rfl) rfl) rfl) rfl) rfl) rfl) rfl) rfl) (vB (ge hp52)))
      ·refine oSk (sF rfl rfl rfl rfl hp52) (oSk (sF rfl rfl rfl rfl hp52) (oY rfl (ae (vB hp52) rfl) ?_))
       exact key _ _ (keep (keep (keep (keep (keep (keep (keep (keep (keep (keep (keep rfl rfl) rfl) rfl) rfl) rfl) rfl) rfl) rfl) rfl) rfl) (vB (gc hp52)))
    ·refine cF (vB hp40) (cK (eT (cS (cR (oY rfl (yN 0 [vI p0.fL,.slice Ab p0.fT.length cb] dU rfl rfl rfl) (oY rfl (yMI rfl) (oY rfl (yMI rfl) (oY rfl (yMI rfl) (oY rfl (yMI rfl) ?_)))))))))
     obtain ⟨y97,hy98,h⟩:=bOs h
     refine oC [.agg #[vI p0.fL,.slice Ab p0.fT.length cb],vI p1,vI p2,vI p3,vI p4] _ _ _ rfl go_9 rfl (fun W2 hW2 => gk p0 p1 p2 p3 p4 y97 hy98 W2 Ab p0.fT.length cb ys0_1 rfl ((RdL.arg hr0_1) W2 hW2) (NestL.at (NestL.arg hN0_1) W2 hW2)) ?_
     rintro ⟨A99,n101,c100⟩ hn102
     replace hn102 : n101 = y97.1.length:=hn102; subst hn102
     try dsimp only [lna,lca,lsz,lss]
     refine oY rfl (aI rfl) (oY rfl (yE rfl rfl) (oY rfl (yE rfl rfl) (oY rfl (yAS rfl) (oY rfl (yAI rfl) (oN (eT (cS ?_)))))))
     obtain ⟨hg105,h⟩:=gOs h
     obtain ⟨hg108,h⟩:=gOs h
     obtain ⟨hg109,h⟩:=gOs h
     obtain ⟨hg112,h⟩:=gOs h
     refine cO [[],[0],[],[],[3],[],[3,4,5],[2,3,4,5,6],[],[8],[],[10],[8,9,10,11],[2,3,4,5,6,7,8,9,10,11,12],[0,1,2,3,4,5,6,7,8,9,10,11,12,13],[],[0,1,2,3,4,5,6,7,8,9,10,11,12,13,14,15]] [(none,0,[true,true,true,true,true,true,true,true,true]),(none,0,[true,true,true,true,true,true,true,true,true]),(none,1,[true,true,true,true,true,true,true,true,true]),(none,0,[true,true,true,true,true,true,true,true,true,false]),(none,0,[true,true,true,true,true,true,true,true,true,false]),(none,0,[true,true,true,true,true,true,true,true,true,false]),(none,0,[true,true,true,true,true,true,true,true,true,false]),(some 9,0,[true,true,true,true,true,true,true,true,true,true]),(none,0,[true,true,true,true,true,true,true,true,true,false]),(none,0,[true,true,true,true,true,true,true,true,true,false]),(none,0,[true,true,true,true,true,true,true,true,true,false]),(none,0,[true,true,true,true,true,true,true,true,true,false]),(none,0,[true,true,true,true,true,true,true,true,true,false]),(some 9,0,[true,true,true,true,true,true,true,true,true,true]),(none,0,[true,true,true,true,true,true,true,true,true,true]),(none,1,[true,true,true,true,true,true,true,true,true,false]),(some 10,0,[true,true,true,true,true,true,true,true,true,true,true])] [⟨fun _ => .pointer (some ⟨b1,0 + 0,none⟩),fun _ => noR,fun _ => []⟩,⟨fun _ => vI p0.fL,fun _ => noR,fun _ => []⟩,⟨fun ξ103 => .slice (some ⟨(ξ103 2 0).2.1,0,none⟩) 0 0,fun _ => noR,fun ξ103 => [aJ (some ⟨(ξ103 2 0).2.1,0,none⟩) 0 39 6 0 (encL TTrack_cells2 ([]:List (Hd × TT)))]⟩,⟨fun _ => .pointer (some ⟨b1,0 + 1,none⟩),fun _ => noR,fun _ => []⟩,⟨fun _ => .slice Ab p0.fT.length cb,fun _ => noR,fun _ => []⟩,⟨fun _ => vI (Int.tmod (w64 p5) (p0.fT.length:Int)),fun _ => noR,fun _ => []⟩,⟨fun _ => .slice Ab (Int.toNat (Int.tmod (w64 p5) (p0.fT.length:Int))) cb,fun _ => noR,fun _ => []⟩,⟨fun ξ103 => .slice (ξ103 7 0).1 (0 + (Int.toNat (Int.tmod (w64 p5) (p0.fT.length:Int)))) (ξ103 7 0).2.2.1,fun ξ103 => aJ (ξ103 7 0).1 (ξ103 7 0).2.2.1 39 6 (0 + (Int.toNat (Int.tmod (w64 p5) (p0.fT.length:Int)))) (encL TTrack_cells2 (([]:List (Hd × TT)) ++ (ys0_1.take (Int.toNat (Int.tmod (w64 p5) (p0.fT.length:Int)))))),fun _ => []⟩,⟨fun _ => .pointer (some ⟨b1,0 + 1,none⟩),fun _ => noR,fun _ => []⟩,⟨fun _ => .slice Ab p0.fT.length cb,fun _ => noR,fun _ => []⟩,⟨fun _ => vI (Int.tmod (w64 p5) (p0.fT.length:Int)),fun _ => noR,fun _ => []⟩,⟨fun _ => vI (w64 ((Int.tmod (w64 p5) (p0.fT.length:Int)) + 1)),fun _ => noR,fun _ => []⟩,⟨fun _ => .slice (if cb = Int.toNat (w64 ((Int.tmod (w64 p5) (p0.fT.length:Int)) + 1)) then Ab else Option.map (fun x => x.add (Int.toNat (w64 ((Int.tmod (w64 p5) (p0.fT.length:Int)) + 1)) * 6)) Ab) (p0.fT.length - Int.toNat (w64 ((Int.tmod (w64 p5) (p0.fT.length:Int)) + 1))) (cb - Int.toNat (w64 ((Int.tmod (w64 p5) (p0.fT.length:Int)) + 1))),fun _ => noR,fun _ => []⟩,⟨fun ξ103 => .slice (ξ103 13 0).1 ((0 + (Int.toNat (Int.tmod (w64 p5) (p0.fT.length:Int)))) + (p0.fT.length - Int.toNat (w64 ((Int.tmod (w64 p5) (p0.fT.length:Int)) + 1)))) (ξ103 13 0).2.2.1,fun ξ103 => aJ (ξ103 13 0).1 (ξ103 13 0).2.2.1 39 6 ((0 + (Int.toNat (Int.tmod (w64 p5) (p0.fT.length:Int)))) + (p0.fT.length - Int.toNat (w64 ((Int.tmod (w64 p5) (p0.fT.length:Int)) + 1)))) (encL TTrack_cells2 ((([]:List (Hd × TT)) ++ (ys0_1.take (Int.toNat (Int.tmod (w64 p5) (p0.fT.length:Int))))) ++ (ys0_1.drop (Int.toNat (w64 ((Int.tmod (w64 p5) (p0.fT.length:Int)) + 1)))))),fun _ => []⟩,⟨fun ξ103 => .agg #[vI p0.fL,.slice (ξ103 13 0).1 ((0 + (Int.toNat (Int.tmod (w64 p5) (p0.fT.length:Int)))) + (p0.fT.length - Int.toNat (w64 ((Int.tmod (w64 p5) (p0.fT.length:Int)) + 1)))) (ξ103 13 0).2.2.1],fun _ => noR,fun _ => []⟩,⟨fun ξ103 => .pointer (some ⟨(ξ103 15 0).2.1,0,none⟩),fun _ => noR,fun ξ103 => [ah (ξ103 15 0).2.1 24 [vI 0,.slice none 0 0]]⟩,⟨fun _ => undef,fun ξ103 => ah (ξ103 15 0).2.1 24 [vI p0.fL,.slice (ξ103 13 0).1 ((0 + (Int.toNat (Int.tmod (w64 p5) (p0.fT.length:Int)))) + (p0.fT.length - Int.toNat (w64 ((Int.tmod (w64 p5) (p0.fT.length:Int)) + 1)))) (ξ103 13 0).2.2.1],fun _ => []⟩] 9 cQ (by kernel_rfl) (by kernel_rfl) ⟨⟨fun ξ103 ξ103' h => ⟨rfl,rfl,rfl⟩,fun _ => rfl⟩,⟨fun ξ103 ξ103' h => ⟨rfl,rfl,rfl⟩,fun _ => rfl⟩,⟨fun ξ103 ξ103' h => ⟨by simp only [h 2 (.inl rfl)],rfl,by simp only [h 2 (.inl rfl)]⟩,fun _ => rfl⟩,⟨fun ξ103 ξ103' h => ⟨rfl,rfl,rfl⟩,fun _ => rfl⟩,⟨fun ξ103 ξ103' h => ⟨rfl,rfl,rfl⟩,fun _ => rfl⟩,⟨fun ξ103 ξ103' h => ⟨rfl,rfl,rfl⟩,fun _ => rfl⟩,⟨fun ξ103 ξ103' h => ⟨rfl,rfl,rfl⟩,fun _ => rfl⟩,⟨fun ξ103 ξ103' h => ⟨by simp only [h 7 (.inl rfl)],by simp only [h 7 (.inl rfl)],rfl⟩,fun _ => rfl⟩,⟨fun ξ103 ξ103' h => ⟨rfl,rfl,rfl⟩,fun _ => rfl⟩,⟨fun ξ103 ξ103' h => ⟨rfl,rfl,rfl⟩,fun _ => rfl⟩,⟨fun ξ103 ξ103' h => ⟨rfl,rfl,rfl⟩,fun _ => rfl⟩,⟨fun ξ103 ξ103' h => ⟨rfl,rfl,rfl⟩,fun _ => rfl⟩,⟨fun ξ103 ξ103' h => ⟨rfl,rfl,rfl⟩,fun _ => rfl⟩,⟨fun ξ103 ξ103' h => ⟨by simp only [h 13 (.inl rfl)],by simp only [h 13 (.inl rfl)],rfl⟩,fun _ => rfl⟩,⟨fun ξ103 ξ103' h => ⟨by simp only [h 13 (.inr rfl)],rfl,rfl⟩,fun _ => rfl⟩,⟨fun ξ103 ξ103' h => ⟨by simp only [h 15 (.inl rfl)],rfl,by simp only [h 15 (.inl rfl)]⟩,fun _ => rfl⟩,⟨fun ξ103 ξ103' h => ⟨rfl,by simp only [h 13 (.inr rfl),h 15 (.inr rfl)],rfl⟩,fun _ => rfl⟩,trivial⟩ rfl (fun ξ103 => ?_)
     refine bj rfl (fun L2 => ?_) ?_
     ·dsimp only [ar,lca,lna]
      refine oY rfl (yFA gY rfl) (oN ?_)
      exact ab (fun _ => (none,0,0,[],noR)) rfl (List.append_nil _)
     dsimp only [aV,lsz,lss,lna,lca,List.append_nil]
     refine bj rfl (fun L2 => ?_) ?_
     ·dsimp only [ar,lca,lna]
      refine oY rfl (yL 0 bc rfl rfl rfl) (oN ?_)
      exact ab (fun _ => (none,0,0,[],noR)) rfl (List.append_nil _)
     dsimp only [aV,lsz,lss,lna,lca,List.append_nil]
     refine bj rfl (fun L2 => ?_) ?_
     ·dsimp only [ar,lca,lna]
      refine dh TTrack_cells2 gg je nH rfl (fun b104 => ?_)
      refine oN ?_
      exact ab (fun _ => (none,b104,0,[],noR)) rfl rfl
     dsimp only [aV,lsz,lss,lna,lca,List.append_nil]
     refine bj rfl (fun L2 => ?_) ?_
     ·dsimp only [ar,lca,lna]
      refine oY rfl (yFA bS rfl) (oN ?_)
      exact ab (fun _ => (none,0,0,[],noR)) rfl (List.append_nil _)
     dsimp only [aV,lsz,lss,lna,lca,List.append_nil]
     refine bj rfl (fun L2 => ?_) ?_
     ·dsimp only [ar,lca,lna]
      refine oY rfl (yL 0 fX rfl rfl rfl) (oN ?_)
      exact ab (fun _ => (none,0,0,[],noR)) rfl (List.append_nil _)
     dsimp only [aV,lsz,lss,lna,lca,List.append_nil]
     refine bj rfl (fun L2 => ?_) ?_
     ·dsimp only [ar,lca,lna]
      refine oY rfl (yMI rfl) (oN ?_)
      exact ab (fun _ => (none,0,0,[],noR)) rfl (List.append_nil _)
     dsimp only [aV,lsz,lss,lna,lca,List.append_nil]
     refine bj rfl (fun L2 => ?_) ?_
     ·dsimp only [ar,lca,lna]
      refine oY rfl (pS io hg105.1 hg105.2 (RdL.arg hr0_1) rfl rfl) (oN ?_)
      exact ab (fun _ => (none,0,0,[],noR)) rfl (List.append_nil _)
     dsimp only [aV,lsz,lss,lna,lca,List.append_nil]
     refine bj rfl (fun L2 => ?_) ?_
     ·dsimp only [ar,lca,lna]
      refine bq 9 gg je nH rfl rfl rfl (RdL.cutH aj (RdL.arg hr0_1) hg105.1 hg105.2) (eL aj (NestP.hn (NestP.take _ hN0_1.p) (ke hg105.2 rfl))) (cf cG _) (cv hg108 (by decide)) rfl (fun A106 c107 => ?_)
      refine oN ?_
      first | exact ab (fun _ => (A106,0,c107,[],noR)) rfl rfl | exact ab (fun _ => (A106,0,c107,[],noR)) rfl (List.append_nil _)
     dsimp only [aV,lsz,lss,lna,lca,List.append_nil]
     refine bj rfl (fun L2 => ?_) ?_
     ·dsimp only [ar,lca,lna]
      refine oY rfl (yFA bS rfl) (oN ?_)
      exact ab (fun _ => (none,0,0,[],noR)) rfl (List.append_nil _)
     dsimp only [aV,lsz,lss,lna,lca,List.append_nil]
     refine bj rfl (fun L2 => ?_) ?_
     ·dsimp only [ar,lca,lna]
      refine oY rfl (yL 0 fX rfl rfl rfl) (oN ?_)
      exact ab (fun _ => (none,0,0,[],noR)) rfl (List.append_nil _)
     dsimp only [aV,lsz,lss,lna,lca,List.append_nil]
     refine bj rfl (fun L2 => ?_) ?_
     ·dsimp only [ar,lca,lna]
      refine oY rfl (yMI rfl) (oN ?_)
      exact ab (fun _ => (none,0,0,[],noR)) rfl (List.append_nil _)
     dsimp only [aV,lsz,lss,lna,lca,List.append_nil]
     refine bj rfl (fun L2 => ?_) ?_
     ·dsimp only [ar,lca,lna]
      refine oY rfl (be rfl rfl) (oN ?_)
      exact ab (fun _ => (none,0,0,[],noR)) rfl (List.append_nil _)
     dsimp only [aV,lsz,lss,lna,lca,List.append_nil]
     refine bj rfl (fun L2 => ?_) ?_
     ·dsimp only [ar,lca,lna]
      refine oY rfl (pF io hg109.1 hg109.2 (RdL.arg hr0_1) rfl rfl) (oN ?_)
      exact ab (fun _ => (none,0,0,[],noR)) rfl (List.append_nil _)
     dsimp only [aV,lsz,lss,lna,lca,List.append_nil]
     refine bj rfl (fun L2 => ?_) ?_
     ·dsimp only [ar,lca,lna]
      refine bq 9 gg je nH rfl rfl rfl (RdL.cutL aj (RdL.arg hr0_1) hg109.1 hg109.2 (NestP.hn hN0_1.p rfl)) (eL aj (NestP.hn (NestP.drop _ hN0_1.p) (mA rfl))) (cf cG _) (cv hg112 (by decide)) rfl (fun A110 c111 => ?_)
      refine oN ?_
      first | exact ab (fun _ => (A110,0,c111,[],noR)) rfl rfl | exact ab (fun _ => (A110,0,c111,[],noR)) rfl (List.append_nil _)
     dsimp only [aV,lsz,lss,lna,lca,List.append_nil]
     refine bj rfl (fun L2 => ?_) ?_
     ·dsimp only [ar,lca,lna]
      refine oY rfl (aS [vI p0.fL,.slice (ξ103 13 0).1 ((0 + (Int.toNat (Int.tmod (w64 p5) (p0.fT.length:Int)))) + (p0.fT.length - Int.toNat (w64 ((Int.tmod (w64 p5) (p0.fT.length:Int)) + 1)))) (ξ103 13 0).2.2.1] [(0,1),(1,1)] lw jN (by kernel_rfl)) ?_
      refine oN ?_
      exact ab (fun _ => (none,0,0,[],noR)) rfl (List.append_nil _)
     dsimp only [aV,lsz,lss,lna,lca,List.append_nil]
     refine bj rfl (fun L2 => ?_) ?_
     ·dsimp only [ar,lca,lna]
      refine aB jN rfl (fun b113 => ?_)
      refine oN ?_
      exact ab (fun _ => (none,b113,0,[],noR)) rfl rfl
     dsimp only [aV,lsz,lss,lna,lca,List.append_nil]
     refine pw rfl (fun L2 => ?_) ?_
     ·dsimp only [ar,lca,lna]
      refine ck rfl (yS 10 [vI p0.fL,.slice (ξ103 13 0).1 ((0 + (Int.toNat (Int.tmod (w64 p5) (p0.fT.length:Int)))) + (p0.fT.length - Int.toNat (w64 ((Int.tmod (w64 p5) (p0.fT.length:Int)) + 1)))) (ξ103 13 0).2.2.1] mm rfl (nB rfl) rfl rfl rfl) (oN ?_)
      first | exact bf (fun _ => (none,0,0,[],noR)) rfl | exact bf (fun _ => (none,0,0,[],noR)) (List.append_nil _)
     dsimp only [aV,lsz,lss,lna,lca,List.append_nil]
     refine g9 (eT (cS (cR ?_)))
     try dsimp only [lna,lca,lsz,lss]
     refine oY rfl (yN 10 [vI p0.fL,.slice (ξ103 13 0).1 ((0 + (Int.toNat (Int.tmod (w64 p5) (p0.fT.length:Int)))) + (p0.fT.length - Int.toNat (w64 ((Int.tmod (w64 p5) (p0.fT.length:Int)) + 1)))) (ξ103 13 0).2.2.1] dU rfl rfl rfl) (oY rfl (yMI rfl) (oY rfl (yMI rfl) (oY rfl (yMI rfl) (oY rfl (yMI rfl) ?_))))
     obtain ⟨y114,hy115,h⟩:=bOs h
     refine oC [.agg #[vI p0.fL,.slice (ξ103 13 0).1 ((0 + (Int.toNat (Int.tmod (w64 p5) (p0.fT.length:Int)))) + (p0.fT.length - Int.toNat (w64 ((Int.tmod (w64 p5) (p0.fT.length:Int)) + 1)))) (ξ103 13 0).2.2.1],vI p1,vI p2,vI p3,vI p4] _ _ _ rfl go_7 rfl (fun W2 hW2 => fo (TR.mk p0.fL ((([]:List TT) ++ (p0.fT.take (Int.toNat (Int.tmod (w64 p5) (p0.fT.length:Int))))) ++ (p0.fT.drop (Int.toNat (w64 ((Int.tmod (w64 p5) (p0.fT.length:Int)) + 1)))))) p1 p2 p3 p4 y114 hy115 W2 (ξ103 13 0).1 ((0 + (Int.toNat (Int.tmod (w64 p5) (p0.fT.length:Int)))) + (p0.fT.length - Int.toNat (w64 ((Int.tmod (w64 p5) (p0.fT.length:Int)) + 1)))) (ξ103 13 0).2.2.1 ((([]:List (Hd × TT)) ++ (ys0_1.take (Int.toNat (Int.tmod (w64 p5) (p0.fT.length:Int))))) ++ (ys0_1.drop (Int.toNat (w64 ((Int.tmod (w64 p5) (p0.fT.length:Int)) + 1))))) (fi (fi rfl (ke hg105.2 rfl)) (mA rfl)) ((RdL.row 9 rfl) W2 hW2) (NestL.at (PvL.nestL (NestP.app (NestP.app NestP.nil (NestP.take _ hN0_1.p)) (NestP.drop _ hN0_1.p)) (PvL.app (PvL.app PvL.nil (PvL.sub (PvL.of_nest hN0_1) (fun y hy => List.mem_of_mem_take hy))) (PvL.sub (PvL.of_nest hN0_1) (fun y hy => List.mem_of_mem_drop hy))) (fun W2 hW2 => ⟨hW2.below,trivial⟩)) W2 hW2) W (fun _ => True) (fun W3 hb => ⟨fu hW2.below hb,trivial⟩) ) ?_
     rintro ⟨⟨A118,n120,c119⟩,F122⟩ ⟨hn121,hV123⟩
     replace hn121 : n120 = y114.1.fLegs.length:=hn121; subst hn121
     try dsimp only [lna,lca,lsz,lss]
     refine oY rfl (aI rfl) (oY rfl (yE rfl rfl) (oY rfl (yE rfl rfl) ?_))
     refine aB iX rfl (fun b124 => ?_)
     try dsimp only [lna,lca,lsz,lss]
     refine ck rfl (yS 12 [.slice A118 y114.1.fLegs.length c119,vI y114.1.fA,vI y114.1.fToll] jB rfl (nB rfl) rfl rfl rfl) (oY rfl (yAI rfl) (oN (eT (cS (cR (oY rfl (yMI rfl) (oY rfl (cJ rfl rfl) (oY rfl (yMB rfl) ?_))))))))
     refine oJ 6 (fun tm0 => (upd (upd (upd (upd (upd (upd (upd (upd (upd tm0 7 (.pointer (some ⟨b1,0,none⟩))) 14 (.bool false)) 15 (.pointer (some ⟨b19,0,none⟩))) 17 (vI (Int.tmod (w64 p5) (p0.fT.length:Int)))) 22 (.slice A99 y97.1.length c100)) 23 (vI y97.2)) 25 (.pointer (some ⟨b124,0,none⟩))) 26 (vI y114.2)) 137 (.bool ((y114.2 == 0) && (y114.1.fA == y9.1.fA))))) (fun tm0 => ?_) (fun key => ?_)
     ·refine oY rfl (yAB rfl) (oN (eT (cS (cR ?_))))
      obtain ⟨y126,hy127,h⟩:=bOs h
      refine oY rfl (yC [] go_6 rfl (fun W2 hW2 => dK  y126 hy127 W2 ) rfl) (oY rfl (yMB rfl) ?_)
      refine oJ 3 (fun tm0 => (upd (upd (upd (upd (upd (upd (upd (upd (upd tm0 7 (.pointer (some ⟨b1,0,none⟩))) 14 (.bool false)) 15 (.pointer (some ⟨b19,0,none⟩))) 17 (vI (Int.tmod (w64 p5) (p0.fT.length:Int)))) 22 (.slice A99 y97.1.length c100)) 25 (.pointer (some ⟨b124,0,none⟩))) 26 (vI y114.2)) 27 (.bool ((y114.2 == 0) && (y114.1.fA == y9.1.fA)))) 142 (.bool (y126 && (y97.2 == 0))))) (fun tm0 => ?_) (fun key => ?_)
      ·refine oY rfl (yMB rfl) ?_
       obtain ⟨b130,hb131,h⟩:=bOs h
       refine oJ 11 (fun tm0 => (upd (upd (upd (upd (upd tm0 14 (.bool false)) 15 (.pointer (some ⟨b19,0,none⟩))) 25 (.pointer (some ⟨b124,0,none⟩))) 26 (vI y114.2)) 154 (.bool b130))) (fun tm0 => ?_) (fun key => ?_)
       ·refine oY rfl (yMB rfl) ?_
        refine oJ 14 (fun tm0 => (upd (upd tm0 14 (.bool false)) 169 (.bool (b130 && ((y114.2 == 5) || ((y114.2 == 0) && (decide (y9.1.fA ≤ y114.1.fA)))))))) (fun tm0 => ?_) (fun key => ?_)
        ·refine oY rfl (yAB rfl) (oN (eT (am ?_)))
         obtain rfl:=sI h
         exact ao (.inl rfl) rfl (rVt (v:=.bool (b130 && ((y114.2 == 5) || ((y114.2 == 0) && (decide (y9.1.fA ≤ y114.1.fA)))))) rfl) (fun W2 hW2 => ⟨rfl,hW2.none⟩)
        ·rcases aq b130 with hp132 | hp132
         ·refine oY (sT rfl rfl rfl rfl hp132) (yMI rfl) (oY (sT rfl rfl rfl rfl hp132) (cJ rfl rfl) (oY (sT rfl rfl rfl rfl hp132) (yMB rfl) ?_))
          refine oJ 10 (fun tm0 => (upd (upd (upd tm0 14 (.bool false)) 155 (.bool b130)) 168 (.bool ((y114.2 == 5) || ((y114.2 == 0) && (decide (y9.1.fA ≤ y114.1.fA))))))) (fun tm0 => ?_) (fun key => ?_)
          ·refine oY rfl (ad (vB hp132) rfl) ?_
           exact key _ _ (keep (keep rfl rfl) (vB (ge hp132)))
          ·rcases aq (y114.2 == 5) with hp133 | hp133
           ·refine oSk (sF rfl rfl rfl rfl hp133) (oSk (sF rfl rfl rfl rfl hp133) (oSk (sF rfl rfl rfl rfl hp133) (oSk rfl (oSk rfl (oSk rfl (oSk rfl (oSk rfl (oSk (sF rfl rfl rfl rfl hp133) (oY (sT rfl rfl rfl rfl hp132) (ad (vB hp133) rfl) ?_)))))))))
            exact key _ _ (keep (keep (keep rfl rfl) rfl) (vB (kg hp133)))
           ·refine oY (sT rfl rfl rfl rfl hp133) (yMI rfl) (oY (sT rfl rfl rfl rfl hp133) (cJ rfl rfl) (oY (sT rfl rfl rfl rfl hp133) (yMB rfl) ?_))
            refine oJ 6 (fun tm0 => (upd (upd (upd (upd tm0 14 (.bool false)) 155 (.bool b130)) 158 (.bool (y114.2 == 5))) 167 (.bool ((y114.2 == 0) && (decide (y9.1.fA ≤ y114.1.fA)))))) (fun tm0 => ?_) (fun key => ?_)
            ·refine oY (sT rfl rfl rfl rfl hp132) (ae (vB hp133) rfl) ?_
             exact key _ _ (keep (keep (keep rfl rfl) rfl) (vB (j9 hp133)))
            ·rcases aq (y114.2 == 0) with hp134 | hp134
             ·refine oY (sT rfl rfl rfl rfl hp134) (yFA fa rfl) (oY (sT rfl rfl rfl rfl hp134) (yL 12 bc rfl rfl rfl) (oY (sT rfl rfl rfl rfl hp134) (yFA fa rfl) (oY (sT rfl rfl rfl rfl hp134) (yL 3 bc rfl rfl rfl) (oY (sT rfl rfl rfl rfl hp134) (pg rfl rfl) (oY (sT rfl rfl rfl rfl hp133) (ad (vB hp134) rfl) ?_)))))
              exact key _ _ (keep (keep (keep (keep rfl rfl) rfl) rfl) (vB (ge hp134)))
             ·refine oSk (sF rfl rfl rfl rfl hp134) (oSk (sF rfl rfl rfl rfl hp134) (oSk (sF rfl rfl rfl rfl hp134) (oSk (sF rfl rfl rfl rfl hp134) (oSk (sF rfl rfl rfl rfl hp134) (oY (sT rfl rfl rfl rfl hp133) (ae (vB hp134) rfl) ?_)))))
              exact key _ _ (keep (keep (keep (keep rfl rfl) rfl) rfl) (vB (gc hp134)))
         ·refine oSk (sF rfl rfl rfl rfl hp132) (oSk (sF rfl rfl rfl rfl hp132) (oSk (sF rfl rfl rfl rfl hp132) (oSk rfl (oSk rfl (oSk rfl (oSk rfl (oSk rfl (oSk rfl (oSk rfl (oSk rfl (oSk rfl (oSk (sF rfl rfl rfl rfl hp132) (oY rfl (ae (vB hp132) rfl) ?_)))))))))))))
          exact key _ _ (keep (keep rfl rfl) (vB (gc hp132)))
       ·clear h; rcases iOs hb131 with ⟨hp129,h⟩ | ⟨hp129,h⟩
        ·refine oY (sT rfl rfl rfl rfl hp129) (yMB rfl) (oY (sT rfl rfl rfl rfl hp129) (yMS rfl) (oY (sT rfl rfl rfl rfl hp129) (yFA bS rfl) (oY (sT rfl rfl rfl rfl hp129) (yL 0 fX rfl rfl rfl) (oY (sT rfl rfl rfl rfl hp129) (yMI rfl) ?_))))
         obtain ⟨hg135,h⟩:=gOs h
         refine oY (sT rfl rfl rfl rfl hp129) (yI io (by decide) hg135.1 hg135.2 (RdL.arg hr0_1) (eL aj (NestP.hn hN0_1.p rfl)) rfl rfl) ?_
         refine oY (sT rfl rfl rfl rfl hp129) (yFR (A:=Ab) (j:=(Int.toNat (Int.tmod (w64 p5) (p0.fT.length:Int)) * 6)) jy rfl) (oY (sT rfl rfl rfl rfl hp129) (yR (A:=Ab) (j:=((Int.toNat (Int.tmod (w64 p5) (p0.fT.length:Int)) * 6) + 0)) (v:=vI ((rdL p0.fT (Int.tmod (w64 p5) (p0.fT.length:Int))).fID)) bc (RdL.arg hr0_1) rfl (eG aj hg135.1 (av hg135.2 (NestP.hn hN0_1.p rfl)) (congrArg (fun z : TT => some (Value.int .i64 z.fID)) (NestP.snd hN0_1.p (Int.tmod (w64 p5) (p0.fT.length:Int)))))) ?_)
         obtain ⟨y136,hy137,h⟩:=bOs h
         refine oY (sT rfl rfl rfl rfl hp129) (yC [.slice A99 y97.1.length c100,vI ((rdL p0.fT (Int.tmod (w64 p5) (p0.fT.length:Int))).fID)] go_10 rfl (fun W2 hW2 => jk y97.1 ((rdL p0.fT (Int.tmod (w64 p5) (p0.fT.length:Int))).fID) y136 hy137 W2 A99 y97.1.length c100 rfl ((RdL.row 8 rfl) W2 hW2)) rfl) (oY (sT rfl rfl rfl rfl hp129) (y_neqb ub_4 rfl rfl) (oY rfl (ad (vB hp129) rfl) ?_))
         obtain rfl:=sI h
         exact key _ _ (kp4 (kp rfl))
        ·refine oSk (sF rfl rfl rfl rfl hp129) (oSk (sF rfl rfl rfl rfl hp129) (oSk (sF rfl rfl rfl rfl hp129) (oSk (sF rfl rfl rfl rfl hp129) (oSk (sF rfl rfl rfl rfl hp129) (oSk (sF rfl rfl rfl rfl hp129) (oSk (sF rfl rfl rfl rfl hp129) (oSk (sF rfl rfl rfl rfl hp129) (oSk (sF rfl rfl rfl rfl hp129) (oSk (sF rfl rfl rfl rfl hp129) (oY rfl (ae (vB hp129) rfl) ?_))))))))))
         obtain rfl:=sI h
         exact key _ _ (kp4 (kp rfl))
      ·rcases aq y126 with hp128 | hp128
       ·refine oY (sT rfl rfl rfl rfl hp128) (yMI rfl) (oY (sT rfl rfl rfl rfl hp128) (cJ rfl rfl) (oY rfl (ad (vB hp128) rfl) ?_))
        exact key _ _ (keep (keep (keep (keep (keep (keep (keep (keep (keep rfl rfl) rfl) rfl) rfl) rfl) rfl) rfl) rfl) (vB (ge hp128)))
       ·refine oSk (sF rfl rfl rfl rfl hp128) (oSk (sF rfl rfl rfl rfl hp128) (oY rfl (ae (vB hp128) rfl) ?_))
        exact key _ _ (keep (keep (keep (keep (keep (keep (keep (keep (keep rfl rfl) rfl) rfl) rfl) rfl) rfl) rfl) rfl) (vB (gc hp128)))
     ·rcases aq (y114.2 == 0) with hp125 | hp125
      ·refine oY (sT rfl rfl rfl rfl hp125) (yFA fa rfl) (oY (sT rfl rfl rfl rfl hp125) (yL 12 bc rfl rfl rfl) (oY (sT rfl rfl rfl rfl hp125) (yFA fa rfl) (oY (sT rfl rfl rfl rfl hp125) (yL 3 bc rfl rfl rfl) (oY (sT rfl rfl rfl rfl hp125) (cJ rfl rfl) (oY rfl (ad (vB hp125) rfl) ?_)))))
       exact key _ _ (keep (keep (keep (keep (keep (keep (keep (keep (keep rfl rfl) rfl) rfl) rfl) rfl) rfl) rfl) rfl) (vB (ge hp125)))
      ·refine oSk (sF rfl rfl rfl rfl hp125) (oSk (sF rfl rfl rfl rfl hp125) (oSk (sF rfl rfl rfl rfl hp125) (oSk (sF rfl rfl rfl rfl hp125) (oSk (sF rfl rfl rfl rfl hp125) (oY rfl (ae (vB hp125) rfl) ?_)))))
       exact key _ _ (keep (keep (keep (keep (keep (keep (keep (keep (keep rfl rfl) rfl) rfl) rfl) rfl) rfl) rfl) rfl) (vB (gc hp125)))
 ·rcases aq (!y3) with hp5 | hp5
  ·refine oSk (sF rfl rfl rfl rfl hp5) (oSk (sF rfl rfl rfl rfl hp5) (oSk (sF rfl rfl rfl rfl hp5) (oSk (sF rfl rfl rfl rfl hp5) (oY rfl (ad (vB hp5) rfl) ?_))))
   exact key _ _ (keep (keep (keep (keep (keep (keep (keep (keep (keep rfl rfl) rfl) rfl) rfl) rfl) rfl) rfl) rfl) (vB (kg hp5)))
  ·refine oY (sT rfl rfl rfl rfl hp5) (yFA bS rfl) (oY (sT rfl rfl rfl rfl hp5) (yL 0 fX rfl rfl rfl) (oY (sT rfl rfl rfl rfl hp5) (bu (us:=[]) gg rfl) (oY (sT rfl rfl rfl rfl hp5) (cJ rfl rfl) (oY rfl (ae (vB hp5) rfl) ?_))))
   exact key _ _ (keep (keep (keep (keep (keep (keep (keep (keep (keep rfl rfl) rfl) rfl) rfl) rfl) rfl) rfl) rfl) (vB (j9 hp5)))
end Go.Proofs.YthndghnkebboaabGreat
