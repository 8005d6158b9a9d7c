import Derived.Test.YthndghnkebboaabGreatF
import Derived.Test.YthndghnkebboaabGreatGD
import Derived.Test.YthndghnkebboaabGreatGr
import Derived.Test.YthndghnkebboaabGreatC0
import Derived.Test.YthndghnkebboaabGreatC1
set_option maxHeartbeats 4000000
set_option maxRecDepth 100000
set_option linter.unusedVariables false
namespace Go.Proofs.YthndghnkebboaabGreat
open Go.RowKit (Below)
attribute [local irreducible] OX QX CX EX OpY Calls CallsIn
theorem fp (p0:(List Int)) (p1:Int) (p2:Int) (res:(List Int)) (h:bi p0 p1 p2 = some res) (W:World) (w0:World) (R:Res) (Aa:Option Addr) (n0_0 ca : Nat) (hn0_0:n0_0 = p0.length) (hW:Ext w0 W [R,aI Aa ca 3 1 n0_0 (encL cI p0)]) :
  Calls Tryz.prog 101 [.slice Aa n0_0 ca,vI p1,vI p2].toArray W fun e W2 => e = .returned (.tuple #[]) ∧ n0_0 = res.length ∧ Ext w0 W2 [R,aI Aa ca 3 1 n0_0 (encL cI res)]:=by
 subst hn0_0
 unfold bi at h
 refine aM (m:=49) Tryz.func101 rfl rfl (nB rfl) hW (cS (cR (oY rfl (yMI rfl) (oY rfl (aX rfl rfl) (oY rfl (yAI rfl) (oN (eT (cB ?_))))))))
 obtain ⟨u4,hl24,h⟩:=bOs h
 refine bc (fun (s:(Int × (List Int))) L tm => ∃ (tm0:Nat → Value),p0.length = s.2.length ∧ L = [R,aI Aa ca 3 1 p0.length (encL cI s.2)] ∧ tm = (upd (upd (upd (upd tm0 0 (.slice Aa p0.length ca)) 1 (vI p1)) 2 (vI p2)) 6 (vI s.1))) 0 hl24 ⟨_,rfl,rfl,(kp4 rfl)⟩ ?_ ?_
 ·rintro s3 L tm st ⟨tm0_s3,hn1_s3,rfl,rfl⟩ h
  unfold aF at h
  refine cS (cS (cR (oY rfl (yMI rfl) (oY rfl (yMI rfl) (oY rfl (bm rfl rfl) (oN (eT ?_)))))))
  rcases iOs h with ⟨hp5,h⟩ | ⟨hp5,h⟩
  ·refine cT (vB hp5) (cK (eT (cS (cB (cS (cR (oY rfl (yMI rfl) (oY rfl (yAI rfl) (oN (eT (cB ?_)))))))))))
   obtain ⟨u9,hl23,h⟩:=bOs h
   refine bc (fun (s:(Int × (List Int))) L tm => ∃ (tm0:Nat → Value),p0.length = s.2.length ∧ L = [R,aI Aa ca 3 1 p0.length (encL cI s.2)] ∧ tm = (upd (upd (upd (upd (upd (upd tm0 0 (.slice Aa p0.length ca)) 1 (vI p1)) 2 (vI p2)) 6 (vI s3.1)) 12 (.bool (decide (s3.1 < p2)))) 7 (vI s.1))) 2 hl23 ⟨_,hn1_s3,rfl,(kp4 (kp (kp rfl)))⟩ ?_ ?_
   ·rintro s8 L tm st ⟨tm0_s8,hn1_s8,rfl,rfl⟩ h
    unfold aW at h
    refine cS (cS ?_)
    refine ba 15 cm (by kernel_rfl) (by kernel_rfl) ?_
    refine qY rfl (yMI rfl) (qY rfl (yMI rfl) (qY rfl (eI rfl rfl) (qY rfl (yMB rfl) ?_)))
    obtain ⟨b11,hb12,h⟩:=bOs h
    refine qJ 11 (fun tm0 => (upd (upd (upd (upd (upd (upd (upd tm0 0 (.slice Aa p0.length ca)) 1 (vI p1)) 2 (vI p2)) 6 (vI s3.1)) 12 (.bool (decide (s3.1 < p2)))) 7 (vI s8.1)) 30 (.bool b11))) (fun tm0 => ?_) (fun key => ?_)
    ·refine bX (oN (eT ?_))
     rcases iOs h with ⟨hp13,h⟩ | ⟨hp13,h⟩
     ·refine cT (vB hp13) (cK (eT (cS (cB ?_))))
      obtain ⟨hg15,h⟩:=gOs h
      obtain ⟨hg16,h⟩:=gOs h
      obtain ⟨hg17,h⟩:=gOs h
      obtain ⟨hg18,h⟩:=gOs h
      refine dJ [[],[],[],[],[3],[],[],[6],[5,6,7],[5,6,7,8],[],[],[10,11],[10,11,12],[0,1,5,6,7,8,9,10,11,12,13],[0,1,5,6,7,8,9,10,11,12,13,14],[0,1,2,3,4,5,6,7,8,9,10,11,12,13,14,15],[0,1,2,3,4,5,6,7,8,9,10,11,12,13,14,15,16]] [(none,0,[true,true]),(none,0,[true,true]),(none,0,[true,false]),(none,0,[true,false]),(none,0,[true,false]),(none,0,[true,true]),(none,0,[true,true]),(none,0,[true,true]),(none,0,[true,true]),(none,0,[true,true]),(none,0,[true,true]),(none,0,[true,true]),(none,0,[true,true]),(none,0,[true,true]),(none,0,[true,true]),(some 1,0,[true,true]),(none,0,[true,true]),(some 1,0,[true,true])] [⟨fun _ => .slice Aa p0.length ca,fun _ => noR,fun _ => []⟩,⟨fun _ => vI s8.1,fun _ => noR,fun _ => []⟩,⟨fun _ => .slice Aa p0.length ca,fun _ => noR,fun _ => []⟩,⟨fun _ => vI s8.1,fun _ => noR,fun _ => []⟩,⟨fun _ => vI (w64 (s8.1 - 1)),fun _ => noR,fun _ => []⟩,⟨fun _ => .slice Aa p0.length ca,fun _ => noR,fun _ => []⟩,⟨fun _ => vI s8.1,fun _ => noR,fun _ => []⟩,⟨fun _ => vI (w64 (s8.1 - 1)),fun _ => noR,fun _ => []⟩,⟨fun _ => slA Aa (Int.toNat (w64 (s8.1 - 1)) * 1),fun _ => noR,fun _ => []⟩,⟨fun _ => vI (rdL s8.2 (w64 (s8.1 - 1))),fun _ => noR,fun _ => []⟩,⟨fun _ => .slice Aa p0.length ca,fun _ => noR,fun _ => []⟩,⟨fun _ => vI s8.1,fun _ => noR,fun _ => []⟩,⟨fun _ => slA Aa (Int.toNat s8.1 * 1),fun _ => noR,fun _ => []⟩,⟨fun _ => vI (rdL s8.2 s8.1),fun _ => noR,fun _ => []⟩,⟨fun _ => slA Aa (Int.toNat s8.1 * 1),fun _ => noR,fun _ => []⟩,⟨fun _ => undef,fun _ => aI Aa ca 3 1 p0.length (encL cI (s8.2.set (Int.toNat s8.1) (rdL s8.2 (w64 (s8.1 - 1))))),fun _ => []⟩,⟨fun _ => slA Aa (Int.toNat (w64 (s8.1 - 1)) * 1),fun _ => noR,fun _ => []⟩,⟨fun _ => undef,fun _ => aI Aa ca 3 1 p0.length (encL cI ((s8.2.set (Int.toNat s8.1) (rdL s8.2 (w64 (s8.1 - 1)))).set (Int.toNat (w64 (s8.1 - 1))) (rdL s8.2 s8.1))),fun _ => []⟩] 2 cm (by kernel_rfl) (by kernel_rfl) ⟨⟨fun ξ14 ξ14' h => ⟨rfl,rfl,rfl⟩,fun _ => rfl⟩,⟨fun ξ14 ξ14' h => ⟨rfl,rfl,rfl⟩,fun _ => rfl⟩,⟨fun ξ14 ξ14' h => ⟨rfl,rfl,rfl⟩,fun _ => rfl⟩,⟨fun ξ14 ξ14' h => ⟨rfl,rfl,rfl⟩,fun _ => rfl⟩,⟨fun ξ14 ξ14' h => ⟨rfl,rfl,rfl⟩,fun _ => rfl⟩,⟨fun ξ14 ξ14' h => ⟨rfl,rfl,rfl⟩,fun _ => rfl⟩,⟨fun ξ14 ξ14' h => ⟨rfl,rfl,rfl⟩,fun _ => rfl⟩,⟨fun ξ14 ξ14' h => ⟨rfl,rfl,rfl⟩,fun _ => rfl⟩,⟨fun ξ14 ξ14' h => ⟨rfl,rfl,rfl⟩,fun _ => rfl⟩,⟨fun ξ14 ξ14' h => ⟨rfl,rfl,rfl⟩,fun _ => rfl⟩,⟨fun ξ14 ξ14' h => ⟨rfl,rfl,rfl⟩,fun _ => rfl⟩,⟨fun ξ14 ξ14' h => ⟨rfl,rfl,rfl⟩,fun _ => rfl⟩,⟨fun ξ14 ξ14' h => ⟨rfl,rfl,rfl⟩,fun _ => rfl⟩,⟨fun ξ14 ξ14' h => ⟨rfl,rfl,rfl⟩,fun _ => rfl⟩,⟨fun ξ14 ξ14' h => ⟨rfl,rfl,rfl⟩,fun _ => rfl⟩,⟨fun ξ14 ξ14' h => ⟨rfl,rfl,rfl⟩,fun _ => rfl⟩,⟨fun ξ14 ξ14' h => ⟨rfl,rfl,rfl⟩,fun _ => rfl⟩,⟨fun ξ14 ξ14' h => ⟨rfl,rfl,rfl⟩,fun _ => rfl⟩,trivial⟩ rfl (fun ξ14 => ?_)
      refine bJ rfl (fun L2 => ?_) ?_
      ·dsimp only [aC,lca,lna]
       refine oY rfl (yMS rfl) (oN ?_)
       exact ar (fun _ => (none,0,0,[],noR)) rfl (List.append_nil _)
      dsimp only [bw,lsz,lss,lna,lca,List.append_nil]
      refine bJ rfl (fun L2 => ?_) ?_
      ·dsimp only [aC,lca,lna]
       refine oY rfl (yMI rfl) (oN ?_)
       exact ar (fun _ => (none,0,0,[],noR)) rfl (List.append_nil _)
      dsimp only [bw,lsz,lss,lna,lca,List.append_nil]
      refine bJ rfl (fun L2 => ?_) ?_
      ·dsimp only [aC,lca,lna]
       refine oY rfl (yMS rfl) (oN ?_)
       exact ar (fun _ => (none,0,0,[],noR)) rfl (List.append_nil _)
      dsimp only [bw,lsz,lss,lna,lca,List.append_nil]
      refine bJ rfl (fun L2 => ?_) ?_
      ·dsimp only [aC,lca,lna]
       refine oY rfl (yMI rfl) (oN ?_)
       exact ar (fun _ => (none,0,0,[],noR)) rfl (List.append_nil _)
      dsimp only [bw,lsz,lss,lna,lca,List.append_nil]
      refine bJ rfl (fun L2 => ?_) ?_
      ·dsimp only [aC,lca,lna]
       refine oY rfl (dV rfl rfl) (oN ?_)
       exact ar (fun _ => (none,0,0,[],noR)) rfl (List.append_nil _)
      dsimp only [bw,lsz,lss,lna,lca,List.append_nil]
      refine bJ rfl (fun L2 => ?_) ?_
      ·dsimp only [aC,lca,lna]
       refine oY rfl (yMS rfl) (oN ?_)
       exact ar (fun _ => (none,0,0,[],noR)) rfl (List.append_nil _)
      dsimp only [bw,lsz,lss,lna,lca,List.append_nil]
      refine bJ rfl (fun L2 => ?_) ?_
      ·dsimp only [aC,lca,lna]
       refine oY rfl (yMI rfl) (oN ?_)
       exact ar (fun _ => (none,0,0,[],noR)) rfl (List.append_nil _)
      dsimp only [bw,lsz,lss,lna,lca,List.append_nil]
      refine bJ rfl (fun L2 => ?_) ?_
      ·dsimp only [aC,lca,lna]
       refine oY rfl (dV rfl rfl) (oN ?_)
       exact ar (fun _ => (none,0,0,[],noR)) rfl (List.append_nil _)
      dsimp only [bw,lsz,lss,lna,lca,List.append_nil]
      refine bJ rfl (fun L2 => ?_) ?_
      ·dsimp only [aC,lca,lna]
       refine oY rfl (yI d7 (by decide) hg15.1 hg15.2 (RdL.row 1 rfl) (eL aJ hn1_s8) rfl rfl) ?_
       refine oN ?_
       exact ar (fun _ => (none,0,0,[],noR)) rfl (List.append_nil _)
      dsimp only [bw,lsz,lss,lna,lca,List.append_nil]
      refine bJ rfl (fun L2 => ?_) ?_
      ·dsimp only [aC,lca,lna]
       refine oY rfl (yR (A:=Aa) (j:=(Int.toNat (w64 (s8.1 - 1)) * 1)) (v:=vI (rdL s8.2 (w64 (s8.1 - 1)))) aV (RdL.row 1 rfl) rfl (a6 aJ hg15.1 (av hg15.2 hn1_s8) rfl)) (oN ?_)
       exact ar (fun _ => (none,0,0,[],noR)) rfl (List.append_nil _)
      dsimp only [bw,lsz,lss,lna,lca,List.append_nil]
      refine bJ rfl (fun L2 => ?_) ?_
      ·dsimp only [aC,lca,lna]
       refine oY rfl (yMS rfl) (oN ?_)
       exact ar (fun _ => (none,0,0,[],noR)) rfl (List.append_nil _)
      dsimp only [bw,lsz,lss,lna,lca,List.append_nil]
      refine bJ rfl (fun L2 => ?_) ?_
      ·dsimp only [aC,lca,lna]
       refine oY rfl (yMI rfl) (oN ?_)
       exact ar (fun _ => (none,0,0,[],noR)) rfl (List.append_nil _)
      dsimp only [bw,lsz,lss,lna,lca,List.append_nil]
      refine bJ rfl (fun L2 => ?_) ?_
      ·dsimp only [aC,lca,lna]
       refine oY rfl (yI d7 (by decide) hg16.1 hg16.2 (RdL.row 1 rfl) (eL aJ hn1_s8) rfl rfl) ?_
       refine oN ?_
       exact ar (fun _ => (none,0,0,[],noR)) rfl (List.append_nil _)
      dsimp only [bw,lsz,lss,lna,lca,List.append_nil]
      refine bJ rfl (fun L2 => ?_) ?_
      ·dsimp only [aC,lca,lna]
       refine oY rfl (yR (A:=Aa) (j:=(Int.toNat s8.1 * 1)) (v:=vI (rdL s8.2 s8.1)) aV (RdL.row 1 rfl) rfl (a6 aJ hg16.1 (av hg16.2 hn1_s8) rfl)) (oN ?_)
       exact ar (fun _ => (none,0,0,[],noR)) rfl (List.append_nil _)
      dsimp only [bw,lsz,lss,lna,lca,List.append_nil]
      refine bJ rfl (fun L2 => ?_) ?_
      ·dsimp only [aC,lca,lna]
       refine oY rfl (yI d7 (by decide) hg17.1 hg17.2 (RdL.row 1 rfl) (eL aJ hn1_s8) rfl rfl) ?_
       refine oN ?_
       exact ar (fun _ => (none,0,0,[],noR)) rfl (List.append_nil _)
      dsimp only [bw,lsz,lss,lna,lca,List.append_nil]
      refine qI rfl (fun L2 => ?_) ?_
      ·dsimp only [aC,lca,lna]
       refine bT rfl (iO 1 (xs:=s8.2) aJ (rdL s8.2 (w64 (s8.1 - 1))) p6 rfl hg17.1 (av hg17.2 hn1_s8) rfl rfl rfl rfl) (oN ?_)
       first | exact bA (fun _ => (none,0,0,[],noR)) rfl | exact bA (fun _ => (none,0,0,[],noR)) (List.append_nil _)
      dsimp only [bw,lsz,lss,lna,lca,List.append_nil]
      refine bJ rfl (fun L2 => ?_) ?_
      ·dsimp only [aC,lca,lna]
       refine oY rfl (yI d7 (by decide) hg18.1 hg18.2 (RdL.row 1 rfl) (eL aJ (cU hn1_s8)) rfl rfl) ?_
       refine oN ?_
       exact ar (fun _ => (none,0,0,[],noR)) rfl (List.append_nil _)
      dsimp only [bw,lsz,lss,lna,lca,List.append_nil]
      refine qI rfl (fun L2 => ?_) ?_
      ·dsimp only [aC,lca,lna]
       refine bT rfl (iO 1 (xs:=(s8.2.set (Int.toNat s8.1) (rdL s8.2 (w64 (s8.1 - 1))))) aJ (rdL s8.2 s8.1) p6 rfl hg18.1 (av hg18.2 (cU hn1_s8)) rfl rfl rfl rfl) (oN ?_)
       first | exact bA (fun _ => (none,0,0,[],noR)) rfl | exact bA (fun _ => (none,0,0,[],noR)) (List.append_nil _)
      dsimp only [bw,lsz,lss,lna,lca,List.append_nil]
      refine jm (aw (eT (cR (oY rfl (yMI rfl) (oY rfl (dV rfl rfl) (oY rfl (yAI rfl) (oN ?_)))))))
      obtain rfl:=sI h
      exact eN ⟨_,(cU (cU hn1_s8)),rfl,(kp4 (kp (kp rfl)))⟩
     ·refine cF (vB hp13) (aH (ah ?_))
      obtain rfl:=sI h
      exact ax ⟨rfl,_,hn1_s8,rfl,(kp4 (kp (kp rfl)))⟩
    ·clear h; rcases iOs hb12 with ⟨hp10,h⟩ | ⟨hp10,h⟩
     ·refine qY (sT rfl rfl rfl rfl hp10) (yMS rfl) (qY (sT rfl rfl rfl rfl hp10) (yMI rfl) ?_)
      obtain ⟨hg19,h⟩:=gOs h
      refine qY (sT rfl rfl rfl rfl hp10) (yI d7 (by decide) hg19.1 hg19.2 (RdL.row 1 rfl) (eL aJ hn1_s8) rfl rfl) ?_
      refine qY (sT rfl rfl rfl rfl hp10) (yR (A:=Aa) (j:=(Int.toNat s8.1 * 1)) (v:=vI (rdL s8.2 s8.1)) aV (RdL.row 1 rfl) rfl (a6 aJ hg19.1 (av hg19.2 hn1_s8) rfl)) (qY (sT rfl rfl rfl rfl hp10) (yMS rfl) (qY (sT rfl rfl rfl rfl hp10) (yMI rfl) (qY (sT rfl rfl rfl rfl hp10) (dV rfl rfl) ?_)))
      obtain ⟨hg20,h⟩:=gOs h
      refine qY (sT rfl rfl rfl rfl hp10) (yI d7 (by decide) hg20.1 hg20.2 (RdL.row 1 rfl) (eL aJ hn1_s8) rfl rfl) ?_
      refine qY (sT rfl rfl rfl rfl hp10) (yR (A:=Aa) (j:=(Int.toNat (w64 (s8.1 - 1)) * 1)) (v:=vI (rdL s8.2 (w64 (s8.1 - 1)))) aV (RdL.row 1 rfl) rfl (a6 aJ hg20.1 (av hg20.2 hn1_s8) rfl)) ?_
      obtain ⟨y21,hy22,h⟩:=bOs h
      refine qY (sT rfl rfl rfl rfl hp10) (yC [vI (rdL s8.2 s8.1),vI (rdL s8.2 (w64 (s8.1 - 1)))] go_107 rfl (fun W2 hW2 => nt (rdL s8.2 s8.1) (rdL s8.2 (w64 (s8.1 - 1))) y21 hy22 W2 ) rfl) (qY rfl (ae (vB hp10) rfl) ?_)
      obtain rfl:=sI h
      exact key _ _ (kp4 (kp (kp (kp rfl))))
     ·refine am (sF rfl rfl rfl rfl hp10) (am (sF rfl rfl rfl rfl hp10) (am (sF rfl rfl rfl rfl hp10) (am (sF rfl rfl rfl rfl hp10) (am (sF rfl rfl rfl rfl hp10) (am (sF rfl rfl rfl rfl hp10) (am (sF rfl rfl rfl rfl hp10) (am (sF rfl rfl rfl rfl hp10) (am (sF rfl rfl rfl rfl hp10) (am (sF rfl rfl rfl rfl hp10) (qY rfl (ag (vB hp10) rfl) ?_))))))))))
      obtain rfl:=sI h
      exact key _ _ (kp4 (kp (kp (kp rfl))))
   ·intro e L tm hJ
    obtain ⟨rfl,tm0_u9,hn1_u9,rfl,rfl⟩:=hJ
    refine ⟨(by intro hc; cases hc),?_⟩
    refine ac (aw (eT (cR (oY rfl (yMI rfl) (oY rfl (aX rfl rfl) (oY rfl (yAI rfl) (oN ?_)))))))
    obtain rfl:=sI h
    exact eN ⟨_,hn1_u9,rfl,(kp4 rfl)⟩
  ·refine cF (vB hp5) (aH (ah ?_))
   obtain rfl:=sI h
   exact ax ⟨rfl,_,hn1_s3,rfl,(kp4 rfl)⟩
 ·intro e L tm hJ
  obtain ⟨rfl,tm0_u4,hn1_u4,rfl,rfl⟩:=hJ
  refine ⟨(by intro hc; cases hc),?_⟩
  refine ac ?_
  obtain rfl:=sI h
  exact bR (.inr rfl) rfl  (fun W2 hW2 => ⟨rfl,hn1_u4,hW2.take 2⟩)
theorem l0 {x : Int} (h:0 ≤ x ∧ x < 16) : x = 0 ∨ x = 1 ∨ x = 2 ∨ x = 3 ∨ x = 4 ∨ x = 5 ∨ x = 6 ∨ x = 7 ∨ x = 8 ∨ x = 9 ∨ x = 10 ∨ x = 11 ∨ x = 12 ∨ x = 13 ∨ x = 14 ∨ x = 15:=by omega
theorem lr (p0:Int) (res:Int) (h:fz p0 = some res) (W:World) :
  Calls Tryz.prog 111 [.int .u64 p0].toArray W fun e W2 => e = .returned (vI res) ∧ Ext W W2 []:=by
 unfold fz at h
 obtain ⟨hg,h⟩:=gOs h
 refine ad (m:=25) Tryz.func111 rfl rfl (nB rfl) ?_
 have h1 : decide ((4294967296:Int) ≤ p0) = false:=decide_eq_false (by omega)
 have h2 : decide ((65536:Int) ≤ p0) = false:=decide_eq_false (by omega)
 have h3 : decide ((256:Int) ≤ p0) = false:=decide_eq_false (by omega)
 refine cS (cR (oY rfl (yAI rfl) (oN (eT (cS (cS (cR (oY rfl (yMI rfl) (oY rfl (pG rfl rfl) (oN (eT (cF (vB h1) (cK (eT (cS (cS (cR (oY rfl (yMI rfl) (oY rfl (pG rfl rfl) (oN (eT (cF (vB h2) (cK (eT (cS (cS (cR (oY rfl (yMI rfl) (oY rfl (pG rfl rfl) (oN (eT (cF (vB h3) (cK (eT (cS (cR (oY rfl (yMI rfl) (oY rfl (yMI rfl) ?_))))))))))))))))))))))))))))))))))))))
 refine oY rfl (sM (a':=p0) (q':=.u8) ui_169 ui_5 (by rcases l0 hg with rfl | rfl | rfl | rfl | rfl | rfl | rfl | rfl | rfl | rfl | rfl | rfl | rfl | rfl | rfl | rfl <;> decide) rfl) ?_
 refine oY rfl (re (b:=UInt8.ofNat (lenv p0).toNat) us_s9 hg.1 (by rcases l0 hg with rfl | rfl | rfl | rfl | rfl | rfl | rfl | rfl | rfl | rfl | rfl | rfl | rfl | rfl | rfl | rfl <;> rfl) rfl rfl) ?_
 refine oY rfl (sM (a':=lenv p0) (q':=.i64) ui_5 ui_3 (by rcases l0 hg with rfl | rfl | rfl | rfl | rfl | rfl | rfl | rfl | rfl | rfl | rfl | rfl | rfl | rfl | rfl | rfl <;> decide) rfl) ?_
 refine oY rfl (aX rfl rfl) (oY rfl (yAI rfl) (oN (eT (al ?_))))
 obtain rfl:=sI h
 exact ap (.inl rfl) rfl (rVt (v:=vI (w64 (0 + lenv p0))) rfl) (fun W2 hW2 => ⟨rfl,hW2.none⟩)
theorem jl (p0:Int) (res:Int) (h:eu p0 = some res) (W:World)  :
  Calls Tryz.prog 74 [.int .u64 p0].toArray W fun e W2 => e = .returned (vI res) ∧ Ext W W2 []:=by
 unfold eu at h
 refine ad (m:=8) Tryz.func74 rfl rfl (nB rfl) (cS (cR (oY rfl (yAI rfl) (oN (eT (cS (cF rfl (cK (eT (cS (cR (oY rfl (yMI rfl) ?_))))))))))))
 obtain ⟨y1,hy2,h⟩:=bOs h
 refine oY rfl (yC [.int .u64 p0] go_111 rfl (fun W2 hW2 => lr p0 y1 hy2 W2 ) rfl) (oY rfl (yAI rfl) (oN (eT (al ?_))))
 obtain rfl:=sI h
 exact ap (.inl rfl) rfl (rVt (v:=vI y1) rfl) (fun W2 hW2 => ⟨rfl,hW2.none⟩)
theorem gJ (p0:(List Int)) (p1:Int) (p2:Int) (p3:Int) (res:(List Int)) (h:cf p0 p1 p2 p3 = some res) (W:World) (w0:World) (R:Res) (Aa:Option Addr) (n0_0 ca : Nat) (hn0_0:n0_0 = p0.length) (hW:Ext w0 W [R,aI Aa ca 3 1 n0_0 (encL cI p0)]) :
  Calls Tryz.prog 73 [.slice Aa n0_0 ca,vI p1,vI p2,vI p3].toArray W fun e W2 => e = .returned (.tuple #[]) ∧ n0_0 = res.length ∧ Ext w0 W2 [R,aI Aa ca 3 1 n0_0 (encL cI res)]:=by
 subst hn0_0
 unfold cf at h
 refine aM (m:=134) Tryz.func73 rfl rfl (nB rfl) hW (cS (cR (oY rfl (yAB rfl) (oN (eT (cS (cR (oY rfl (yAB rfl) (oN (eT (cB ?_)))))))))))
 obtain ⟨u4,hl9,h⟩:=bOs h
 refine oO (fun (s:(Int × Int × Int × Bool × Bool × (List Int))) L tm => ∃ (tm0:Nat → Value),p0.length = s.2.2.2.2.2.length ∧ L = [R,aI Aa ca 3 1 p0.length (encL cI s.2.2.2.2.2)] ∧ tm = (upd (upd (upd (upd (upd (upd tm0 0 (.slice Aa p0.length ca)) 1 (vI s.1)) 2 (vI s.2.1)) 3 (vI s.2.2.1)) 8 (.bool s.2.2.2.1)) 9 (.bool s.2.2.2.2.1))) (fun s e L tm => e = .ret ∧ ∃ (tm0:Nat → Value),p0.length = s.2.2.2.2.2.length ∧ L = [R,aI Aa ca 3 1 p0.length (encL cI s.2.2.2.2.2)] ∧ tm = (upd (upd (upd (upd (upd (upd tm0 0 (.slice Aa p0.length ca)) 1 (vI s.1)) 2 (vI s.2.1)) 3 (vI s.2.2.1)) 8 (.bool s.2.2.2.1)) 9 (.bool s.2.2.2.2.1))) hl9 ⟨_,rfl,rfl,(kp4 (kp (kp rfl)))⟩ ?_ ?_
 ·rintro s3 L tm st ⟨tm0_s3,hn1_s3,rfl,rfl⟩ h
  unfold bK at h
  refine cB (cS (cR (oY rfl (yMI rfl) (oY rfl (yMI rfl) (oY rfl (dV rfl rfl) (oY rfl (yAI rfl) (oN (eT (cS (cS (cR (oY rfl (yMI rfl) (oY rfl (jX rfl rfl) (oN (eT ?_)))))))))))))))
  obtain ⟨hp5,h⟩:=gOs h
  refine cT (vB hp5) (cS (cR (oY rfl (yMS rfl) (oY rfl (yMI rfl) (oY rfl (yMI rfl) ?_)))))
  obtain ⟨y6,hy7,h⟩:=bOs h
  refine dE 1 [.slice Aa p0.length ca,vI s3.1,vI s3.2.1] (fun (_:Unit) => p0.length = y6.length) (fun _ => .tuple #[]) (fun _ => aI Aa ca 3 1 p0.length (encL cI y6)) (fun _ => []) rfl rfl go_101 rfl (fun W2 hW2 => (fp s3.2.2.2.2.2 s3.1 s3.2.1 y6 hy7 W2 _ (cD [R,aI Aa ca 3 1 p0.length (encL cI s3.2.2.2.2.2)] [1]) Aa p0.length ca (hn1_s3) hW2).mono (fun e W3 h3 => ⟨(),h3.2.1,h3.1,h3.2.2⟩)) ?_
  rintro - hn8
  try dsimp only [lsz,lss,List.append_nil]
  refine oN (eT (al (aa (ai ?_))))
  obtain rfl:=sI h
  exact ax ⟨rfl,_,hn8,rfl,(kp4 (kp (kp rfl)))⟩
 ·intro e L tm hJ
  obtain ⟨rfl,tm0_u4,hn1_u4,rfl,rfl⟩:=hJ
  refine ⟨(by intro hc; cases hc),?_⟩
  refine ai ?_
  obtain rfl:=sI h
  exact bR (.inl rfl) rfl  (fun W2 hW2 => ⟨rfl,hn1_u4,hW2.take 2⟩)
theorem insO_l2 {n : Nat} {data0 : List Int} (h0:data0.length = n) (hn:n < 1000000) (x:Int) :
  ∀ (k:Nat) (A1 T : List Int),A1.length = k → A1.length + 1 + T.length = n → ∃ B1 B2 : List Int,A1 = B1 ++ B2 ∧ aT (aW data0 0) ((A1.length:Int),A1 ++ x :: T) = some ((B1.length:Int),B1 ++ x :: (B2 ++ T)) ∧ (∀ y ∈ B2,x < y) ∧ (∀ y,B1.getLast? = some y → ¬ x < y):=by
 intro k
 induction k with
 | zero =>
  intro A1 T hk hl
  have : A1 = []:=List.eq_nil_of_length_eq_zero hk
  subst this
  refine ⟨[],[],rfl,?_,by simp,by simp⟩
  refine ct ?_
  unfold aW; dsimp only
  rfl
 | succ k ih =>
  intro A1 T hk hl
  obtain ⟨A,y,rfl⟩ : ∃ A y,A1 = A ++ [y]:=⟨A1.dropLast,A1.getLast (by intro h; rw [h] at hk; cases hk),(List.dropLast_concat_getLast _).symm⟩
  have hA : A.length = k:=by simpa using hk
  simp only [List.length_append,List.length_cons,List.length_nil] at hl
  have e1 : A ++ [y] ++ x :: T = A ++ y :: x :: T:=by simp
  have hi : (((A ++ [y]).length : Nat) : Int) = (A.length:Int) + 1:=by simp
  have hj1 : w64 ((((A ++ [y]).length : Nat) : Int) - 1) = (A.length:Int):=by rw [eC (by simp only [List.length_append,List.length_cons,List.length_nil]; omega) (by simp only [List.length_append,List.length_cons,List.length_nil]; omega)]; simp
  have r1 : rdL (A ++ [y] ++ x :: T) (((A ++ [y]).length : Nat) : Int) = x:=mC _ _ _ _ rfl
  have r2 : rdL (A ++ [y] ++ x :: T) (A.length:Int) = y:=by rw [e1]; exact mC _ _ _ _ rfl
  have g1 : (0:Int) ≤ (((A ++ [y]).length : Nat) : Int) ∧ (((A ++ [y]).length : Nat) : Int) < (data0.length:Int):=by rw [h0]; simp only [List.length_append,List.length_cons,List.length_nil]; omega
  have g2 : (0:Int) ≤ (A.length:Int) ∧ (A.length:Int) < (data0.length:Int):=by rw [h0]; omega
  have hd : decide ((0:Int) < (((A ++ [y]).length : Nat) : Int)) = true:=decide_eq_true (by rw [hi]; omega)
  have hless : gt x y = some (decide (x < y)):=by
   unfold gt dG
   simp
  have step : aW data0 0 ((((A ++ [y]).length : Nat) : Int),A ++ [y] ++ x :: T) = if x < y then some (.inl ((A.length:Int),A ++ x :: ([y] ++ T))) else some (.inr ((((A ++ [y]).length : Nat) : Int),A ++ [y] ++ x :: T)):=by
   unfold aW; dsimp only
   simp only [hj1,r1,r2,hd,if_true,gPo g1,gPo g2,hless,Option.bind_some,decide_eq_true_eq]
   by_cases hlt : x < y
   ·rw [if_pos hlt,if_pos hlt]
    refine congrArg some (congrArg Sum.inl (Prod.ext rfl ?_))
    show ((A ++ [y] ++ x :: T).set (Int.toNat (((A ++ [y]).length : Nat) : Int)) y).set (Int.toNat (A.length:Int)) x = _
    rw [Int.toNat_natCast,Int.toNat_natCast,mE (A ++ [y]) x y T _ rfl]
    have e3 : A ++ [y] ++ y :: T = A ++ y :: (y :: T):=by simp
    rw [e3,mE A y x (y :: T) _ rfl]
    simp
   ·rw [if_neg hlt,if_neg hlt]
  by_cases hlt : x < y
  ·rw [if_pos hlt] at step
   obtain ⟨B1,B2,hB,hr,h2,h3⟩:=ih A ([y] ++ T) hA (by simp; omega)
   refine ⟨B1,B2 ++ [y],by rw [hB,List.append_assoc],?_,?_,h3⟩
   ·rw [fZ step,hr]
    simp
   ·intro z hz
    rcases List.mem_append.1 hz with hz | hz
    ·exact h2 z hz
    ·rw [List.mem_singleton.1 hz]; exact hlt
  ·rw [if_neg hlt] at step
   refine ⟨A ++ [y],[],by simp,?_,by simp,?_⟩
   ·rw [ct step]; simp
   ·intro z hz
    simp at hz
    rw [← hz]
    exact hlt
theorem insO_all {l : List Int} (hl:l.length < 1000000) : bi l 0 (l.length:Int) = some (ri l):=by
 unfold bi
 have e1 : w64 (0 + 1) = 1:=rfl
 rw [e1]
 have main : ∀ (R A : List Int),(A ++ R).Perm l → fa A → ∃ s,aT (aF l 0 (l.length:Int)) ((A.length:Int),A ++ R) = some ((l.length:Int),s) ∧ s.Perm l ∧ fa s:=by
  intro R
  induction R with
  | nil =>
   intro A hp hs
   have hlen : A.length = l.length:=by have:=hp.length_eq; simpa using this
   refine ⟨A,?_,by simpa using hp,hs⟩
   rw [List.append_nil,hlen]
   refine ct ?_
   unfold aF; dsimp only
   rw [show decide ((l.length:Int) < (l.length:Int)) = false from decide_eq_false (by omega)]
   rfl
  | cons x T ih =>
   intro A hp hs
   have hlen : A.length + (T.length + 1) = l.length:=by have:=hp.length_eq; simpa using this
   obtain ⟨B1,B2,hB,hr,h2,h3⟩:=insO_l2 (data0:=l) rfl hl x A.length A T rfl (by omega)
   have hstep : aF l 0 (l.length:Int) ((A.length:Int),A ++ x :: T) = some (.inl (((B1 ++ x :: B2).length : Int),(B1 ++ x :: B2) ++ T)):=by
    unfold aF; dsimp only
    rw [show decide ((A.length:Int) < (l.length:Int)) = true from decide_eq_true (by omega)]
    rw [if_pos rfl,hr,Option.bind_some]
    have hw : w64 ((A.length:Int) + 1) = (A.length:Int) + 1:=eC (by omega) (by omega)
    simp only [hw]
    refine congrArg some (congrArg Sum.inl (Prod.ext ?_ ?_))
    ·simp [hB]; omega
    ·simp
   have hs' : fa (B1 ++ x :: B2):=by
    unfold fa at hs ⊢
    rw [hB,List.pairwise_append] at hs
    obtain ⟨s1,s2,s3⟩:=hs
    have hle : ∀ y ∈ B1,y ≤ x:=by
     intro y hy
     rcases List.eq_nil_or_concat B1 with rfl | ⟨B,z,rfl⟩
     ·cases hy
     ·have hz:=h3 z (by simp)
      rw [List.concat_eq_append] at hy s1
      rcases List.mem_append.1 hy with hy | hy
      ·rw [List.pairwise_append] at s1
       have:=s1.2.2 y hy z (by simp); omega
      ·rw [List.mem_singleton.1 hy]; omega
    rw [List.pairwise_append]
    refine ⟨s1,List.pairwise_cons.2 ⟨fun y hy => by have:=h2 y hy; omega,s2⟩,fun a ha b hb => ?_⟩
    rcases List.mem_cons.1 hb with rfl | hb
    ·exact hle a ha
    ·exact s3 a ha b hb
   have hp' : ((B1 ++ x :: B2) ++ T).Perm l:=by
    refine List.Perm.trans ?_ hp
    rw [hB]
    simp only [List.append_assoc,lca]
    exact List.Perm.append_left B1 (List.perm_middle).symm
   obtain ⟨s,h4,h5,h6⟩:=ih (B1 ++ x :: B2) hp' hs'
   exact ⟨s,by rw [fZ hstep]; exact h4,h5,h6⟩
 rcases l with _ | ⟨x,T⟩
 ·have : aT (aF [] 0 (([]:List Int).length : Int)) (1,[]) = some (1,[]):=by
   refine ct ?_
   unfold aF
   rfl
  rw [this]
  rfl
 ·obtain ⟨s,h1,h2,h3⟩:=main T [x] (by simp) (by simp [fa])
  have h1' : aT (aF (x :: T) 0 ((x :: T).length : Int)) (1,x :: T) = some (((x :: T).length : Int),s):=h1
  rw [h1',Option.bind_some,srtI_eq h2 h3]
theorem pdqO_all {l : List Int} (hl:l.length ≤ 12) (v:Int) : cf l 0 (l.length:Int) v = some (ri l):=by
 unfold cf
 have hstep : bK (0,(l.length:Int),v,true,true,l) = some (.inr (0,(l.length:Int),v,true,true,ri l)):=by
  unfold bK; dsimp only
  have hw : w64 ((l.length:Int) - 0) = (l.length:Int):=by rw [eC (by omega) (by omega)]; omega
  rw [hw,gPo (decide_eq_true (by omega)),insO_all (by omega)]
  rfl
 rw [ct hstep]
 rfl
theorem dP (p0:(List Int)) (res:(List Int)) (h:cO p0 = some res) (W:World) (w0:World) (R:Res) (Aa:Option Addr) (n0_0 ca : Nat) (hn0_0:n0_0 = p0.length) (hW:Ext w0 W [R,aI Aa ca 3 1 n0_0 (encL cI p0)]) :
  Calls Tryz.prog 37 [.slice Aa n0_0 ca].toArray W fun e W2 => e = .returned (.tuple #[]) ∧ n0_0 = res.length ∧ Ext w0 W2 [R,aI Aa ca 3 1 n0_0 (encL cI res)]:=by
 subst hn0_0
 unfold cO at h
 obtain ⟨hg0,h⟩:=gOs h
 obtain rfl:=sI h
 have hlen : p0.length = (ri p0).length:=(srtI_len p0).symm
 refine aM (m:=11) Tryz.func37 rfl rfl (nB rfl) hW (cS (cR (oY rfl (yMS rfl) (oY rfl (bd (us:=[]) dH rfl) (oY rfl (yAI rfl) (oN (eT (cR (oY rfl (yMS rfl) (oY rfl (yMI rfl) (oY rfl (yMI rfl) ?_)))))))))))
 have hg1 : (0:Int) ≤ (p0.length:Int) ∧ (p0.length:Int) ≤ 9223372036854775807:=by omega
 refine oY rfl (ox ui_3 ui_125 hg1 rfl) ?_
 obtain ⟨y2,hy3⟩ : ∃ y2,eu (p0.length:Int) = some y2:=by
  unfold eu fz
  rw [gPo (by omega)]
  exact ⟨_,rfl⟩
 refine oY rfl (yC [.int .u64 (p0.length:Int)] go_74 rfl (fun W2 hW2 => jl (p0.length:Int) y2 hy3 W2 ) rfl) ?_
 have hy5:=pdqO_all hg0 y2
 refine dE 1 [.slice Aa p0.length ca,vI 0,vI (p0.length:Int),vI y2] (fun (_:Unit) => p0.length = (ri p0).length) (fun _ => .tuple #[]) (fun _ => aI Aa ca 3 1 p0.length (encL cI (ri p0))) (fun _ => []) rfl rfl go_73 rfl (fun W2 hW2 => (gJ p0 0 (p0.length:Int) y2 (ri p0) hy5 W2 _ (cD [R,aI Aa ca 3 1 p0.length (encL cI p0)] [1]) Aa p0.length ca rfl hW2).mono (fun e W3 h3 => ⟨(),h3.2.1,h3.1,h3.2.2⟩)) ?_
 rintro - hn6
 try dsimp only [lsz,lss,List.append_nil]
 refine oN ?_
 exact bR (.inr rfl) rfl  (fun W2 hW2 => ⟨rfl,hlen,hW2.take 2⟩)
theorem kv (p0:TR) (p1:Int) (p2:Int) (p3:Int) (p4:Int) (res:((List Int) × Int)) (h:jb p0 p1 p2 p3 p4 = some res) (W:World) (Ab:Option Addr) (n0_1 cb : Nat) (ys0_1:List (Hd × TT)) (hn0_1:n0_1 = p0.fT.length) (hr0_1:Rd W Ab n0_1 cb (encL TTrack_cells2 ys0_1)) (hN0_1:NestW W (fun z : TT => z.fK) TSpan_cells ys0_1 p0.fT) :
  Calls Tryz.prog 9 [.agg #[vI p0.fL,.slice Ab n0_1 cb],vI p1,vI p2,vI p3,vI p4].toArray W fun e W2 => ∃ x : Option Addr × Nat × Nat,x.2.1 = res.1.length ∧ e = .returned (.tuple #[.slice x.1 x.2.1 x.2.2,vI res.2]) ∧ Ext W W2 [aI x.1 x.2.2 3 1 x.2.1 (encL cI res.1)]:=by
 subst hn0_1
 unfold jb at h
 refine ad (m:=77) Tryz.func9 rfl rfl (nB rfl) (cS (cR ?_))
 refine aO [vI p0.fL,.slice Ab p0.fT.length cb] rfl rfl rfl (fun b1 => ?_)
 refine oY rfl (yAS rfl) (oY rfl (yAI rfl) (oN (eT (cS (cR (oY rfl (yN 0 [vI p0.fL,.slice Ab p0.fT.length cb] dl rfl rfl rfl) (oY rfl (yMI rfl) (oY rfl (yMI rfl) (oY rfl (yMI rfl) (oY rfl (yMI rfl) ?_))))))))))
 obtain ⟨y2,hy3,h⟩:=bOs h
 refine oC [.agg #[vI p0.fL,.slice Ab p0.fT.length cb],vI p1,vI p2,vI p3,vI p4] _ _ _ rfl go_7 rfl (fun W2 hW2 => mh p0 p1 p2 p3 p4 y2 hy3 W2 Ab p0.fT.length cb ys0_1 rfl ((RdL.arg hr0_1) W2 hW2) (NestL.at (NestL.arg hN0_1) W2 hW2) W (fun _ => True) (fun W3 hb => ⟨gm hW2.below hb,trivial⟩) ) ?_
 rintro ⟨⟨A6,n8,c7⟩,F10⟩ ⟨hn9,hV11⟩
 replace hn9 : n8 = y2.1.fLegs.length:=hn9; subst hn9
 refine oY rfl (aR rfl) (oY rfl (yE rfl rfl) (oY rfl (yE rfl rfl) ?_))
 refine aB kq rfl (fun b12 => ?_)
 refine bT rfl (yS 2 [.slice A6 y2.1.fLegs.length c7,vI y2.1.fA,vI y2.1.fToll] lY rfl (nB rfl) rfl rfl rfl) (oY rfl (yAI rfl) (oN (eT (cS (cS (cR (oY rfl (yMI rfl) (oY rfl (db rfl rfl) (oN (eT ?_))))))))))
 rcases iOs h with ⟨hp13,h⟩ | ⟨hp13,h⟩
 ·refine cT (vB hp13) (cS (cR (oY rfl (yMI rfl) (oY rfl (yAS rfl) (oY rfl (yAI rfl) (oN (eT (al (aa ?_)))))))))
  obtain rfl:=sI h
  exact bp (.inl rfl) rfl (rVt (v:=.slice none 0 0) rfl) (rVt (v:=vI y2.2) rfl) (fun W2 hW2 => ⟨(none,0,0),rfl,rfl,((hW2.nilrow 3 1).pick 3 rfl)⟩)
 ·refine cF (vB hp13) (cK (eT (cS (cR (oY rfl (yAS rfl) (oN (eT (cS (cS (cR (oY rfl (yFA bu rfl) (oY rfl (yL 0 ee rfl rfl rfl) (oY rfl (bd (us:=[]) fq rfl) (oY rfl (yMI rfl) (oN (eT (cB ?_)))))))))))))))))
  obtain ⟨u17,hl57,h⟩:=bOs h
  refine ci 3 1 ?_
  refine bc (fun (s:(Int × (List Int))) L tm => ∃ (tm0:Nat → Value) (A3_s:Option Addr) (c3_s:Nat) (n3_s:Nat),n3_s = s.2.length ∧ L = [aj b1 24 [vI p0.fL,.slice Ab p0.fT.length cb],F10,aj b12 31 [.slice A6 y2.1.fLegs.length c7,vI y2.1.fA,vI y2.1.fToll],aI A3_s c3_s 3 1 n3_s (encL cI s.2)] ∧ tm = (upd (upd (upd (upd (upd (upd (upd (upd (upd (upd (upd (upd tm0 1 (vI p1)) 2 (vI p2)) 3 (vI p3)) 4 (vI p4)) 5 (.pointer (some ⟨b1,0,none⟩))) 10 (.slice none 0 0)) 11 (vI 0)) 12 (.pointer (some ⟨b12,0,none⟩))) 14 (.slice A3_s n3_s c3_s)) 33 (.slice Ab p0.fT.length cb)) 34 (vI (p0.fT.length:Int))) 35 (vI s.1))) 0 hl57 ⟨_,none,0,0,rfl,rfl,(kp4 (kp4 (kp4 rfl)))⟩ ?_ ?_
  ·rintro s16 L tm st ⟨tm0_s16,A3_s16,c3_s16,n3_s16,rfl,rfl,rfl⟩ h
   unfold kx at h
   refine cS (cR (oY rfl (bm rfl rfl) (oN (eT (cS ?_)))))
   rcases iOs h with ⟨hp18,h⟩ | ⟨hp18,h⟩
   ·refine cT (vB hp18) (cK (eT (cS (cB (cS (cR (oY rfl (yMI rfl) ?_)))))))
    obtain ⟨hg19,h⟩:=gOs h
    refine oY rfl (yI im (by decide) hg19.1 hg19.2 (RdL.arg hr0_1) (eL ak (NestP.hn hN0_1.p rfl)) rfl rfl) ?_
    refine oY rfl (yM (A:=Ab) (j:=(Int.toNat s16.1 * 6)) [vI ((rdL p0.fT s16.1).fID),vI ((rdL p0.fT s16.1).fFrom),vI ((rdL p0.fT s16.1).fTo),vI ((rdL p0.fT s16.1).fLong),vI ((rdL p0.fT s16.1).fToll),.slice ((rdL ys0_1 s16.1).1.1) ((rdL p0.fT s16.1).fK.length) ((rdL ys0_1 s16.1).1.2.2)] jJ (Nat.succ_pos _) (RdL.arg hr0_1) rfl (ja (bU (NestP.snd hN0_1.p s16.1) (NestP.len hN0_1.p hg19.1 (av hg19.2 rfl))).symm (aU ak hg19.1 (av hg19.2 (NestP.hn hN0_1.p rfl))))) ?_
    refine aB iK rfl (fun b20 => ?_)
    refine oY rfl (yAI rfl) (bT rfl (yS 4 [vI ((rdL p0.fT s16.1).fID),vI ((rdL p0.fT s16.1).fFrom),vI ((rdL p0.fT s16.1).fTo),vI ((rdL p0.fT s16.1).fLong),vI ((rdL p0.fT s16.1).fToll),.slice ((rdL ys0_1 s16.1).1.1) ((rdL p0.fT s16.1).fK.length) ((rdL ys0_1 s16.1).1.2.2)] qh rfl (nB rfl) rfl rfl rfl) (oN (eT (cS ?_))))
    obtain ⟨y22,hy23,h⟩:=bOs h
    have hPc_y22:=dZ hy23 hN0_1.p
    obtain ⟨y31,hy32,h⟩:=bOs h
    refine dJ [[],[0],[],[2],[2,3],[],[],[6],[2,3,4,5,6,7],[0,1,2,3,4,5,6,7,8],[],[0,1,2,3,4,5,6,7,8,9,10]] [(none,0,[true,true,true,true,true]),(none,0,[true,true,true,true,true]),(none,0,[true,true,true,true,true]),(none,0,[true,true,true,true,true]),(none,1,[true,true,true,true,true]),(none,0,[true,true,true,true,true,false]),(none,0,[true,true,true,true,true,false]),(none,0,[true,true,true,true,true,false]),(some 5,1,[true,true,true,true,true,true]),(none,0,[true,true,true,true,true,true,true]),(none,1,[true,true,true,true,true,false,false]),(some 7,0,[true,true,true,true,true,true,true,true])] [⟨fun _ => .pointer (some ⟨b1,0 + 0,none⟩),fun _ => noR,fun _ => []⟩,⟨fun _ => vI p0.fL,fun _ => noR,fun _ => []⟩,⟨fun _ => .pointer (some ⟨b1,0 + 1,none⟩),fun _ => noR,fun _ => []⟩,⟨fun _ => .slice Ab p0.fT.length cb,fun _ => noR,fun _ => []⟩,⟨fun ξ21 => .slice (ξ21 4 0).1 y22.length (ξ21 4 0).2.2.1,fun _ => noR,fun ξ21 => [aI (ξ21 4 0).1 (ξ21 4 0).2.2.1 39 6 y22.length (encL TTrack_cells2 ys0_1)]⟩,⟨fun _ => vI s16.1,fun _ => noR,fun _ => []⟩,⟨fun _ => vI s16.1,fun _ => noR,fun _ => []⟩,⟨fun _ => vI (w64 (s16.1 + 1)),fun _ => noR,fun _ => []⟩,⟨fun ξ21 => .slice (ξ21 4 0).1 y31.length (ξ21 4 0).2.2.1,fun ξ21 => aI (ξ21 4 0).1 (ξ21 4 0).2.2.1 39 6 y31.length (encL TTrack_cells2 (List.zip (ξ21 8 0).2.2.2.1 y31)),fun ξ21 => [sy (NestP (fun z : TT => z.fK) (List.zip (ξ21 8 0).2.2.2.1 y31) y31 ∧ ∀ y ∈ (List.zip (ξ21 8 0).2.2.2.1 y31),y ∈ ys0_1)]⟩,⟨fun ξ21 => .agg #[vI p0.fL,.slice (ξ21 4 0).1 y31.length (ξ21 4 0).2.2.1],fun _ => noR,fun _ => []⟩,⟨fun ξ21 => .pointer (some ⟨(ξ21 10 0).2.1,0,none⟩),fun _ => noR,fun ξ21 => [aj (ξ21 10 0).2.1 24 [vI 0,.slice none 0 0]]⟩,⟨fun _ => undef,fun ξ21 => aj (ξ21 10 0).2.1 24 [vI p0.fL,.slice (ξ21 4 0).1 y31.length (ξ21 4 0).2.2.1],fun _ => []⟩] 5 cm (by kernel_rfl) (by kernel_rfl) ⟨⟨fun ξ21 ξ21' h => ⟨rfl,rfl,rfl⟩,fun _ => rfl⟩,⟨fun ξ21 ξ21' h => ⟨rfl,rfl,rfl⟩,fun _ => rfl⟩,⟨fun ξ21 ξ21' h => ⟨rfl,rfl,rfl⟩,fun _ => rfl⟩,⟨fun ξ21 ξ21' h => ⟨rfl,rfl,rfl⟩,fun _ => rfl⟩,⟨fun ξ21 ξ21' h => ⟨by simp only [h 4 (.inl rfl)],rfl,by simp only [h 4 (.inl rfl)]⟩,fun _ => rfl⟩,⟨fun ξ21 ξ21' h => ⟨rfl,rfl,rfl⟩,fun _ => rfl⟩,⟨fun ξ21 ξ21' h => ⟨rfl,rfl,rfl⟩,fun _ => rfl⟩,⟨fun ξ21 ξ21' h => ⟨rfl,rfl,rfl⟩,fun _ => rfl⟩,⟨fun ξ21 ξ21' h => ⟨by simp only [h 4 (.inr rfl)],by simp only [h 4 (.inr rfl),h 8 (.inl rfl)],by simp only [h 8 (.inl rfl)]⟩,fun _ => rfl⟩,⟨fun ξ21 ξ21' h => ⟨by simp only [h 4 (.inr rfl)],rfl,rfl⟩,fun _ => rfl⟩,⟨fun ξ21 ξ21' h => ⟨by simp only [h 10 (.inl rfl)],rfl,by simp only [h 10 (.inl rfl)]⟩,fun _ => rfl⟩,⟨fun ξ21 ξ21' h => ⟨rfl,by simp only [h 4 (.inr rfl),h 10 (.inr rfl)],rfl⟩,fun _ => rfl⟩,trivial⟩ rfl (fun ξ21 => ?_)
    refine bJ rfl (fun L2 => ?_) ?_
    ·dsimp only [aC,lca,lna]
     refine oY rfl (yFA eE rfl) (oN ?_)
     exact ar (fun _ => (none,0,0,[],noR)) rfl (List.append_nil _)
    dsimp only [bw,lsz,lss,lna,lca,List.append_nil]
    refine bJ rfl (fun L2 => ?_) ?_
    ·dsimp only [aC,lca,lna]
     refine oY rfl (yL 0 aV rfl rfl rfl) (oN ?_)
     exact ar (fun _ => (none,0,0,[],noR)) rfl (List.append_nil _)
    dsimp only [bw,lsz,lss,lna,lca,List.append_nil]
    refine bJ rfl (fun L2 => ?_) ?_
    ·dsimp only [aC,lca,lna]
     refine oY rfl (yFA bu rfl) (oN ?_)
     exact ar (fun _ => (none,0,0,[],noR)) rfl (List.append_nil _)
    dsimp only [bw,lsz,lss,lna,lca,List.append_nil]
    refine bJ rfl (fun L2 => ?_) ?_
    ·dsimp only [aC,lca,lna]
     refine oY rfl (yL 0 ee rfl rfl rfl) (oN ?_)
     exact ar (fun _ => (none,0,0,[],noR)) rfl (List.append_nil _)
    dsimp only [bw,lsz,lss,lna,lca,List.append_nil]
    refine bJ rfl (fun L2 => ?_) ?_
    ·dsimp only [aC,lca,lna]
     refine oC [.slice Ab p0.fT.length cb] _ _ _ rfl go_33 rfl (fun W2 hW2 => d5 p0.fT y22 hy23 W2 Ab p0.fT.length cb ys0_1 rfl ((RdL.arg hr0_1) W2 hW2) (NestL.at (NestL.arg hN0_1) W2 hW2)) ?_
     rintro ⟨A26,n28,c27⟩ ⟨hn29,hP30⟩
     replace hn29 : n28 = y22.length:=hn29; subst hn29
     refine oN ?_
     exact ar (fun _ => (A26,0,c27,[],noR)) rfl rfl
    dsimp only [bw,lsz,lss,lna,lca,List.append_nil]
    refine bJ rfl (fun L2 => ?_) ?_
    ·dsimp only [aC,lca,lna]
     refine oY rfl (yMI rfl) (oN ?_)
     exact ar (fun _ => (none,0,0,[],noR)) rfl (List.append_nil _)
    dsimp only [bw,lsz,lss,lna,lca,List.append_nil]
    refine bJ rfl (fun L2 => ?_) ?_
    ·dsimp only [aC,lca,lna]
     refine oY rfl (yMI rfl) (oN ?_)
     exact ar (fun _ => (none,0,0,[],noR)) rfl (List.append_nil _)
    dsimp only [bw,lsz,lss,lna,lca,List.append_nil]
    refine bJ rfl (fun L2 => ?_) ?_
    ·dsimp only [aC,lca,lna]
     refine oY rfl (aX rfl rfl) (oN ?_)
     exact ar (fun _ => (none,0,0,[],noR)) rfl (List.append_nil _)
    dsimp only [bw,lsz,lss,lna,lca,List.append_nil]
    refine bJ rfl (fun L2 => ?_) ?_
    ·dsimp only [aC,lca,lna]
     refine dE 5 [.slice (ξ21 4 0).1 y22.length (ξ21 4 0).2.2.1,vI s16.1,vI (w64 (s16.1 + 1))] (fun x : Nat × List (Hd × TT) => x.1 = y31.length ∧ NestP (fun z : TT => z.fK) x.2 y31 ∧ ∀ y ∈ x.2,y ∈ ys0_1) (fun x => .slice (ξ21 4 0).1 x.1 (ξ21 4 0).2.2.1) (fun x => aI (ξ21 4 0).1 (ξ21 4 0).2.2.1 39 6 x.1 (encL TTrack_cells2 x.2)) (fun _ => []) rfl rfl go_36 rfl (fun W2 hW2 => (gH y22 s16.1 (w64 (s16.1 + 1)) y31 hy32 W2 _ _ (ξ21 4 0).1 y22.length (ξ21 4 0).2.2.1 ys0_1 rfl hPc_y22 (fun y hy W3 hb hR => (PvL.of_nest hN0_1) y hy W3 hb trivial) hW2).mono (fun e W3 h3 => h3)) ?_
     rintro ⟨k33,ys35⟩ ⟨hn34,hP36,hS37⟩
     replace hn34 : k33 = y31.length:=hn34
     subst hn34
     try dsimp only [lsz,lss,List.append_nil]
     obtain ⟨hs38,rfl⟩ : ∃ hs38 : List Hd,ys35 = List.zip hs38 y31:=⟨_,NestP.zip hP36⟩
     refine rg (p:=(NestP (fun z : TT => z.fK) (List.zip hs38 y31) y31 ∧ ∀ y ∈ (List.zip hs38 y31),y ∈ ys0_1)) ⟨hP36,hS37⟩ ?_
     try dsimp only [lna,lca]
     try rw [List.append_nil L2]
     refine oN ?_
     exact ar (fun _ => (none,0,0,hs38,noR)) rfl rfl
    dsimp only [bw,lsz,lss,lna,lca,List.append_nil]
    refine bJ rfl (fun L2 => ?_) ?_
    ·dsimp only [aC,lca,lna]
     refine oY rfl (aL [vI p0.fL,.slice (ξ21 4 0).1 y31.length (ξ21 4 0).2.2.1] [(0,1),(1,1)] me kQ (by kernel_rfl)) ?_
     refine oN ?_
     exact ar (fun _ => (none,0,0,[],noR)) rfl (List.append_nil _)
    dsimp only [bw,lsz,lss,lna,lca,List.append_nil]
    refine bJ rfl (fun L2 => ?_) ?_
    ·dsimp only [aC,lca,lna]
     refine aB kQ rfl (fun b39 => ?_)
     refine oN ?_
     exact ar (fun _ => (none,b39,0,[],noR)) rfl rfl
    dsimp only [bw,lsz,lss,lna,lca,List.append_nil]
    refine qI rfl (fun L2 => ?_) ?_
    ·dsimp only [aC,lca,lna]
     refine bT rfl (yS 7 [vI p0.fL,.slice (ξ21 4 0).1 y31.length (ξ21 4 0).2.2.1] nu rfl (nB rfl) rfl rfl rfl) (oN ?_)
     first | exact bA (fun _ => (none,0,0,[],noR)) rfl | exact bA (fun _ => (none,0,0,[],noR)) (List.append_nil _)
    dsimp only [bw,lsz,lss,lna,lca,List.append_nil]
    refine jm ?_
    refine ex_fact 6 rfl (fun hF => ?_)
    obtain ⟨hP36,hS37⟩:=hF
    refine eT (cS (cR ?_))
    try dsimp only [lna,lca,lsz,lss]
    refine oY rfl (yN 7 [vI p0.fL,.slice (ξ21 4 0).1 y31.length (ξ21 4 0).2.2.1] dl rfl rfl rfl) (oY rfl (yMI rfl) (oY rfl (yMI rfl) (oY rfl (yMI rfl) (oY rfl (yMI rfl) ?_))))
    obtain ⟨y40,hy41,h⟩:=bOs h
    refine oC [.agg #[vI p0.fL,.slice (ξ21 4 0).1 y31.length (ξ21 4 0).2.2.1],vI p1,vI p2,vI p3,vI p4] _ _ _ rfl go_30 rfl (fun W2 hW2 => jF (TR.mk p0.fL y31) p1 p2 p3 p4 y40 hy41 W2 (ξ21 4 0).1 y31.length (ξ21 4 0).2.2.1 (List.zip (ξ21 8 0).2.2.2.1 y31) rfl ((RdL.row 5 rfl) W2 hW2) (NestL.at (PvL.nestL hP36 (PvL.sub (PvL.of_nest hN0_1) hS37) (fun W2 hW2 => ⟨hW2.below,trivial⟩)) W2 hW2) W (fun _ => True) (fun W3 hb => ⟨gm hW2.below hb,trivial⟩) ) ?_
    rintro ⟨⟨A44,n46,c45⟩,F48⟩ ⟨hn47,hV49⟩
    replace hn47 : n46 = y40.1.fLegs.length:=hn47; subst hn47
    try dsimp only [lna,lca,lsz,lss]
    refine oY rfl (aR rfl) (oY rfl (yE rfl rfl) (oY rfl (yE rfl rfl) ?_))
    refine aB kq rfl (fun b50 => ?_)
    try dsimp only [lna,lca,lsz,lss]
    refine bT rfl (yS 9 [.slice A44 y40.1.fLegs.length c45,vI y40.1.fA,vI y40.1.fToll] lY rfl (nB rfl) rfl rfl rfl) (oY rfl (yAB rfl) (oN (eT (cS (cR (oY rfl (yMB rfl) (oY rfl (bM rfl) (oY rfl (yMB rfl) ?_))))))))
    refine oJ 6 (fun tm0 => (upd (upd (upd (upd (upd (upd (upd (upd (upd (upd (upd (upd (upd (upd (upd (upd (upd (upd (upd tm0 1 (vI p1)) 2 (vI p2)) 3 (vI p3)) 4 (vI p4)) 5 (.pointer (some ⟨b1,0,none⟩))) 10 (.slice none 0 0)) 11 (vI 0)) 12 (.pointer (some ⟨b12,0,none⟩))) 14 (.slice A3_s16 s16.2.length c3_s16)) 33 (.slice Ab p0.fT.length cb)) 34 (vI (p0.fT.length:Int))) 35 (vI s16.1)) 36 (.bool (decide (s16.1 < (p0.fT.length:Int))))) 16 (.pointer (some ⟨b20,0,none⟩))) 15 (vI s16.1)) 17 (.pointer (some ⟨(ξ21 10 0).2.1,0,none⟩))) 18 (.pointer (some ⟨b50,0,none⟩))) 19 (.bool y40.2)) 67 (.bool ((!y40.2) || (y40.1.fA != y2.1.fA))))) (fun tm0 => ?_) (fun key => ?_)
    ·refine oN (eT ?_)
     rcases iOs h with ⟨hp52,h⟩ | ⟨hp52,h⟩
     ·refine cT (vB hp52) (cR (oY rfl (yMS rfl) (oY rfl (yFA ii rfl) (oY rfl (yL 4 aV rfl rfl rfl) ?_))))
      refine aG 1 (encL cI [(rdL p0.fT s16.1).fID]) _ nF dH l5 pn (by decide) (by decide) (by kernel_rfl) (eL aJ rfl) rfl (fun b53 => ?_)
      try dsimp only [lna,lca,lsz,lss]
      obtain ⟨hg56,h⟩:=gOs h
      refine bn 3 dH l5 pn rfl rfl rfl (RdL.row 10 rfl) (eL aJ rfl) (bO ou _) (bW hg56 (by decide)) rfl (fun A54 c55 => ?_)
      refine oY rfl (yAS rfl) (oN (aw (eT (cR (oY rfl (aX rfl rfl) (oY rfl (yMI rfl) (oN (aQ 4 ?_))))))))
      obtain rfl:=sI h
      exact eN ⟨_,A54,c55,(s16.2.length + 1),(dT rfl rfl),rfl,(kp4 (kp4 (kp4 rfl)))⟩
     ·refine cF (vB hp52) (cK (aw (eT (cR (oY rfl (aX rfl rfl) (oY rfl (yMI rfl) (oN (aQ 4 ?_))))))))
      obtain rfl:=sI h
      exact eN ⟨_,A3_s16,c3_s16,s16.2.length,rfl,rfl,(kp4 (kp4 (kp4 rfl)))⟩
    ·rcases aq (!y40.2) with hp51 | hp51
     ·refine oSk (sF rfl rfl rfl rfl hp51) (oSk (sF rfl rfl rfl rfl hp51) (oSk (sF rfl rfl rfl rfl hp51) (oSk (sF rfl rfl rfl rfl hp51) (oSk (sF rfl rfl rfl rfl hp51) (oY rfl (ae (vB hp51) rfl) ?_)))))
      exact key _ _ (keep (keep (keep (keep (keep (keep (keep (keep (keep (keep (keep (keep (keep (keep (keep (keep (keep (keep (keep rfl rfl) rfl) rfl) rfl) rfl) rfl) rfl) rfl) rfl) rfl) rfl) rfl) rfl) rfl) rfl) rfl) rfl) rfl) (vB (iI hp51)))
     ·refine oY (sT rfl rfl rfl rfl hp51) (yFA mS rfl) (oY (sT rfl rfl rfl rfl hp51) (yL 9 aV rfl rfl rfl) (oY (sT rfl rfl rfl rfl hp51) (yFA mS rfl) (oY (sT rfl rfl rfl rfl hp51) (yL 2 aV rfl rfl rfl) (oY (sT rfl rfl rfl rfl hp51) (db rfl rfl) (oY rfl (ag (vB hp51) rfl) ?_)))))
      exact key _ _ (keep (keep (keep (keep (keep (keep (keep (keep (keep (keep (keep (keep (keep (keep (keep (keep (keep (keep (keep rfl rfl) rfl) rfl) rfl) rfl) rfl) rfl) rfl) rfl) rfl) rfl) rfl) rfl) rfl) rfl) rfl) rfl) rfl) (vB (iH hp51)))
   ·refine cF (vB hp18) (aH (ah ?_))
    obtain rfl:=sI h
    exact ax ⟨rfl,_,A3_s16,c3_s16,s16.2.length,rfl,rfl,(kp4 (kp4 (kp4 rfl)))⟩
  ·intro e L tm hJ
   obtain ⟨rfl,tm0_u17,A3_u17,c3_u17,n3_u17,rfl,rfl,rfl⟩:=hJ
   refine ⟨(by intro hc; cases hc),?_⟩
   refine ac (eT (cS (cR (oY rfl (yMS rfl) ?_))))
   obtain ⟨y58,hy59,h⟩:=bOs h
   refine dE 3 [.slice A3_u17 u17.2.length c3_u17] (fun (_:Unit) => u17.2.length = y58.length) (fun _ => .tuple #[]) (fun _ => aI A3_u17 c3_u17 3 1 u17.2.length (encL cI y58)) (fun _ => []) rfl rfl go_37 rfl (fun W2 hW2 => (dP u17.2 y58 hy59 W2 _ (cD [aj b1 24 [vI p0.fL,.slice Ab p0.fT.length cb],F10,aj b12 31 [.slice A6 y2.1.fLegs.length c7,vI y2.1.fA,vI y2.1.fToll],aI A3_u17 c3_u17 3 1 u17.2.length (encL cI u17.2)] [3]) A3_u17 u17.2.length c3_u17 rfl hW2).mono (fun e W3 h3 => ⟨(),h3.2.1,h3.1,h3.2.2⟩)) ?_
   rintro - hn60
   try dsimp only [lsz,lss,List.append_nil]
   refine oN (eT (cS (cR (oY rfl (yMS rfl) (oY rfl (yAS rfl) (oY rfl (yAI rfl) (oN (eT (al ?_)))))))))
   obtain rfl:=sI h
   exact bp (.inl rfl) rfl (rVt (v:=.slice A3_u17 u17.2.length c3_u17) rfl) (rVt (v:=vI 0) rfl) (fun W2 hW2 => ⟨(A3_u17,u17.2.length,c3_u17),hn60,rfl,(hW2.pick 3 rfl)⟩)
theorem lg (p0:TT) (p1:Int) (res:(Int × Int)) (h:gO p0 p1 = some res) (W:World) (A0_5:Option Addr) (n0_5 c0_5 : Nat) (hn0_5:n0_5 = p0.fK.length) (hr0_5:Rd W A0_5 n0_5 c0_5 (encL TSpan_cells p0.fK)) :
  Calls Tryz.prog 11 [.agg #[vI p0.fID,vI p0.fFrom,vI p0.fTo,vI p0.fLong,vI p0.fToll,.slice A0_5 n0_5 c0_5],vI p1].toArray W fun e W2 => e = .returned (.tuple #[vI res.1,vI res.2]) ∧ Ext W W2 []:=by
 subst hn0_5
 unfold gO at h
 refine ad (m:=26) Tryz.func11 rfl rfl (nB rfl) (cS (cR ?_))
 refine aO [vI p0.fID,vI p0.fFrom,vI p0.fTo,vI p0.fLong,vI p0.fToll,.slice A0_5 p0.fK.length c0_5] rfl rfl rfl (fun b1 => ?_)
 refine oY rfl (yAI rfl) (oY rfl (yAI rfl) (oN (eT (cS (cS (cR (oY rfl (yFA cg rfl) (oY rfl (yL 0 io rfl rfl rfl) ?_))))))))
 obtain ⟨y2,hy3,h⟩:=bOs h
 refine oY rfl (yC [.slice A0_5 p0.fK.length c0_5] go_38 rfl (fun W2 hW2 => ku p0.fK y2 hy3 W2 A0_5 p0.fK.length c0_5 rfl ((RdL.arg hr0_5) W2 hW2)) rfl) (oY rfl (bM rfl) (oY rfl (yMB rfl) ?_))
 obtain ⟨b5,hb6,h⟩:=bOs h
 refine oJ 4 (fun tm0 => (upd (upd (upd (upd (upd tm0 1 (vI p1)) 2 (.pointer (some ⟨b1,0,none⟩))) 4 (vI 0)) 5 (vI 0)) 16 (.bool b5))) (fun tm0 => ?_) (fun key => ?_)
 ·refine oN (eT ?_)
  rcases iOs h with ⟨hp7,h⟩ | ⟨hp7,h⟩
  ·refine cT (vB hp7) (cS (cR (oY rfl (yAI rfl) (oY rfl (yAI rfl) (oN (eT (al (aa ?_))))))))
   obtain rfl:=sI h
   exact bp (.inl rfl) rfl (rVt (v:=vI 0) rfl) (rVt (v:=vI 1) rfl) (fun W2 hW2 => ⟨rfl,hW2.none⟩)
  ·refine cF (vB hp7) (cK (eT (cS (cR (oY rfl (yN 0 [vI p0.fID,vI p0.fFrom,vI p0.fTo,vI p0.fLong,vI p0.fToll,.slice A0_5 p0.fK.length c0_5] jJ rfl rfl rfl) (oY rfl (yMI rfl) ?_))))))
   obtain ⟨y8,hy9,h⟩:=bOs h
   refine oY rfl (yC [.agg #[vI p0.fID,vI p0.fFrom,vI p0.fTo,vI p0.fLong,vI p0.fToll,.slice A0_5 p0.fK.length c0_5],vI p1] go_39 rfl (fun W2 hW2 => lD p0 p1 y8 hy9 W2 A0_5 p0.fK.length c0_5 rfl ((RdL.arg hr0_5) W2 hW2)) rfl) (oY rfl (aR rfl) (oY rfl (yE rfl rfl) (oY rfl (yE rfl rfl) (oY rfl (yAI rfl) (oY rfl (yAB rfl) (oN (eT (cS (cS (cR (oY rfl (yMB rfl) (oY rfl (bM rfl) (oN (eT ?_))))))))))))))
   rcases iOs h with ⟨hp10,h⟩ | ⟨hp10,h⟩
   ·refine cT (vB hp10) (cS (cR (oY rfl (yAI rfl) (oY rfl (yAI rfl) (oN (eT (al (aa ?_))))))))
    obtain rfl:=sI h
    exact bp (.inl rfl) rfl (rVt (v:=vI 0) rfl) (rVt (v:=vI 5) rfl) (fun W2 hW2 => ⟨rfl,hW2.none⟩)
   ·refine cF (vB hp10) (cK (eT (cS (cR (oY rfl (yMI rfl) (oY rfl (yAI rfl) (oY rfl (yAI rfl) (oN (eT (al ?_))))))))))
    obtain rfl:=sI h
    exact bp (.inl rfl) rfl (rVt (v:=vI y8.1) rfl) (rVt (v:=vI 0) rfl) (fun W2 hW2 => ⟨rfl,hW2.none⟩)
 ·clear h; rcases iOs hb6 with ⟨hp4,h⟩ | ⟨hp4,h⟩
  ·refine oSk (sF rfl rfl rfl rfl hp4) (oSk (sF rfl rfl rfl rfl hp4) (oSk (sF rfl rfl rfl rfl hp4) (oY rfl (ae (vB hp4) rfl) ?_)))
   obtain rfl:=sI h
   exact key _ _ (kp4 (kp rfl))
  ·refine oY (sT rfl rfl rfl rfl hp4) (yMI rfl) ?_
   obtain ⟨y11,hy12,h⟩:=bOs h
   refine oY (sT rfl rfl rfl rfl hp4) (yC [vI p1] oM rfl (fun W2 hW2 => cV p1 y11 hy12 W2 ) rfl) (oY (sT rfl rfl rfl rfl hp4) (bM rfl) (oY rfl (ag (vB hp4) rfl) ?_))
   obtain rfl:=sI h
   exact key _ _ (kp4 (kp rfl))
theorem le  (res:TR) (h:g6 = some res) (W:World) (wb:World) (Hb:World → Prop) (hB:∀ W3,Below W.heap.size W W3 → Below wb.heap.size wb W3 ∧ Hb W3) :
  Calls Tryz.prog 17 [].toArray W fun e W2 => ∃ x : ((Option Addr × Nat × Nat) × (List (Hd × TT)) × Res),(x.1.2.1 = res.fT.length ∧ NestP (fun z : TT => z.fK) x.2.1 res.fT ∧ PvL (fun z : TT => z.fK) TSpan_cells wb (fun W4 => Hb W4 ∧ Res.holds x.2.2 W4) x.2.1) ∧ e = .returned (.agg #[vI res.fL,.slice x.1.1 x.1.2.1 x.1.2.2]) ∧ Ext W W2 [aI x.1.1 x.1.2.2 39 6 x.1.2.1 (encL TTrack_cells2 x.2.1),x.2.2]:=by
 unfold g6 at h
 refine ad (m:=9) Tryz.func17 rfl rfl (nB rfl) (cS (cR ?_))
 refine aB kQ rfl (fun b1 => ?_)
 refine oN (eT (cS (cR ?_)))
 refine oY rfl (aL [vI 1,vI 0,vI 1,vI 5,vI 0,.slice none 0 0] [(0,1),(1,1),(2,1),(3,1),(4,1),(5,1)] qw iK (by kernel_rfl)) ?_
 refine oY rfl (aL [vI 8,vI 20] [(0,1),(1,1)] px ij (by kernel_rfl)) ?_
 refine aG 1 (encL TSpan_cells [(TSpan.mk 8 20)]) _ l1 eg ij kP (by decide) (by decide) (by kernel_rfl) (eL ab rfl) rfl (fun b2 => ?_)
 refine oY rfl (aL [vI 2,vI 1,vI 2,vI 5,vI 0,.slice (some ⟨b2,0,none⟩) 1 1] [(0,1),(1,1),(2,1),(3,1),(4,1),(5,1)] qw iK (by kernel_rfl)) ?_
 refine oY rfl (aL [vI 3,vI 0,vI 2,vI 9,vI 6,.slice none 0 0] [(0,1),(1,1),(2,1),(3,1),(4,1),(5,1)] qw iK (by kernel_rfl)) ?_
 refine oY rfl (aL [vI 4,vI 1,vI 2,vI 8,vI 2,.slice none 0 0] [(0,1),(1,1),(2,1),(3,1),(4,1),(5,1)] qw iK (by kernel_rfl)) ?_
 refine mJ ?_
 refine gb 2 1 (by decide) rfl rfl ?_
 refine aG 4 (encL TTrack_cells2 [((none,0,0),(TT.mk 1 0 1 5 0 ([]:(List TSpan)))),(((some ⟨b2,0,none⟩),1,1),(TT.mk 2 1 2 5 0 [(TSpan.mk 8 20)])),((none,0,0),(TT.mk 3 0 2 9 6 ([]:(List TSpan)))),((none,0,0),(TT.mk 4 1 2 8 2 ([]:(List TSpan))))]) _ mc_39_4 fq iK pR (by decide) (by decide) (by kernel_rfl) (eL ak rfl) rfl (fun b3 => ?_)
 refine oY rfl (aL [vI 3,.slice (some ⟨b3,0,none⟩) 4 4] [(0,1),(1,1)] me kQ (by kernel_rfl)) ?_
 refine bT rfl (yS 0 [vI 3,.slice (some ⟨b3,0,none⟩) 4 4] nu rfl (nB rfl) rfl rfl rfl) (oN (eT (al ?_)))
 obtain rfl:=sI h
 exact ap (.inl rfl) rfl (bf 0 [vI 3,.slice (some ⟨b3,0,none⟩) 4 4] dl rfl rfl rfl) (fun W2 hW2 => ⟨(((some ⟨b3,0,none⟩),4,4),[((none,0,0),(TT.mk 1 0 1 5 0 ([]:(List TSpan)))),(((some ⟨b2,0,none⟩),1,1),(TT.mk 2 1 2 5 0 [(TSpan.mk 8 20)])),((none,0,0),(TT.mk 3 0 2 9 6 ([]:(List TSpan)))),((none,0,0),(TT.mk 4 1 2 8 2 ([]:(List TSpan))))],m4 noR (aI (some ⟨b2,0,none⟩) 1 26 2 1 (encL TSpan_cells [(TSpan.mk 8 20)]))),⟨rfl,(NestP.cons (sel:=(fun z : TT => z.fK)) rfl (NestP.cons (sel:=(fun z : TT => z.fK)) rfl (NestP.cons (sel:=(fun z : TT => z.fK)) rfl (NestP.cons (sel:=(fun z : TT => z.fK)) rfl NestP.nil)))),(PvL.cons (Pv.mono (Hb:=Hb) (Pv.nil rfl) (fun _ _ h => h.1)) (PvL.cons (fun _ _ h => dt h.2.2.1) (PvL.mono (Hb:=(fun W4 => Hb W4 ∧ Res.holds noR W4)) (PvL.cons (Pv.mono (Hb:=Hb) (Pv.nil rfl) (fun _ _ h => h.1)) (PvL.cons (Pv.mono (Hb:=Hb) (Pv.nil rfl) (fun _ _ h => h.1)) PvL.nil)) (fun _ _ h => ⟨h.1,h.2.1⟩))))⟩,rfl,hW2.pickL [3,2] (by decide) rfl⟩)
theorem lF  (res:TY) (h:gX = some res) (W:World)  :
  Calls Tryz.prog 18 [].toArray W fun e W2 => ∃ x : ((Option Addr × Nat × Nat) × (Option Addr × Nat × Nat)),(x.1.2.1 = res.fB.length ∧ x.2.2.1 = res.fOrders.length) ∧ e = .returned (.agg #[.slice x.1.1 x.1.2.1 x.1.2.2,.slice x.2.1 x.2.2.1 x.2.2.2]) ∧ Ext W W2 [aI x.1.1 x.1.2.2 94 3 x.1.2.1 (encL aD res.fB),aI x.2.1 x.2.2.2 96 5 x.2.2.1 (encL aA res.fOrders)]:=by
 unfold gX at h
 refine ad (m:=12) Tryz.func18 rfl rfl (nB rfl) (cS (cR ?_))
 refine aB qo rfl (fun b1 => ?_)
 refine oN (eT (cS (cR ?_)))
 refine oY rfl (aL [vI 1,vI 10,vI 3] [(0,1),(1,1),(2,1)] ust_94 nL (by kernel_rfl)) ?_
 refine oY rfl (aL [vI 2,vI 11,vI 5] [(0,1),(1,1),(2,1)] ust_94 nL (by kernel_rfl)) ?_
 refine aG 2 (encL aD [(TBay.mk 1 10 3),(TBay.mk 2 11 5)]) _ mc_94_2 jr nL by_94 (by decide) (by decide) (by kernel_rfl) (eL aK rfl) rfl (fun b2 => ?_)
 refine oY rfl (aL [vI 10,vI 11] [(0,1),(1,1)] px ij (by kernel_rfl)) ?_
 refine oY rfl (aL [vI 7,vI 10,vI 11,vI 3,vI 5] [(0,1),(1,2),(3,1),(4,1)] rK nJ (by kernel_rfl)) ?_
 refine oY rfl (aL [vI 11,vI 12] [(0,1),(1,1)] px ij (by kernel_rfl)) ?_
 refine oY rfl (aL [vI 8,vI 11,vI 12,vI 4,vI 9] [(0,1),(1,2),(3,1),(4,1)] rK nJ (by kernel_rfl)) ?_
 refine oY rfl (aL [vI 10,vI 11] [(0,1),(1,1)] px ij (by kernel_rfl)) ?_
 refine oY rfl (aL [vI 9,vI 10,vI 11,vI 4,vI 7] [(0,1),(1,2),(3,1),(4,1)] rK nJ (by kernel_rfl)) ?_
 refine aG 3 (encL aA [(TO.mk 7 (TSpan.mk 10 11) 3 5),(TO.mk 8 (TSpan.mk 11 12) 4 9),(TO.mk 9 (TSpan.mk 10 11) 4 7)]) _ mc_96_3 kN nJ by_96 (by decide) (by decide) (by kernel_rfl) (eL au rfl) rfl (fun b3 => ?_)
 refine oY rfl (aL [.slice (some ⟨b2,0,none⟩) 2 2,.slice (some ⟨b3,0,none⟩) 3 3] [(0,1),(1,1)] sO qo (by kernel_rfl)) ?_
 refine bT rfl (yS 0 [.slice (some ⟨b2,0,none⟩) 2 2,.slice (some ⟨b3,0,none⟩) 3 3] sz_57 rfl (nB rfl) rfl rfl rfl) (oN (eT (al ?_)))
 obtain rfl:=sI h
 exact ap (.inl rfl) rfl (bf 0 [.slice (some ⟨b2,0,none⟩) 2 2,.slice (some ⟨b3,0,none⟩) 3 3] dc rfl rfl rfl) (fun W2 hW2 => ⟨(((some ⟨b2,0,none⟩),2,2),((some ⟨b3,0,none⟩),3,3)),⟨rfl,rfl⟩,rfl,hW2.pickL [1,2] (by decide) rfl⟩)
theorem dF (p0:(List Int)) (res:(List Int)) (h:cz p0 = some res) (W:World) (Aa:Option Addr) (n0_0 ca : Nat) (hn0_0:n0_0 = p0.length) (hr0_0:Rd W Aa n0_0 ca (encL cI p0)) :
  Calls Tryz.prog 50 [.slice Aa n0_0 ca].toArray W fun e W2 => ∃ x : Option Addr × Nat × Nat,x.2.1 = res.length ∧ e = .returned (.slice x.1 x.2.1 x.2.2) ∧ Ext W W2 [aI x.1 x.2.2 3 1 x.2.1 (encL cI res)]:=by
 subst hn0_0
 unfold cz at h
 refine ad (m:=8) Tryz.func50 rfl rfl (nB rfl) (cS (cR (oY rfl (yAS rfl) (oN (eT (cS (cS (cR (oY rfl (yMS rfl) (oY rfl (nb dH rfl rfl) (oN (eT ?_))))))))))))
 rcases aq (Option.isNone Aa) with hp1 | hp1
 ·refine cT (vB hp1) ?_
  have z6:=ng (Option.isNone_iff_eq_none.1 hp1 ▸ hr0_0) aJ (by decide)
  replace h:=(gOs h).2
  rw [z6] at h
  refine cS (cR (oY rfl (yAS rfl) (oN (eT (al (aa ?_))))))
  obtain rfl:=sI h
  exact ap (.inl rfl) rfl (rVt (v:=.slice none 0 0) rfl) (fun W2 hW2 => ⟨(none,0,0),rfl,rfl,((hW2.nilrow 3 1).pick 0 rfl)⟩)
 ·refine cF (vB hp1) (cK (eT (cS (cR ?_))))
  refine dL cI dH l5 pn rfl (fun b2 => ?_)
  refine oY rfl (yMS rfl) ?_
  obtain ⟨hg5,h⟩:=gOs h
  refine bn 0 dH l5 pn rfl rfl rfl (RdL.arg hr0_0) (eL aJ rfl) (bO ou _) (bW hg5 (by decide)) rfl (fun A3 c4 => ?_)
  refine oY rfl (yAS rfl) (oN (eT (al ?_)))
  obtain rfl:=sI h
  exact ap (.inl rfl) rfl (rVt (v:=.slice A3 (0 + p0.length) c4) rfl) (fun W2 hW2 => ⟨(A3,(0 + p0.length),c4),(dT rfl rfl),rfl,(hW2.pick 0 rfl)⟩)
theorem mr (p0:TR) (p1:Int) (p2:Int) (res:(TTimes × Int)) (h:jd p0 p1 p2 = some res) (W:World) (Ab:Option Addr) (n0_1 cb : Nat) (ys0_1:List (Hd × TT)) (hn0_1:n0_1 = p0.fT.length) (hr0_1:Rd W Ab n0_1 cb (encL TTrack_cells2 ys0_1)) (hN0_1:NestW W (fun z : TT => z.fK) TSpan_cells ys0_1 p0.fT) (wb:World) (Hb:World → Prop) (hB:∀ W3,Below W.heap.size W W3 → Below wb.heap.size wb W3 ∧ Hb W3) :
  Calls Tryz.prog 19 [.agg #[vI p0.fL,.slice Ab n0_1 cb],vI p1,vI p2].toArray W fun e W2 => ∃ x : ((Option Addr × Nat × Nat) × (List (Hd × (List Int))) × Res),(x.1.2.1 = res.1.fH.length ∧ NestP (fun z : (List Int) => z) x.2.1 res.1.fH ∧ PvL (fun z : (List Int) => z) cI wb (fun W4 => Hb W4 ∧ Res.holds x.2.2 W4) x.2.1) ∧ e = .returned (.tuple #[.agg #[.slice x.1.1 x.1.2.1 x.1.2.2],vI res.2]) ∧ Ext W W2 [aI x.1.1 x.1.2.2 40 1 x.1.2.1 (encL dB x.2.1),x.2.2]:=by
 subst hn0_1
 unfold jd at h
 refine ad (m:=43) Tryz.func19 rfl rfl (nB rfl) (cS (cR ?_))
 refine aO [vI p0.fL,.slice Ab p0.fT.length cb] rfl rfl rfl (fun b1 => ?_)
 refine aB ze_61 rfl (fun b2 => ?_)
 refine oY rfl (yAI rfl) (oN (eT (cS (cS (cR (oY rfl (yN 0 [vI p0.fL,.slice Ab p0.fT.length cb] dl rfl rfl rfl) (oY rfl (yMI rfl) (oY rfl (yMI rfl) (oY rfl (yMI rfl) ?_)))))))))
 obtain ⟨y3,hy4,h⟩:=bOs h
 refine oY rfl (yC [.agg #[vI p0.fL,.slice Ab p0.fT.length cb],vI p1,vI p1,vI p2,vI 0] go_29 rfl (fun W2 hW2 => gF p0 p1 p1 p2 0 y3 hy4 W2 Ab p0.fT.length cb ys0_1 rfl ((RdL.arg hr0_1) W2 hW2) (NestL.at (NestL.arg hN0_1) W2 hW2)) rfl) (oY rfl (yAI rfl) (oN (eT (cS (cR (oY rfl (yMI rfl) (oY rfl (db rfl rfl) (oN (eT ?_)))))))))
 rcases iOs h with ⟨hp5,h⟩ | ⟨hp5,h⟩
 ·refine cT (vB hp5) (cS (cR ?_))
  refine oY rfl (aL [.slice none 0 0] [(0,1)] ust_61 ze_61 (by kernel_rfl)) ?_
  refine oY rfl (yMI rfl) (bT rfl (yS 1 [.slice none 0 0] sz_61 rfl (nB rfl) rfl rfl rfl) (oY rfl (yAI rfl) (oN (eT (al (aa ?_))))))
  obtain rfl:=sI h
  exact bp (.inl rfl) rfl (bf 1 [.slice none 0 0] ag_61 rfl rfl rfl) (rVt (v:=vI y3) rfl) (fun W2 hW2 => ⟨((none,0,0),[],noR),⟨rfl,NestP.nil,PvL.nil⟩,rfl,(hW2.nilrow 40 1).addNo.pickL [2,3] (by decide) rfl⟩)
 ·refine cF (vB hp5) (cK (eT (cS (cR (oY rfl (yN 0 [vI p0.fL,.slice Ab p0.fT.length cb] dl rfl rfl rfl) (oY rfl (yMI rfl) (oY rfl (yMI rfl) ?_)))))))
  obtain ⟨y6,hy7,h⟩:=bOs h
  refine lv [.agg #[vI p0.fL,.slice Ab p0.fT.length cb],vI p1,vI p2] _ _ rfl go_48 rfl (fun W2 hW2 => kz p0 p1 p2 y6 hy7 W2 Ab p0.fT.length cb ys0_1 rfl ((RdL.arg hr0_1) W2 hW2) (NestL.at (NestL.arg hN0_1) W2 hW2)) ?_
  rintro b8
  refine oY rfl (ed rfl) (oN (eT (cS (cR ?_))))
  refine aB ze_61 rfl (fun b9 => ?_)
  refine oN (eT (cS (cS (cR (oY rfl (yFA eE rfl) (oY rfl (yL 0 aV rfl rfl rfl) (oY rfl (yMI rfl) (oN (eT (cB ?_))))))))))
  obtain ⟨u13,hl30,h⟩:=bOs h
  refine ci 40 1 (ci 40 1 (kc (kc ?_)))
  refine bc (fun (s:(Int × (List (List Int)))) L tm => ∃ (tm0:Nat → Value) (A5_s:Option Addr) (c5_s:Nat) (n5_s:Nat) (ys5_s:List (Hd × (List Int))) (F5_s:Res),n5_s = s.2.length ∧ NestP (fun z : (List Int) => z) ys5_s s.2 ∧ PvL (fun z : (List Int) => z) cI wb (fun W4 => Hb W4 ∧ Res.holds F5_s W4) ys5_s ∧ L = [aj b1 24 [vI p0.fL,.slice Ab p0.fT.length cb],aj b2 61 [.slice none 0 0],mapV Tryz.prog 127 cl bq bY (Tl.mk 0 (Ts.mk 0 0) (TLeg.mk 0 0) false) b8 y6,aj b9 61 [.slice A5_s n5_s c5_s],aI none 0 40 1 0 (encL dB ([]:List (Hd × (List Int)))),aI A5_s c5_s 40 1 n5_s (encL dB ys5_s),noR,F5_s] ∧ tm = (upd (upd (upd (upd (upd (upd tm0 6 (.pointer (some ⟨b2,0,none⟩))) 7 (vI 0)) 9 (.map (some b8))) 10 (.pointer (some ⟨b9,0,none⟩))) 27 (vI p0.fL)) 28 (vI s.1))) 0 hl30 ⟨_,none,0,0,([]:List (Hd × (List Int))),noR,rfl,NestP.nil,(PvL.mono (Hb:=Hb) PvL.nil (fun _ _ h => h.1)),rfl,(kp4 (kp (kp rfl)))⟩ ?_ ?_
  ·rintro s12 L tm st ⟨tm0_s12,A5_s12,c5_s12,n5_s12,ys5_s12,F5_s12,rfl,hP5_s12,hV5_s12,rfl,rfl⟩ h
   unfold ji at h
   refine cS (cR ?_)
   try dsimp only [lna,lca,lsz,lss]
   refine oY rfl (bm rfl rfl) (oN (eT (cS ?_)))
   rcases iOs h with ⟨hp14,h⟩ | ⟨hp14,h⟩
   ·refine cT (vB hp14) (cK (eT (cS (cB (cS (cR (oY rfl (yMI rfl) (oY rfl (yAI rfl) (oN (eT (cS (cR (oY rfl (cG rfl) (oY rfl (yMI rfl) ?_))))))))))))))
    obtain ⟨y15,hy16,h⟩:=bOs h
    refine oC [.map (some b8),vI s12.1] _ _ _ rfl go_49 rfl (fun W2 hW2 => jp y6 s12.1 y15 hy16 W2 b8 ((MpL.own 2 rfl) W2 hW2)) ?_
    rintro - hl17
    try dsimp only [List.append_nil]
    refine aB qE rfl (fun b18 => ?_)
    try dsimp only [lna,lca,lsz,lss]
    refine bT rfl (pm 8 (xs:=(List.replicate 61 0)) (xs':=y15) qp List.length_replicate hl17 rfl rfl rfl) (oN (eT ?_))
    obtain ⟨y20,hy21,h⟩:=bOs h
    obtain ⟨hg29,h⟩:=gOs h
    refine dJ [[],[0],[],[2],[2,3],[0,1,2,3,4],[0,1,2,3,4,5],[0,1,2,3,4,5,6]] [(none,0,[true,true,true,true,true,true,true,false,true]),(none,0,[true,true,true,true,true,true,true,false,true]),(none,0,[true,true,true,true,true,true,true,true,true]),(some 7,1,[true,true,true,true,true,true,true,true,true]),(none,1,[true,true,true,true,true,true,true,true,true,true]),(some 5,0,[true,true,true,true,true,true,true,true,true,true,true]),(none,0,[true,true,true,true,true,true,true,true,true,true,true]),(some 3,0,[true,true,true,true,true,true,true,true,true,true,true])] [⟨fun _ => .pointer (some ⟨b9,0 + 0,none⟩),fun _ => noR,fun _ => []⟩,⟨fun _ => .slice A5_s12 s12.2.length c5_s12,fun _ => noR,fun _ => []⟩,⟨fun _ => .slice (some ⟨b18,0,none⟩) 61 61,fun _ => noR,fun _ => []⟩,⟨fun ξ19 => .slice (ξ19 3 0).1 y20.length (ξ19 3 0).2.2.1,fun ξ19 => m4 F5_s12 (aI (ξ19 3 0).1 (ξ19 3 0).2.2.1 3 1 y20.length (encL cI y20)),fun _ => [noR]⟩,⟨fun ξ19 => .slice (some ⟨(ξ19 4 0).2.1,0,none⟩) 1 1,fun _ => noR,fun ξ19 => [aI (some ⟨(ξ19 4 0).2.1,0,none⟩) 1 40 1 1 (encL dB [(((ξ19 3 0).1,y20.length,(ξ19 3 0).2.2.1),y20)])]⟩,⟨fun ξ19 => .slice (ξ19 5 0).1 (s12.2.length + 1) (ξ19 5 0).2.2.1,fun ξ19 => aI (ξ19 5 0).1 (ξ19 5 0).2.2.1 40 1 (s12.2.length + 1) (encL dB (ys5_s12 ++ [(((ξ19 3 0).1,y20.length,(ξ19 3 0).2.2.1),y20)])),fun _ => []⟩,⟨fun _ => .pointer (some ⟨b9,0 + 0,none⟩),fun _ => noR,fun _ => []⟩,⟨fun _ => undef,fun ξ19 => aj b9 61 [.slice (ξ19 5 0).1 (s12.2.length + 1) (ξ19 5 0).2.2.1],fun _ => []⟩] 9 cm (by kernel_rfl) (by kernel_rfl) ⟨⟨fun ξ19 ξ19' h => ⟨rfl,rfl,rfl⟩,fun _ => rfl⟩,⟨fun ξ19 ξ19' h => ⟨rfl,rfl,rfl⟩,fun _ => rfl⟩,⟨fun ξ19 ξ19' h => ⟨rfl,rfl,rfl⟩,fun _ => rfl⟩,⟨fun ξ19 ξ19' h => ⟨by simp only [h 3 (.inl rfl)],by simp only [h 3 (.inl rfl)],rfl⟩,fun _ => rfl⟩,⟨fun ξ19 ξ19' h => ⟨by simp only [h 4 (.inl rfl)],rfl,by simp only [h 3 (.inr rfl),h 4 (.inl rfl)]⟩,fun _ => rfl⟩,⟨fun ξ19 ξ19' h => ⟨by simp only [h 5 (.inl rfl)],by simp only [h 3 (.inr rfl),h 5 (.inl rfl)],rfl⟩,fun _ => rfl⟩,⟨fun ξ19 ξ19' h => ⟨rfl,rfl,rfl⟩,fun _ => rfl⟩,⟨fun ξ19 ξ19' h => ⟨rfl,by simp only [h 5 (.inr rfl)],rfl⟩,fun _ => rfl⟩,trivial⟩ rfl (fun ξ19 => ?_)
    refine bJ rfl (fun L2 => ?_) ?_
    ·dsimp only [aC,lca,lna]
     refine oY rfl (yFA kD rfl) (oN ?_)
     exact ar (fun _ => (none,0,0,[],noR)) rfl (List.append_nil _)
    dsimp only [bw,lsz,lss,lna,lca,List.append_nil]
    refine bJ rfl (fun L2 => ?_) ?_
    ·dsimp only [aC,lca,lna]
     refine oY rfl (yL 3 q8 rfl rfl rfl) (oN ?_)
     exact ar (fun _ => (none,0,0,[],noR)) rfl (List.append_nil _)
    dsimp only [bw,lsz,lss,lna,lca,List.append_nil]
    refine bJ rfl (fun L2 => ?_) ?_
    ·dsimp only [aC,lca,lna]
     refine oY rfl (rq ua_100 p6 rfl) (oN ?_)
     exact ar (fun _ => (none,0,0,[],noR)) rfl (List.append_nil _)
    dsimp only [bw,lsz,lss,lna,lca,List.append_nil]
    refine bJ rfl (fun L2 => ?_) ?_
    ·dsimp only [aC,lca,lna]
     refine oC [.slice (some ⟨b18,0,none⟩) 61 61] _ _ _ rfl go_50 rfl (fun W2 hW2 => dF y15 y20 hy21 W2 (some ⟨b18,0,none⟩) 61 61 (Eq.symm hl17) ((RdL.cellsAs 8 61 rfl) W2 hW2)) ?_
     rintro ⟨A22,n24,c23⟩ hn25
     replace hn25 : n24 = y20.length:=hn25; subst hn25
     refine ox_joinE 7 rfl ?_
     try dsimp only [lsz,lss,lca,lna]
     refine oN ?_
     exact ar (fun _ => (A22,0,c23,[],noR)) rfl rfl
    dsimp only [bw,lsz,lss,lna,lca,List.append_nil]
    refine bJ rfl (fun L2 => ?_) ?_
    ·dsimp only [aC,lca,lna]
     refine aG 1 (encL dB [(((ξ19 3 0).1,y20.length,(ξ19 3 0).2.2.1),y20)]) _ mc_40_1 us_59 ze_40 by_40 (by decide) (by decide) (by kernel_rfl) (eL bC rfl) rfl (fun b26 => ?_)
     refine oN ?_
     exact ar (fun _ => (none,b26,0,[],noR)) rfl rfl
    dsimp only [bw,lsz,lss,lna,lca,List.append_nil]
    refine bJ rfl (fun L2 => ?_) ?_
    ·dsimp only [aC,lca,lna]
     refine bn 5 us_59 ze_40 by_40 rfl rfl rfl (RdL.row 10 rfl) (eL bC (NestP.hn (NestP.cons (sel:=(fun z : (List Int) => z)) rfl NestP.nil) rfl)) (bO mo _) (bW hg29 (by decide)) rfl (fun A27 c28 => ?_)
     refine oN ?_
     first | exact ar (fun _ => (A27,0,c28,[],noR)) rfl rfl | exact ar (fun _ => (A27,0,c28,[],noR)) rfl (List.append_nil _)
    dsimp only [bw,lsz,lss,lna,lca,List.append_nil]
    refine bJ rfl (fun L2 => ?_) ?_
    ·dsimp only [aC,lca,lna]
     refine oY rfl (yFA kD rfl) (oN ?_)
     exact ar (fun _ => (none,0,0,[],noR)) rfl (List.append_nil _)
    dsimp only [bw,lsz,lss,lna,lca,List.append_nil]
    refine qI rfl (fun L2 => ?_) ?_
    ·dsimp only [aC,lca,lna]
     refine bT rfl (cv 3 (v:=.slice (ξ19 5 0).1 (s12.2.length + 1) (ξ19 5 0).2.2.1) sz_59 rfl (Nat.lt_of_lt_of_le (Nat.lt_succ_self _) (nB rfl)) rfl rfl rfl) (oN ?_)
     first | exact bA (fun _ => (none,0,0,[],noR)) rfl | exact bA (fun _ => (none,0,0,[],noR)) (List.append_nil _)
    dsimp only [bw,lsz,lss,lna,lca,List.append_nil]
    refine jm (aw (eT (cR ?_)))
    try dsimp only [lna,lca,lsz,lss]
    refine oY rfl (aX rfl rfl) (oY rfl (yMI rfl) (oN (aQ 8 ?_)))
    obtain rfl:=sI h
    exact eN ⟨_,(ξ19 5 0).1,(ξ19 5 0).2.2.1,(s12.2.length + 1),(ys5_s12 ++ [(((ξ19 3 0).1,y20.length,(ξ19 3 0).2.2.1),y20)]),m4 F5_s12 (aI (ξ19 3 0).1 (ξ19 3 0).2.2.1 3 1 y20.length (encL cI y20)),(dT rfl rfl),(NestP.app hP5_s12 (NestP.cons (sel:=(fun z : (List Int) => z)) rfl NestP.nil)),(PvL.app (PvL.mono (Hb:=(fun W4 => Hb W4 ∧ Res.holds F5_s12 W4)) hV5_s12 (fun _ _ h => ⟨h.1,h.2.1⟩)) (PvL.cons (fun _ _ h => dt h.2.2.1) PvL.nil)),rfl,(kp4 (kp (kp rfl)))⟩
   ·refine cF (vB hp14) (aH (ah ?_))
    obtain rfl:=sI h
    exact ax ⟨rfl,_,A5_s12,c5_s12,s12.2.length,ys5_s12,F5_s12,rfl,hP5_s12,hV5_s12,rfl,(kp4 (kp (kp rfl)))⟩
  ·intro e L tm hJ
   obtain ⟨rfl,tm0_u13,A5_u13,c5_u13,n5_u13,ys5_u13,F5_u13,rfl,hP5_u13,hV5_u13,rfl,rfl⟩:=hJ
   refine ⟨(by intro hc; cases hc),?_⟩
   refine ac (eT (cS (cR ?_)))
   try dsimp only [lna,lca,lsz,lss]
   refine oY rfl (yN 3 [.slice A5_u13 u13.2.length c5_u13] ag_61 rfl rfl rfl) (bT rfl (yS 1 [.slice A5_u13 u13.2.length c5_u13] sz_61 rfl (nB rfl) rfl rfl rfl) (oY rfl (yAI rfl) (oN (eT (al ?_)))))
   obtain rfl:=sI h
   exact bp (.inl rfl) rfl (bf 1 [.slice A5_u13 u13.2.length c5_u13] ag_61 rfl rfl rfl) (rVt (v:=vI 0) rfl) (fun W2 hW2 => ⟨((A5_u13,u13.2.length,c5_u13),ys5_u13,F5_u13),⟨rfl,hP5_u13,hV5_u13⟩,rfl,hW2.pickL [5,7] (by decide) rfl⟩)
theorem pr (p0:TR) (p1:Int) (p2:Int) (p3:Int) (res:((List TJ) × Int)) (h:lX p0 p1 p2 p3 = some res) (W:World) (Ab:Option Addr) (n0_1 cb : Nat) (ys0_1:List (Hd × TT)) (hn0_1:n0_1 = p0.fT.length) (hr0_1:Rd W Ab n0_1 cb (encL TTrack_cells2 ys0_1)) (hN0_1:NestW W (fun z : TT => z.fK) TSpan_cells ys0_1 p0.fT) (wb:World) (Hb:World → Prop) (hB:∀ W3,Below W.heap.size W W3 → Below wb.heap.size wb W3 ∧ Hb W3) :
  Calls Tryz.prog 20 [.agg #[vI p0.fL,.slice Ab n0_1 cb],vI p1,vI p2,vI p3].toArray W fun e W2 => ∃ x : ((Option Addr × Nat × Nat) × (List (Hd × TJ)) × Res),(x.1.2.1 = res.1.length ∧ NestP (fun z : TJ => z.fLegs) x.2.1 res.1 ∧ PvL (fun z : TJ => z.fLegs) bz wb (fun W4 => Hb W4 ∧ Res.holds x.2.2 W4) x.2.1) ∧ e = .returned (.tuple #[.slice x.1.1 x.1.2.1 x.1.2.2,vI res.2]) ∧ Ext W W2 [aI x.1.1 x.1.2.2 31 3 x.1.2.1 (encL cj x.2.1),x.2.2]:=by
 subst hn0_1
 unfold lX at h
 refine ad (m:=24) Tryz.func20 rfl rfl (nB rfl) (cS (cR ?_))
 refine aO [vI p0.fL,.slice Ab p0.fT.length cb] rfl rfl rfl (fun b1 => ?_)
 refine oY rfl (yAS rfl) (oY rfl (yAI rfl) (oN (eT (cS (cS (cR (oY rfl (yN 0 [vI p0.fL,.slice Ab p0.fT.length cb] dl rfl rfl rfl) (oY rfl (yMI rfl) (oY rfl (yMI rfl) (oY rfl (yMI rfl) ?_))))))))))
 obtain ⟨y2,hy3,h⟩:=bOs h
 refine oY rfl (yC [.agg #[vI p0.fL,.slice Ab p0.fT.length cb],vI p1,vI p2,vI p3,vI 0] go_29 rfl (fun W2 hW2 => gF p0 p1 p2 p3 0 y2 hy3 W2 Ab p0.fT.length cb ys0_1 rfl ((RdL.arg hr0_1) W2 hW2) (NestL.at (NestL.arg hN0_1) W2 hW2)) rfl) (oY rfl (yAI rfl) (oN (eT (cS (cR (oY rfl (yMI rfl) (oY rfl (db rfl rfl) (oN (eT ?_)))))))))
 rcases iOs h with ⟨hp4,h⟩ | ⟨hp4,h⟩
 ·refine cT (vB hp4) (cS (cR (oY rfl (yMI rfl) (oY rfl (yAS rfl) (oY rfl (yAI rfl) (oN (eT (al (aa ?_)))))))))
  obtain rfl:=sI h
  exact bp (.inl rfl) rfl (rVt (v:=.slice none 0 0) rfl) (rVt (v:=vI y2) rfl) (fun W2 hW2 => ⟨((none,0,0),[],noR),⟨rfl,NestP.nil,PvL.nil⟩,rfl,(hW2.nilrow 31 3).addNo.pickL [1,2] (by decide) rfl⟩)
 ·refine cF (vB hp4) (cK (eT (cS (cR (oY rfl (yN 0 [vI p0.fL,.slice Ab p0.fT.length cb] dl rfl rfl rfl) (oY rfl (yMI rfl) (oY rfl (yMI rfl) (oY rfl (yMI rfl) ?_))))))))
  obtain ⟨y5,hy6,h⟩:=bOs h
  refine oC [.agg #[vI p0.fL,.slice Ab p0.fT.length cb],vI p1,vI p2,vI p3] _ _ _ rfl go_51 rfl (fun W2 hW2 => lK p0 p1 p2 p3 y5 hy6 W2 Ab p0.fT.length cb ys0_1 rfl ((RdL.arg hr0_1) W2 hW2) (NestL.at (NestL.arg hN0_1) W2 hW2) wb Hb (fun W3 hb => hB W3 (gm hW2.below hb)) ) ?_
  rintro ⟨⟨A9,n11,c10⟩,ys14,F15⟩ ⟨hn12,hP13,hV16⟩
  replace hn12 : n11 = y5.length:=hn12; subst hn12
  refine oY rfl (yAS rfl) (oY rfl (yAI rfl) (oN (eT (al ?_))))
  obtain rfl:=sI h
  exact bp (.inl rfl) rfl (rVt (v:=.slice A9 y5.length c10) rfl) (rVt (v:=vI 0) rfl) (fun W2 hW2 => ⟨((A9,y5.length,c10),ys14,F15),⟨rfl,hP13,hV16⟩,rfl,hW2.pickL [1,2] (by decide) rfl⟩)
theorem mq (p0:Int) (cap0:TR) (cap1:Int) (cap2:Int) (cap3:Int) (cap4:Int) (res:Bool) (h:i7 p0 cap0 cap1 cap2 cap3 cap4 = some res) (W:World) (bc0:Nat) (A100_1:Option Addr) (n100_1 c100_1 : Nat) (ys100_1:List (Hd × TT)) (hn100_1:n100_1 = cap0.fT.length) (hr100_1:Rd W A100_1 n100_1 c100_1 (encL TTrack_cells2 ys100_1)) (hN100_1:NestW W (fun z : TT => z.fK) TSpan_cells ys100_1 cap0.fT) (hcap0:Rd W (some ⟨bc0,0,none⟩) 1 1 [vI cap0.fL,.slice A100_1 n100_1 c100_1]) (bc1:Nat) (hcap1:Rd W (some ⟨bc1,0,none⟩) 1 1 (cI cap1)) (bc2:Nat) (hcap2:Rd W (some ⟨bc2,0,none⟩) 1 1 (cI cap2)) (bc3:Nat) (hcap3:Rd W (some ⟨bc3,0,none⟩) 1 1 (cI cap3)) (bc4:Nat) (hcap4:Rd W (some ⟨bc4,0,none⟩) 1 1 (cI cap4)) :
  Calls Tryz.prog 52 [vI p0,.pointer (some ⟨bc0,0,none⟩),.pointer (some ⟨bc1,0,none⟩),.pointer (some ⟨bc2,0,none⟩),.pointer (some ⟨bc3,0,none⟩),.pointer (some ⟨bc4,0,none⟩)].toArray W fun e W2 => e = .returned (.bool res) ∧ Ext W W2 []:=by
 subst hn100_1
 unfold i7 at h
 refine ad (m:=26) Tryz.func52 rfl rfl (nB rfl) (cS (cR (oY rfl (yAB rfl) (oN (eT (cS (cR (oY rfl (yM (A:=(some ⟨bc0,0,none⟩)) (j:=0) [vI cap0.fL,.slice A100_1 cap0.fT.length c100_1] dl (Nat.succ_pos _) (RdL.arg hcap0) rfl (pp rfl)) (oY rfl (yR (A:=(some ⟨bc1,0,none⟩)) (j:=0) (v:=vI cap1) aV (RdL.arg hcap1) rfl rfl) (oY rfl (yR (A:=(some ⟨bc2,0,none⟩)) (j:=0) (v:=vI cap2) aV (RdL.arg hcap2) rfl rfl) (oY rfl (yMI rfl) (oY rfl (yR (A:=(some ⟨bc3,0,none⟩)) (j:=0) (v:=vI cap3) aV (RdL.arg hcap3) rfl rfl) ?_))))))))))))
 obtain ⟨y1,hy2,h⟩:=bOs h
 refine oC [.agg #[vI cap0.fL,.slice A100_1 cap0.fT.length c100_1],vI cap1,vI cap2,vI p0,vI cap3] _ _ _ rfl go_30 rfl (fun W2 hW2 => jF cap0 cap1 cap2 p0 cap3 y1 hy2 W2 A100_1 cap0.fT.length c100_1 ys100_1 rfl ((RdL.arg hr100_1) W2 hW2) (NestL.at (NestL.arg hN100_1) W2 hW2) W (fun _ => True) (fun W3 hb => ⟨gm hW2.below hb,trivial⟩) ) ?_
 rintro ⟨⟨A5,n7,c6⟩,F9⟩ ⟨hn8,hV10⟩
 replace hn8 : n7 = y1.1.fLegs.length:=hn8; subst hn8
 refine oY rfl (aR rfl) (oY rfl (yE rfl rfl) (oY rfl (yE rfl rfl) ?_))
 refine aB kq rfl (fun b11 => ?_)
 refine bT rfl (yS 1 [.slice A5 y1.1.fLegs.length c6,vI y1.1.fA,vI y1.1.fToll] lY rfl (nB rfl) rfl rfl rfl) (oY rfl (yAB rfl) (oN (eT (cS (cR (oY rfl (yMB rfl) (oY rfl (yMB rfl) ?_)))))))
 refine oJ 5 (fun tm0 => (upd (upd tm0 7 (.bool false)) 25 (.bool (y1.2 && (decide (y1.1.fA ≤ cap4)))))) (fun tm0 => ?_) (fun key => ?_)
 ·refine oY rfl (yAB rfl) (oN (eT (al ?_)))
  obtain rfl:=sI h
  exact ap (.inl rfl) rfl (rVt (v:=.bool (y1.2 && (decide (y1.1.fA ≤ cap4)))) rfl) (fun W2 hW2 => ⟨rfl,hW2.none⟩)
 ·rcases aq y1.2 with hp12 | hp12
  ·refine oY (sT rfl rfl rfl rfl hp12) (yFA mS rfl) (oY (sT rfl rfl rfl rfl hp12) (yL 1 aV rfl rfl rfl) (oY (sT rfl rfl rfl rfl hp12) (yR (A:=(some ⟨bc4,0,none⟩)) (j:=0) (v:=vI cap4) aV (RdL.arg hcap4) rfl rfl) (oY (sT rfl rfl rfl rfl hp12) (jX rfl rfl) (oY rfl (ae (vB hp12) rfl) ?_))))
   exact key _ _ (keep (keep rfl rfl) (vB (gh hp12)))
  ·refine oSk (sF rfl rfl rfl rfl hp12) (oSk (sF rfl rfl rfl rfl hp12) (oSk (sF rfl rfl rfl rfl hp12) (oSk (sF rfl rfl rfl rfl hp12) (oY rfl (ag (vB hp12) rfl) ?_))))
   exact key _ _ (keep (keep rfl rfl) (vB (gq hp12)))
theorem nI (p0:TR) (p1:Int) (p2:Int) (p3:Int) (p4:Int) (res:(Int × Int)) (h:kE p0 p1 p2 p3 p4 = some res) (W:World) (Ab:Option Addr) (n0_1 cb : Nat) (ys0_1:List (Hd × TT)) (hn0_1:n0_1 = p0.fT.length) (hr0_1:Rd W Ab n0_1 cb (encL TTrack_cells2 ys0_1)) (hN0_1:NestW W (fun z : TT => z.fK) TSpan_cells ys0_1 p0.fT) :
  Calls Tryz.prog 21 [.agg #[vI p0.fL,.slice Ab n0_1 cb],vI p1,vI p2,vI p3,vI p4].toArray W fun e W2 => e = .returned (.tuple #[vI res.1,vI res.2]) ∧ Ext W W2 []:=by
 subst hn0_1
 unfold kE at h
 refine ad (m:=45) Tryz.func21 rfl rfl (nB rfl) (cS (cR ?_))
 refine aO [vI p0.fL,.slice Ab p0.fT.length cb] rfl rfl rfl (fun b1 => ?_)
 refine aO [vI p1] rfl rfl rfl (fun b2 => ?_)
 refine aO [vI p2] rfl rfl rfl (fun b3 => ?_)
 refine aO [vI p3] rfl rfl rfl (fun b4 => ?_)
 refine aO [vI p4] rfl rfl rfl (fun b5 => ?_)
 refine oY rfl (yAI rfl) (oY rfl (yAI rfl) (oN (eT (cS (cS (cR (oY rfl (yN 0 [vI p0.fL,.slice Ab p0.fT.length cb] dl rfl rfl rfl) (oY rfl (yL 1 aV rfl rfl rfl) (oY rfl (yL 2 aV rfl rfl rfl) (oY rfl (yL 3 aV rfl rfl rfl) (oY rfl (yL 4 aV rfl rfl rfl) ?_)))))))))))
 obtain ⟨y6,hy7,h⟩:=bOs h
 refine oY rfl (yC [.agg #[vI p0.fL,.slice Ab p0.fT.length cb],vI p1,vI p2,vI p3,vI p4] go_29 rfl (fun W2 hW2 => gF p0 p1 p2 p3 p4 y6 hy7 W2 Ab p0.fT.length cb ys0_1 rfl ((RdL.arg hr0_1) W2 hW2) (NestL.at (NestL.arg hN0_1) W2 hW2)) rfl) (oY rfl (yAI rfl) (oN (eT (cS (cR (oY rfl (yMI rfl) (oY rfl (db rfl rfl) (oN (eT ?_)))))))))
 rcases iOs h with ⟨hp8,h⟩ | ⟨hp8,h⟩
 ·refine cT (vB hp8) (cS (cR (oY rfl (yMI rfl) (oY rfl (yAI rfl) (oY rfl (yAI rfl) (oN (eT (al (aa ?_)))))))))
  obtain rfl:=sI h
  exact bp (.inl rfl) rfl (rVt (v:=vI 0) rfl) (rVt (v:=vI y6) rfl) (fun W2 hW2 => ⟨rfl,hW2.none⟩)
 ·refine cF (vB hp8) (cK (eT (cS (cR (oY rfl (cw [.pointer (some ⟨b1,0,none⟩),.pointer (some ⟨b2,0,none⟩),.pointer (some ⟨b3,0,none⟩),.pointer (some ⟨b5,0,none⟩),.pointer (some ⟨b4,0,none⟩)] rfl rfl) (oY rfl (eo rfl) (oN (eT (cS ?_)))))))))
  refine ba 3 cm (by kernel_rfl) (by kernel_rfl) ?_
  refine qY rfl (yL 3 aV rfl rfl rfl) (qY rfl (yAI rfl) (qY rfl (yAI rfl) (bX (oN (eT (cS (cB ?_)))))))
  obtain ⟨u11,hl16,h⟩:=bOs h
  refine bc (fun (s:(Int × Int)) L tm => ∃ (tm0:Nat → Value),L = [aj b1 24 [vI p0.fL,.slice Ab p0.fT.length cb],aj b2 3 [vI p1],aj b3 3 [vI p2],aj b4 3 [vI p3],aj b5 3 [vI p4]] ∧ tm = (upd (upd (upd (upd (upd tm0 10 (vI 0)) 11 (vI 0)) 13 (.func (.func 52) #[] #[.pointer (some ⟨b1,0,none⟩),.pointer (some ⟨b2,0,none⟩),.pointer (some ⟨b3,0,none⟩),.pointer (some ⟨b5,0,none⟩),.pointer (some ⟨b4,0,none⟩)])) 14 (vI s.1)) 15 (vI s.2))) 0 hl16 ⟨_,rfl,(kp4 (kp rfl))⟩ ?_ ?_
  ·rintro s10 L tm st ⟨tm0_s10,rfl,rfl⟩ h
   unfold kA at h
   refine cS (cS (cR (oY rfl (yMI rfl) (oY rfl (yMI rfl) (oY rfl (jX rfl rfl) (oN (eT ?_)))))))
   rcases iOs h with ⟨hp12,h⟩ | ⟨hp12,h⟩
   ·refine cT (vB hp12) (cK (eT (cB (cS (cR (oY rfl (yMI rfl) (oY rfl (yMI rfl) (oY rfl (aX rfl rfl) ?_))))))))
    refine oY rfl (y_quo (by decide) rfl rfl) ?_
    refine oY rfl (yAI rfl) (oN (eT (cS (cR (oY rfl (c3 rfl) (oY rfl (yMI rfl) ?_))))))
    obtain ⟨y13,hy14,h⟩:=bOs h
    refine oY rfl (m6 (caps:=[.pointer (some ⟨b1,0,none⟩),.pointer (some ⟨b2,0,none⟩),.pointer (some ⟨b3,0,none⟩),.pointer (some ⟨b5,0,none⟩),.pointer (some ⟨b4,0,none⟩)]) [vI (w64 (Int.tdiv (w64 (s10.1 + s10.2)) 2))] go_52 rfl rfl (fun W2 hW2 => mq (w64 (Int.tdiv (w64 (s10.1 + s10.2)) 2)) p0 p1 p2 p4 p3 y13 hy14 W2 b1 Ab p0.fT.length cb ys0_1 rfl ((RdL.arg hr0_1) W2 hW2) (NestL.at (NestL.arg hN0_1) W2 hW2) ((RdL.cells 0 rfl) W2 hW2) b2 ((RdL.cells 1 rfl) W2 hW2) b3 ((RdL.cells 2 rfl) W2 hW2) b5 ((RdL.cells 4 rfl) W2 hW2) b4 ((RdL.cells 3 rfl) W2 hW2))) (oN (eT ?_))
    rcases iOs h with ⟨hp15,h⟩ | ⟨hp15,h⟩
    ·refine cT (vB hp15) (cR (oY rfl (yMI rfl) (oY rfl (aX rfl rfl) (oY rfl (yAI rfl) (oN (aw ?_))))))
     obtain rfl:=sI h
     exact eN ⟨_,rfl,(kp4 (kp rfl))⟩
    ·refine cF (vB hp15) (cR (oY rfl (yMI rfl) (oY rfl (dV rfl rfl) (oY rfl (yAI rfl) (oN (aw ?_))))))
     obtain rfl:=sI h
     exact eN ⟨_,rfl,(kp4 (kp rfl))⟩
   ·refine cF (vB hp12) (aH (ah ?_))
    obtain rfl:=sI h
    exact ax ⟨rfl,_,rfl,(kp4 (kp rfl))⟩
  ·intro e L tm hJ
   obtain ⟨rfl,tm0_u11,rfl,rfl⟩:=hJ
   refine ⟨(by intro hc; cases hc),?_⟩
   refine ac (eT (cS (cS (cR (oY rfl (yMI rfl) (oY rfl (bm rfl rfl) (oN (eT ?_))))))))
   rcases iOs h with ⟨hp17,h⟩ | ⟨hp17,h⟩
   ·refine cT (vB hp17) (cS (cR (oY rfl (yAI rfl) (oY rfl (yAI rfl) (oN (eT (al (aa ?_))))))))
    obtain rfl:=sI h
    exact bp (.inl rfl) rfl (rVt (v:=vI 0) rfl) (rVt (v:=vI 5) rfl) (fun W2 hW2 => ⟨rfl,hW2.none⟩)
   ·refine cF (vB hp17) (cK (eT (cS (cR (oY rfl (yMI rfl) (oY rfl (yAI rfl) (oY rfl (yAI rfl) (oN (eT (al ?_))))))))))
    obtain rfl:=sI h
    exact bp (.inl rfl) rfl (rVt (v:=vI u11.2) rfl) (rVt (v:=vI 0) rfl) (fun W2 hW2 => ⟨rfl,hW2.none⟩)
theorem dv (p0:(List Int)) (p1:(List Int)) (res:Bool) (h:cZ p0 p1 = some res) (W:World) (Aa:Option Addr) (n0_0 ca : Nat) (hn0_0:n0_0 = p0.length) (hr0_0:Rd W Aa n0_0 ca (encL cI p0)) (Ac:Option Addr) (n1_0 cc : Nat) (hn1_0:n1_0 = p1.length) (hr1_0:Rd W Ac n1_0 cc (encL cI p1)) :
  Calls Tryz.prog 22 [.slice Aa n0_0 ca,.slice Ac n1_0 cc].toArray W fun e W2 => e = .returned (.bool res) ∧ Ext W W2 []:=by
 subst hn0_0
 subst hn1_0
 unfold cZ at h
 refine ad (m:=26) Tryz.func22 rfl rfl (nB rfl) (cS (cR (oY rfl (yAB rfl) (oN (eT (cS (cS (cR (oY rfl (yMS rfl) (oY rfl (bd (us:=[]) dH rfl) (oY rfl (yMS rfl) (oY rfl (bd (us:=[]) dH rfl) (oY rfl (db rfl rfl) (oN (eT ?_)))))))))))))))
 rcases iOs h with ⟨hp1,h⟩ | ⟨hp1,h⟩
 ·refine cT (vB hp1) (cS (cR (oY rfl (yAB rfl) (oN (eT (al (aa ?_)))))))
  obtain rfl:=sI h
  exact ap (.inl rfl) rfl (rVt (v:=.bool false) rfl) (fun W2 hW2 => ⟨rfl,hW2.none⟩)
 ·refine cF (vB hp1) (cK (eT (cS (cS (cR (oY rfl (yAI rfl) (oN (eT (cB ?_)))))))))
  obtain ⟨u4,hl9,h⟩:=bOs h
  refine bB (fun (s:(Bool × Int)) L tm => ∃ (tm0:Nat → Value),L = [] ∧ tm = (upd (upd (upd (upd tm0 0 (.slice Aa p0.length ca)) 1 (.slice Ac p1.length cc)) 4 (.bool s.1)) 5 (vI s.2))) 0 hl9 ⟨_,rfl,(kp4 rfl)⟩ ?_ ?_
  ·rintro s3 L tm st ⟨tm0_s3,rfl,rfl⟩ h
   unfold iP at h
   refine cS (cS (cR (oY rfl (yMI rfl) (oY rfl (yMS rfl) (oY rfl (bd (us:=[]) dH rfl) (oY rfl (bm rfl rfl) (oN (eT ?_))))))))
   rcases iOs h with ⟨hp5,h⟩ | ⟨hp5,h⟩
   ·refine cT (vB hp5) (cK (eT (cS (cB (cS ?_)))))
    refine ba 9 cm (by kernel_rfl) (by kernel_rfl) ?_
    refine qY rfl (yMS rfl) (qY rfl (yMI rfl) ?_)
    obtain ⟨hg6,h⟩:=gOs h
    refine qY rfl (yI d7 (by decide) hg6.1 hg6.2 (RdL.arg hr0_0) (eL aJ rfl) rfl rfl) ?_
    refine qY rfl (yR (A:=Aa) (j:=(Int.toNat s3.2 * 1)) (v:=vI (rdL p0 s3.2)) aV (RdL.arg hr0_0) rfl (a6 aJ hg6.1 (av hg6.2 rfl) rfl)) (qY rfl (yMS rfl) (qY rfl (yMI rfl) ?_))
    obtain ⟨hg7,h⟩:=gOs h
    refine qY rfl (yI d7 (by decide) hg7.1 hg7.2 (RdL.arg hr1_0) (eL aJ rfl) rfl rfl) ?_
    refine qY rfl (yR (A:=Ac) (j:=(Int.toNat s3.2 * 1)) (v:=vI (rdL p1 s3.2)) aV (RdL.arg hr1_0) rfl (a6 aJ hg7.1 (av hg7.2 rfl) rfl)) (qY rfl (db rfl rfl) (bX (oN (eT ?_))))
    rcases iOs h with ⟨hp8,h⟩ | ⟨hp8,h⟩
    ·refine cT (vB hp8) (cS (cR (oY rfl (yAB rfl) (oN (eT (al (ai (aa ?_))))))))
     obtain rfl:=sI h
     exact ax ⟨rfl,_,rfl,(kp4 rfl)⟩
    ·refine cF (vB hp8) (cK (aw (eT (cR (oY rfl (yMI rfl) (oY rfl (aX rfl rfl) (oY rfl (yAI rfl) (oN ?_))))))))
     obtain rfl:=sI h
     exact eN ⟨_,rfl,(kp4 rfl)⟩
   ·refine cF (vB hp5) (aH (ah ?_))
    obtain rfl:=sI h
    exact ax ⟨rfl,_,rfl,(kp4 rfl)⟩
  ·intro e L tm hJ
   rcases u4 with u10 | u11
   ·dsimp only at h hJ
    obtain ⟨rfl,tm0_u10,rfl,rfl⟩:=hJ
    refine ⟨(by intro hc; cases hc),?_⟩
    refine ai (aa ?_)
    obtain rfl:=sI h
    exact ap (.inl rfl) rfl (rVt (v:=.bool u10.1) rfl) (fun W2 hW2 => ⟨rfl,hW2.none⟩)
   ·dsimp only at h hJ
    obtain ⟨rfl,tm0_u11,rfl,rfl⟩:=hJ
    refine ⟨(by intro hc; cases hc),?_⟩
    refine ac (eT (cS (cR (oY rfl (yAB rfl) (oN (eT (al ?_)))))))
    obtain rfl:=sI h
    exact ap (.inl rfl) rfl (rVt (v:=.bool true) rfl) (fun W2 hW2 => ⟨rfl,hW2.none⟩)
end Go.Proofs.YthndghnkebboaabGreat
set_option maxHeartbeats 4000000
set_option maxRecDepth 100000
namespace Go.Proofs.YthndghnkebboaabGreat
open Go.RowKit (Below)
attribute [local irreducible] OX QX CX EX OpY Calls CallsIn
theorem fN (p0:(List TO)) (p1:TO → Option Bool) (res:Int) (h:cA p0 p1 = some res) (W:World) (Aa:Option Addr) (n0_0 ca : Nat) (hn0_0:n0_0 = p0.length) (hr0_0:Rd W Aa n0_0 ca (encL aA p0)) (fid1:Nat) (fst1 caps1 : List Value) (hgo1:bx Tryz.prog fid1 = true) (hof1:∀ W2,Below W.heap.size W W2 → ∀ x,∀ y,p1 x = some y → Calls Tryz.prog fid1 (fst1 ++ (([.agg #[vI x.fID,vI x.fH.fLo,vI x.fH.fHi,vI x.fD,vI x.fW]] : List Value) ++ caps1)).toArray W2 fun e W3 => e = .returned (.bool y) ∧ Ext W2 W3 []) :
  Calls Tryz.prog 120 [.slice Aa n0_0 ca,.func (.func fid1) fst1.toArray caps1.toArray].toArray W fun e W2 => e = .returned (vI res) ∧ Ext W W2 []:=by
 subst hn0_0
 unfold cA at h
 refine ad (m:=19) Tryz.func120 rfl rfl (nB rfl) (cS (cR (oY rfl (yAI rfl) (oN (eT (cS (cS (cR (oY rfl (yMS rfl) (oY rfl (bd (us:=[]) kN rfl) (oY rfl (yMI rfl) (oN (eT (cB ?_))))))))))))))
 obtain ⟨u3,hl9,h⟩:=bOs h
 refine bB (fun (s:(Int × Int)) L tm => ∃ (tm0:Nat → Value),L = [] ∧ tm = (upd (upd (upd (upd (upd tm0 0 (.slice Aa p0.length ca)) 1 (.func (.func fid1) fst1.toArray caps1.toArray)) 4 (vI s.1)) 7 (vI (p0.length:Int))) 8 (vI s.2))) 0 hl9 ⟨_,rfl,(kp4 (kp rfl))⟩ ?_ ?_
 ·rintro s2 L tm st ⟨tm0_s2,rfl,rfl⟩ h
  unfold dj at h
  refine cS (cR (oY rfl (bm rfl rfl) (oN (eT (cS ?_)))))
  rcases iOs h with ⟨hp4,h⟩ | ⟨hp4,h⟩
  ·refine cT (vB hp4) (cK (eT (cS (cB (cS (cR (oY rfl (yMI rfl) (oY rfl (yAI rfl) (oN (eT (cS (cR (oY rfl (bH (v:=.func (.func fid1) fst1.toArray caps1.toArray) rfl) (oY rfl (yMS rfl) (oY rfl (yMI rfl) ?_)))))))))))))))
   obtain ⟨hg5,h⟩:=gOs h
   refine oY rfl (yI jM (by decide) hg5.1 hg5.2 (RdL.arg hr0_0) (eL au rfl) rfl rfl) ?_
   refine oY rfl (yM (A:=Aa) (j:=(Int.toNat s2.2 * 5)) [vI ((rdL p0 s2.2).fID),vI ((rdL p0 s2.2).fH.fLo),vI ((rdL p0 s2.2).fH.fHi),vI ((rdL p0 s2.2).fD),vI ((rdL p0 s2.2).fW)] pC (Nat.succ_pos _) (RdL.arg hr0_0) rfl (aU au hg5.1 (av hg5.2 rfl))) ?_
   obtain ⟨y6,hy7,h⟩:=bOs h
   refine oY rfl (ge [.agg #[vI ((rdL p0 s2.2).fID),vI ((rdL p0 s2.2).fH.fLo),vI ((rdL p0 s2.2).fH.fHi),vI ((rdL p0 s2.2).fD),vI ((rdL p0 s2.2).fW)]] hgo1 rfl rfl (fun W2 hW2 => hof1 W2 hW2.below (TO.mk ((rdL p0 s2.2).fID) (TSpan.mk ((rdL p0 s2.2).fH.fLo) ((rdL p0 s2.2).fH.fHi)) ((rdL p0 s2.2).fD) ((rdL p0 s2.2).fW)) y6 hy7)) (oN (eT ?_))
   rcases iOs h with ⟨hp8,h⟩ | ⟨hp8,h⟩
   ·refine cT (vB hp8) (cS (cR (oY rfl (yMI rfl) (oY rfl (yAI rfl) (oN (eT (al (ai (aa ?_)))))))))
    obtain rfl:=sI h
    exact ax ⟨rfl,_,rfl,(kp4 (kp rfl))⟩
   ·refine cF (vB hp8) (cK (aw (eT (cR (oY rfl (aX rfl rfl) (oY rfl (yMI rfl) (oN ?_)))))))
    obtain rfl:=sI h
    exact eN ⟨_,rfl,(kp4 (kp rfl))⟩
  ·refine cF (vB hp4) (aH (ah ?_))
   obtain rfl:=sI h
   exact ax ⟨rfl,_,rfl,(kp4 (kp rfl))⟩
 ·intro e L tm hJ
  rcases u3 with u10 | u11
  ·dsimp only at h hJ
   obtain ⟨rfl,tm0_u10,rfl,rfl⟩:=hJ
   refine ⟨(by intro hc; cases hc),?_⟩
   refine ai (aa ?_)
   obtain rfl:=sI h
   exact ap (.inl rfl) rfl (rVt (v:=vI u10.1) rfl) (fun W2 hW2 => ⟨rfl,hW2.none⟩)
  ·dsimp only at h hJ
   obtain ⟨rfl,tm0_u11,rfl,rfl⟩:=hJ
   refine ⟨(by intro hc; cases hc),?_⟩
   refine ac (eT (cS (cR (oY rfl (yAI rfl) (oN (eT (al ?_)))))))
   obtain rfl:=sI h
   exact ap (.inl rfl) rfl (rVt (v:=vI (-1)) rfl) (fun W2 hW2 => ⟨rfl,hW2.none⟩)
theorem gL (p0:(List TO)) (p1:TO → Option Bool) (res:Int) (h:cX p0 p1 = some res) (W:World) (Aa:Option Addr) (n0_0 ca : Nat) (hn0_0:n0_0 = p0.length) (hr0_0:Rd W Aa n0_0 ca (encL aA p0)) (fid1:Nat) (fst1 caps1 : List Value) (hgo1:bx Tryz.prog fid1 = true) (hof1:∀ W2,Below W.heap.size W W2 → ∀ x,∀ y,p1 x = some y → Calls Tryz.prog fid1 (fst1 ++ (([.agg #[vI x.fID,vI x.fH.fLo,vI x.fH.fHi,vI x.fD,vI x.fW]] : List Value) ++ caps1)).toArray W2 fun e W3 => e = .returned (.bool y) ∧ Ext W2 W3 []) :
  Calls Tryz.prog 88 [.slice Aa n0_0 ca,.func (.func fid1) fst1.toArray caps1.toArray].toArray W fun e W2 => e = .returned (vI res) ∧ Ext W W2 []:=by
 subst hn0_0
 unfold cX at h
 refine ad (m:=8) Tryz.func88 rfl rfl (nB rfl) (cS (cR (oY rfl (yAI rfl) (oN (eT (cS (cR (oY rfl (yMS rfl) (oY rfl (bH (v:=.func (.func fid1) fst1.toArray caps1.toArray) rfl) ?_)))))))))
 obtain ⟨y1,hy2,h⟩:=bOs h
 refine oY rfl (yC [.slice Aa p0.length ca,.func (.func fid1) fst1.toArray caps1.toArray] go_120 rfl (fun W2 hW2 => fN p0 p1 y1 hy2 W2 Aa p0.length ca rfl ((RdL.arg hr0_0) W2 hW2) fid1 fst1 caps1 hgo1 (fun W3 hb => hof1 W3 (gm hW2.below hb))) rfl) (oY rfl (yAI rfl) (oN (eT (al ?_))))
 obtain rfl:=sI h
 exact ap (.inl rfl) rfl (rVt (v:=vI y1) rfl) (fun W2 hW2 => ⟨rfl,hW2.none⟩)
theorem mY (p0:TO) (cap0:Int) (res:Bool) (h:iA p0 cap0 = some res) (W:World) (bc0:Nat) (hcap0:Rd W (some ⟨bc0,0,none⟩) 1 1 (cI cap0)) :
  Calls Tryz.prog 89 [.agg #[vI p0.fID,vI p0.fH.fLo,vI p0.fH.fHi,vI p0.fD,vI p0.fW],.pointer (some ⟨bc0,0,none⟩)].toArray W fun e W2 => e = .returned (.bool res) ∧ Ext W W2 []:=by
 unfold iA at h
 refine ad (m:=8) Tryz.func89 rfl rfl (nB rfl) (cS (cR ?_))
 refine aO [vI p0.fID,vI p0.fH.fLo,vI p0.fH.fHi,vI p0.fD,vI p0.fW] rfl rfl rfl (fun b1 => ?_)
 refine oY rfl (yAB rfl) (oN (eT (cS (cR (oY rfl (yFA jR rfl) (oY rfl (yL 0 aV rfl rfl rfl) (oY rfl (yR (A:=(some ⟨bc0,0,none⟩)) (j:=0) (v:=vI cap0) aV (RdL.arg hcap0) rfl rfl) (oY rfl (dA rfl rfl) (oY rfl (yAB rfl) (oN (eT (al ?_))))))))))))
 obtain rfl:=sI h
 exact ap (.inl rfl) rfl (rVt (v:=.bool (p0.fID == cap0)) rfl) (fun W2 hW2 => ⟨rfl,hW2.none⟩)
theorem jg (p0:TY) (p1:Int) (res:Int) (h:iX p0 p1 = some res) (W:World) (Aa:Option Addr) (n0_0 ca : Nat) (hn0_0:n0_0 = p0.fB.length) (hr0_0:Rd W Aa n0_0 ca (encL aD p0.fB)) (Ab:Option Addr) (n0_1 cb : Nat) (hn0_1:n0_1 = p0.fOrders.length) (hr0_1:Rd W Ab n0_1 cb (encL aA p0.fOrders)) :
  Calls Tryz.prog 60 [.agg #[.slice Aa n0_0 ca,.slice Ab n0_1 cb],vI p1].toArray W fun e W2 => e = .returned (vI res) ∧ Ext W W2 []:=by
 subst hn0_0
 subst hn0_1
 unfold iX at h
 refine ad (m:=9) Tryz.func60 rfl rfl (nB rfl) (cS (cR ?_))
 refine aO [.slice Aa p0.fB.length ca,.slice Ab p0.fOrders.length cb] rfl rfl rfl (fun b1 => ?_)
 refine aO [vI p1] rfl rfl rfl (fun b2 => ?_)
 refine oY rfl (yAI rfl) (oN (eT (cS (cR (oY rfl (yFA cn rfl) (oY rfl (yL 0 go rfl rfl rfl) (oY rfl (cw [.pointer (some ⟨b2,0,none⟩)] rfl rfl) ?_)))))))
 obtain ⟨y4,hy5,h⟩:=bOs h
 refine oY rfl (yC [.slice Ab p0.fOrders.length cb,.func (.func 89) #[] #[.pointer (some ⟨b2,0,none⟩)]] go_88 rfl (fun W2 hW2 => gL p0.fOrders (fun x3 => iA x3 p1) y4 hy5 W2 Ab p0.fOrders.length cb rfl ((RdL.arg hr0_1) W2 hW2) 89 [] [.pointer (some ⟨b2,0,none⟩)] go_89 (fun W3 hb x y hxy => mY  x p1 y hxy W3 b2 (((RdL.cells 1 rfl) W2 hW2).later hb))) rfl) (oY rfl (yAI rfl) (oN (eT (al ?_))))
 obtain rfl:=sI h
 exact ap (.inl rfl) rfl (rVt (v:=vI y4) rfl) (fun W2 hW2 => ⟨rfl,hW2.none⟩)
theorem gS (p0:(List TBay)) (p1:TBay → Option Bool) (res:Int) (h:dg p0 p1 = some res) (W:World) (Aa:Option Addr) (n0_0 ca : Nat) (hn0_0:n0_0 = p0.length) (hr0_0:Rd W Aa n0_0 ca (encL aD p0)) (fid1:Nat) (fst1 caps1 : List Value) (hgo1:bx Tryz.prog fid1 = true) (hof1:∀ W2,Below W.heap.size W W2 → ∀ x,∀ y,p1 x = some y → Calls Tryz.prog fid1 (fst1 ++ (([.agg #[vI x.fID,vI x.fHour,vI x.fD]] : List Value) ++ caps1)).toArray W2 fun e W3 => e = .returned (.bool y) ∧ Ext W2 W3 []) :
  Calls Tryz.prog 121 [.slice Aa n0_0 ca,.func (.func fid1) fst1.toArray caps1.toArray].toArray W fun e W2 => e = .returned (vI res) ∧ Ext W W2 []:=by
 subst hn0_0
 unfold dg at h
 refine ad (m:=19) Tryz.func121 rfl rfl (nB rfl) (cS (cR (oY rfl (yAI rfl) (oN (eT (cS (cS (cR (oY rfl (yMS rfl) (oY rfl (bd (us:=[]) jr rfl) (oY rfl (yMI rfl) (oN (eT (cB ?_))))))))))))))
 obtain ⟨u3,hl9,h⟩:=bOs h
 refine bB (fun (s:(Int × Int)) L tm => ∃ (tm0:Nat → Value),L = [] ∧ tm = (upd (upd (upd (upd (upd tm0 0 (.slice Aa p0.length ca)) 1 (.func (.func fid1) fst1.toArray caps1.toArray)) 4 (vI s.1)) 7 (vI (p0.length:Int))) 8 (vI s.2))) 0 hl9 ⟨_,rfl,(kp4 (kp rfl))⟩ ?_ ?_
 ·rintro s2 L tm st ⟨tm0_s2,rfl,rfl⟩ h
  unfold d9 at h
  refine cS (cR (oY rfl (bm rfl rfl) (oN (eT (cS ?_)))))
  rcases iOs h with ⟨hp4,h⟩ | ⟨hp4,h⟩
  ·refine cT (vB hp4) (cK (eT (cS (cB (cS (cR (oY rfl (yMI rfl) (oY rfl (yAI rfl) (oN (eT (cS (cR (oY rfl (bH (v:=.func (.func fid1) fst1.toArray caps1.toArray) rfl) (oY rfl (yMS rfl) (oY rfl (yMI rfl) ?_)))))))))))))))
   obtain ⟨hg5,h⟩:=gOs h
   refine oY rfl (yI lN (by decide) hg5.1 hg5.2 (RdL.arg hr0_0) (eL aK rfl) rfl rfl) ?_
   refine oY rfl (yM (A:=Aa) (j:=(Int.toNat s2.2 * 3)) [vI ((rdL p0 s2.2).fID),vI ((rdL p0 s2.2).fHour),vI ((rdL p0 s2.2).fD)] su (Nat.succ_pos _) (RdL.arg hr0_0) rfl (aU aK hg5.1 (av hg5.2 rfl))) ?_
   obtain ⟨y6,hy7,h⟩:=bOs h
   refine oY rfl (ge [.agg #[vI ((rdL p0 s2.2).fID),vI ((rdL p0 s2.2).fHour),vI ((rdL p0 s2.2).fD)]] hgo1 rfl rfl (fun W2 hW2 => hof1 W2 hW2.below (TBay.mk ((rdL p0 s2.2).fID) ((rdL p0 s2.2).fHour) ((rdL p0 s2.2).fD)) y6 hy7)) (oN (eT ?_))
   rcases iOs h with ⟨hp8,h⟩ | ⟨hp8,h⟩
   ·refine cT (vB hp8) (cS (cR (oY rfl (yMI rfl) (oY rfl (yAI rfl) (oN (eT (al (ai (aa ?_)))))))))
    obtain rfl:=sI h
    exact ax ⟨rfl,_,rfl,(kp4 (kp rfl))⟩
   ·refine cF (vB hp8) (cK (aw (eT (cR (oY rfl (aX rfl rfl) (oY rfl (yMI rfl) (oN ?_)))))))
    obtain rfl:=sI h
    exact eN ⟨_,rfl,(kp4 (kp rfl))⟩
  ·refine cF (vB hp4) (aH (ah ?_))
   obtain rfl:=sI h
   exact ax ⟨rfl,_,rfl,(kp4 (kp rfl))⟩
 ·intro e L tm hJ
  rcases u3 with u10 | u11
  ·dsimp only at h hJ
   obtain ⟨rfl,tm0_u10,rfl,rfl⟩:=hJ
   refine ⟨(by intro hc; cases hc),?_⟩
   refine ai (aa ?_)
   obtain rfl:=sI h
   exact ap (.inl rfl) rfl (rVt (v:=vI u10.1) rfl) (fun W2 hW2 => ⟨rfl,hW2.none⟩)
  ·dsimp only at h hJ
   obtain ⟨rfl,tm0_u11,rfl,rfl⟩:=hJ
   refine ⟨(by intro hc; cases hc),?_⟩
   refine ac (eT (cS (cR (oY rfl (yAI rfl) (oN (eT (al ?_)))))))
   obtain rfl:=sI h
   exact ap (.inl rfl) rfl (rVt (v:=vI (-1)) rfl) (fun W2 hW2 => ⟨rfl,hW2.none⟩)
theorem ip (p0:(List TBay)) (p1:TBay → Option Bool) (res:Int) (h:dD p0 p1 = some res) (W:World) (Aa:Option Addr) (n0_0 ca : Nat) (hn0_0:n0_0 = p0.length) (hr0_0:Rd W Aa n0_0 ca (encL aD p0)) (fid1:Nat) (fst1 caps1 : List Value) (hgo1:bx Tryz.prog fid1 = true) (hof1:∀ W2,Below W.heap.size W W2 → ∀ x,∀ y,p1 x = some y → Calls Tryz.prog fid1 (fst1 ++ (([.agg #[vI x.fID,vI x.fHour,vI x.fD]] : List Value) ++ caps1)).toArray W2 fun e W3 => e = .returned (.bool y) ∧ Ext W2 W3 []) :
  Calls Tryz.prog 93 [.slice Aa n0_0 ca,.func (.func fid1) fst1.toArray caps1.toArray].toArray W fun e W2 => e = .returned (vI res) ∧ Ext W W2 []:=by
 subst hn0_0
 unfold dD at h
 refine ad (m:=8) Tryz.func93 rfl rfl (nB rfl) (cS (cR (oY rfl (yAI rfl) (oN (eT (cS (cR (oY rfl (yMS rfl) (oY rfl (bH (v:=.func (.func fid1) fst1.toArray caps1.toArray) rfl) ?_)))))))))
 obtain ⟨y1,hy2,h⟩:=bOs h
 refine oY rfl (yC [.slice Aa p0.length ca,.func (.func fid1) fst1.toArray caps1.toArray] go_121 rfl (fun W2 hW2 => gS p0 p1 y1 hy2 W2 Aa p0.length ca rfl ((RdL.arg hr0_0) W2 hW2) fid1 fst1 caps1 hgo1 (fun W3 hb => hof1 W3 (gm hW2.below hb))) rfl) (oY rfl (yAI rfl) (oN (eT (al ?_))))
 obtain rfl:=sI h
 exact ap (.inl rfl) rfl (rVt (v:=vI y1) rfl) (fun W2 hW2 => ⟨rfl,hW2.none⟩)
theorem o3 (p0:TBay) (cap0:Int) (res:Bool) (h:ke p0 cap0 = some res) (W:World) (bc0:Nat) (hcap0:Rd W (some ⟨bc0,0,none⟩) 1 1 (cI cap0)) :
  Calls Tryz.prog 94 [.agg #[vI p0.fID,vI p0.fHour,vI p0.fD],.pointer (some ⟨bc0,0,none⟩)].toArray W fun e W2 => e = .returned (.bool res) ∧ Ext W W2 []:=by
 unfold ke at h
 refine ad (m:=8) Tryz.func94 rfl rfl (nB rfl) (cS (cR ?_))
 refine aO [vI p0.fID,vI p0.fHour,vI p0.fD] rfl rfl rfl (fun b1 => ?_)
 refine oY rfl (yAB rfl) (oN (eT (cS (cR (oY rfl (yFA j4 rfl) (oY rfl (yL 0 aV rfl rfl rfl) (oY rfl (yR (A:=(some ⟨bc0,0,none⟩)) (j:=0) (v:=vI cap0) aV (RdL.arg hcap0) rfl rfl) (oY rfl (dA rfl rfl) (oY rfl (yAB rfl) (oN (eT (al ?_))))))))))))
 obtain rfl:=sI h
 exact ap (.inl rfl) rfl (rVt (v:=.bool (p0.fID == cap0)) rfl) (fun W2 hW2 => ⟨rfl,hW2.none⟩)
theorem mO (p0:TY) (p1:Int) (res:Int) (h:mw p0 p1 = some res) (W:World) (Aa:Option Addr) (n0_0 ca : Nat) (hn0_0:n0_0 = p0.fB.length) (hr0_0:Rd W Aa n0_0 ca (encL aD p0.fB)) (Ab:Option Addr) (n0_1 cb : Nat) (hn0_1:n0_1 = p0.fOrders.length) (hr0_1:Rd W Ab n0_1 cb (encL aA p0.fOrders)) :
  Calls Tryz.prog 64 [.agg #[.slice Aa n0_0 ca,.slice Ab n0_1 cb],vI p1].toArray W fun e W2 => e = .returned (vI res) ∧ Ext W W2 []:=by
 subst hn0_0
 subst hn0_1
 unfold mw at h
 refine ad (m:=9) Tryz.func64 rfl rfl (nB rfl) (cS (cR ?_))
 refine aO [.slice Aa p0.fB.length ca,.slice Ab p0.fOrders.length cb] rfl rfl rfl (fun b1 => ?_)
 refine aO [vI p1] rfl rfl rfl (fun b2 => ?_)
 refine oY rfl (yAI rfl) (oN (eT (cS (cR (oY rfl (yFA eh rfl) (oY rfl (yL 0 jP rfl rfl rfl) (oY rfl (cw [.pointer (some ⟨b2,0,none⟩)] rfl rfl) ?_)))))))
 obtain ⟨y4,hy5,h⟩:=bOs h
 refine oY rfl (yC [.slice Aa p0.fB.length ca,.func (.func 94) #[] #[.pointer (some ⟨b2,0,none⟩)]] go_93 rfl (fun W2 hW2 => ip p0.fB (fun x3 => ke x3 p1) y4 hy5 W2 Aa p0.fB.length ca rfl ((RdL.arg hr0_0) W2 hW2) 94 [] [.pointer (some ⟨b2,0,none⟩)] go_94 (fun W3 hb x y hxy => o3  x p1 y hxy W3 b2 (((RdL.cells 1 rfl) W2 hW2).later hb))) rfl) (oY rfl (yAI rfl) (oN (eT (al ?_))))
 obtain rfl:=sI h
 exact ap (.inl rfl) rfl (rVt (v:=vI y4) rfl) (fun W2 hW2 => ⟨rfl,hW2.none⟩)
theorem dr (p0:TY) (res:Int) (h:cY p0 = some res) (W:World) (Aa:Option Addr) (n0_0 ca : Nat) (hn0_0:n0_0 = p0.fB.length) (hr0_0:Rd W Aa n0_0 ca (encL aD p0.fB)) (Ab:Option Addr) (n0_1 cb : Nat) (hn0_1:n0_1 = p0.fOrders.length) (hr0_1:Rd W Ab n0_1 cb (encL aA p0.fOrders)) :
  Calls Tryz.prog 53 [.agg #[.slice Aa n0_0 ca,.slice Ab n0_1 cb]].toArray W fun e W2 => e = .returned (vI res) ∧ Ext W W2 []:=by
 subst hn0_0
 subst hn0_1
 unfold cY at h
 refine ad (m:=102) Tryz.func53 rfl rfl (nB rfl) (cS (cR ?_))
 refine aO [.slice Aa p0.fB.length ca,.slice Ab p0.fOrders.length cb] rfl rfl rfl (fun b1 => ?_)
 refine oY rfl (yAI rfl) (oN (eT (cS (cS (cR (oY rfl (yFA eh rfl) (oY rfl (yL 0 jP rfl rfl rfl) (oY rfl (bd (us:=[]) jr rfl) (oY rfl (eI rfl rfl) (oY rfl (yMB rfl) ?_))))))))))
 refine oJ 5 (fun tm0 => (upd (upd (upd tm0 1 (.pointer (some ⟨b1,0,none⟩))) 2 (vI 0)) 16 (.bool ((decide (24 < (p0.fB.length:Int))) || (decide (24 < (p0.fOrders.length:Int))))))) (fun tm0 => ?_) (fun key => ?_)
 ·refine oN (eT ?_)
  rcases iOs h with ⟨hp3,h⟩ | ⟨hp3,h⟩
  ·refine cT (vB hp3) (cS (cR (oY rfl (yAI rfl) (oN (eT (al (aa ?_)))))))
   obtain rfl:=sI h
   exact ap (.inl rfl) rfl (rVt (v:=vI 2) rfl) (fun W2 hW2 => ⟨rfl,hW2.none⟩)
  ·refine cF (vB hp3) (cK (eT (cS (cS (cR (oY rfl (yFA eh rfl) (oY rfl (yL 0 jP rfl rfl rfl) (oY rfl (bd (us:=[]) jr rfl) (oY rfl (yMI rfl) (oN (eT (cB ?_))))))))))))
   obtain ⟨u6,hl26,h⟩:=bOs h
   refine bB (fun (s:(Int × Int)) L tm => ∃ (tm0:Nat → Value),L = [aj b1 57 [.slice Aa p0.fB.length ca,.slice Ab p0.fOrders.length cb]] ∧ tm = (upd (upd (upd (upd (upd tm0 1 (.pointer (some ⟨b1,0,none⟩))) 2 (vI s.1)) 18 (.slice Aa p0.fB.length ca)) 19 (vI (p0.fB.length:Int))) 20 (vI s.2))) 0 hl26 ⟨_,rfl,(kp4 (kp rfl))⟩ ?_ ?_
   ·rintro s5 L tm st ⟨tm0_s5,rfl,rfl⟩ h
    unfold iJ at h
    refine cS (cR (oY rfl (bm rfl rfl) (oN (eT (cS ?_)))))
    rcases iOs h with ⟨hp7,h⟩ | ⟨hp7,h⟩
    ·refine cT (vB hp7) (cK (eT (cS (cB (cS (cR (oY rfl (yMI rfl) ?_)))))))
     obtain ⟨hg8,h⟩:=gOs h
     refine oY rfl (yI lN (by decide) hg8.1 hg8.2 (RdL.arg hr0_0) (eL aK rfl) rfl rfl) ?_
     refine oY rfl (yM (A:=Aa) (j:=(Int.toNat s5.2 * 3)) [vI ((rdL p0.fB s5.2).fID),vI ((rdL p0.fB s5.2).fHour),vI ((rdL p0.fB s5.2).fD)] su (Nat.succ_pos _) (RdL.arg hr0_0) rfl (aU aK hg8.1 (av hg8.2 rfl))) ?_
     refine aB nL rfl (fun b9 => ?_)
     refine oY rfl (yAI rfl) (bT rfl (yS 1 [vI ((rdL p0.fB s5.2).fID),vI ((rdL p0.fB s5.2).fHour),vI ((rdL p0.fB s5.2).fD)] sz_94 rfl (nB rfl) rfl rfl rfl) (oN (eT (cS (cS (cR (oY rfl (yFA j4 rfl) (oY rfl (yL 1 aV rfl rfl rfl) ?_))))))))
     obtain ⟨y10,hy11,h⟩:=bOs h
     refine oY rfl (yC [vI ((rdL p0.fB s5.2).fID),vI 1,vI 1099511627776] ko rfl (fun W2 hW2 => a7 ((rdL p0.fB s5.2).fID) 1 1099511627776 y10 hy11 W2 ) rfl) (oY rfl (bM rfl) (oY rfl (yMB rfl) ?_))
     obtain ⟨b13,hb14,h⟩:=bOs h
     refine oJ 5 (fun tm0 => (upd (upd (upd (upd (upd (upd (upd (upd (upd tm0 1 (.pointer (some ⟨b1,0,none⟩))) 2 (vI s5.1)) 18 (.slice Aa p0.fB.length ca)) 19 (vI (p0.fB.length:Int))) 20 (vI s5.2)) 21 (.bool (decide (s5.2 < (p0.fB.length:Int))))) 4 (.pointer (some ⟨b9,0,none⟩))) 3 (vI s5.2)) 34 (.bool b13))) (fun tm0 => ?_) (fun key => ?_)
     ·refine oY rfl (yMB rfl) ?_
      obtain ⟨b16,hb17,h⟩:=bOs h
      refine oJ 5 (fun tm0 => (upd (upd (upd (upd (upd (upd (upd (upd (upd tm0 1 (.pointer (some ⟨b1,0,none⟩))) 2 (vI s5.1)) 18 (.slice Aa p0.fB.length ca)) 19 (vI (p0.fB.length:Int))) 20 (vI s5.2)) 21 (.bool (decide (s5.2 < (p0.fB.length:Int))))) 4 (.pointer (some ⟨b9,0,none⟩))) 3 (vI s5.2)) 40 (.bool b16))) (fun tm0 => ?_) (fun key => ?_)
      ·refine oN (eT ?_)
       rcases iOs h with ⟨hp18,h⟩ | ⟨hp18,h⟩
       ·refine cT (vB hp18) (cS (cR (oY rfl (yAI rfl) (oN (eT (al (aa (ai (aa (aQ 1 ?_))))))))))
        obtain rfl:=sI h
        exact ax ⟨rfl,_,rfl,(kp4 (kp rfl))⟩
       ·refine cF (vB hp18) (cK (eT (cS (cR (oY rfl (yN 0 [.slice Aa p0.fB.length ca,.slice Ab p0.fOrders.length cb] dc rfl rfl rfl) (oY rfl (yFA j4 rfl) (oY rfl (yL 1 aV rfl rfl rfl) ?_)))))))
        obtain ⟨y19,hy20,h⟩:=bOs h
        refine oY rfl (yC [.agg #[.slice Aa p0.fB.length ca,.slice Ab p0.fOrders.length cb],vI ((rdL p0.fB s5.2).fID)] go_64 rfl (fun W2 hW2 => mO p0 ((rdL p0.fB s5.2).fID) y19 hy20 W2 Aa p0.fB.length ca rfl ((RdL.arg hr0_0) W2 hW2) Ab p0.fOrders.length cb rfl ((RdL.arg hr0_1) W2 hW2)) rfl) (oY rfl (yMI rfl) (oY rfl (bm rfl rfl) (oN (eT ?_))))
        rcases iOs h with ⟨hp21,h⟩ | ⟨hp21,h⟩
        ·refine cT (vB hp21) (cS (cR (oY rfl (yAI rfl) (oN (eT (al (ai (aa (aQ 1 ?_)))))))))
         obtain rfl:=sI h
         exact ax ⟨rfl,_,rfl,(kp4 (kp rfl))⟩
        ·refine cF (vB hp21) (cK (aw (eT (cR (oY rfl (aX rfl rfl) (oY rfl (yMI rfl) (oN (aQ 1 ?_))))))))
         obtain rfl:=sI h
         exact eN ⟨_,rfl,(kp4 (kp rfl))⟩
      ·clear h; rcases iOs hb17 with ⟨hp15,h⟩ | ⟨hp15,h⟩
       ·refine oSk (sF rfl rfl rfl rfl hp15) (oSk (sF rfl rfl rfl rfl hp15) (oSk (sF rfl rfl rfl rfl hp15) (oSk (sF rfl rfl rfl rfl hp15) (oY rfl (ae (vB hp15) rfl) ?_))))
        obtain rfl:=sI h
        exact key _ _ (kp4 (kp4 (kp rfl)))
       ·refine oY (sT rfl rfl rfl rfl hp15) (yFA o5 rfl) (oY (sT rfl rfl rfl rfl hp15) (yL 1 aV rfl rfl rfl) ?_)
        obtain ⟨y22,hy23,h⟩:=bOs h
        refine oY (sT rfl rfl rfl rfl hp15) (yC [vI ((rdL p0.fB s5.2).fD),vI 0,vI 9] ko rfl (fun W2 hW2 => a7 ((rdL p0.fB s5.2).fD) 0 9 y22 hy23 W2 ) rfl) (oY (sT rfl rfl rfl rfl hp15) (bM rfl) (oY rfl (ag (vB hp15) rfl) ?_))
        obtain rfl:=sI h
        exact key _ _ (kp4 (kp4 (kp rfl)))
     ·clear h; rcases iOs hb14 with ⟨hp12,h⟩ | ⟨hp12,h⟩
      ·refine oSk (sF rfl rfl rfl rfl hp12) (oSk (sF rfl rfl rfl rfl hp12) (oSk (sF rfl rfl rfl rfl hp12) (oSk (sF rfl rfl rfl rfl hp12) (oY rfl (ae (vB hp12) rfl) ?_))))
       obtain rfl:=sI h
       exact key _ _ (kp4 (kp4 (kp rfl)))
      ·refine oY (sT rfl rfl rfl rfl hp12) (yFA o8 rfl) (oY (sT rfl rfl rfl rfl hp12) (yL 1 aV rfl rfl rfl) ?_)
       obtain ⟨y24,hy25,h⟩:=bOs h
       refine oY (sT rfl rfl rfl rfl hp12) (yC [vI ((rdL p0.fB s5.2).fHour)] oM rfl (fun W2 hW2 => cV ((rdL p0.fB s5.2).fHour) y24 hy25 W2 ) rfl) (oY (sT rfl rfl rfl rfl hp12) (bM rfl) (oY rfl (ag (vB hp12) rfl) ?_))
       obtain rfl:=sI h
       exact key _ _ (kp4 (kp4 (kp rfl)))
    ·refine cF (vB hp7) (aH (ah ?_))
     obtain rfl:=sI h
     exact ax ⟨rfl,_,rfl,(kp4 (kp rfl))⟩
   ·intro e L tm hJ
    rcases u6 with u27 | u28
    ·dsimp only at h hJ
     obtain ⟨rfl,tm0_u27,rfl,rfl⟩:=hJ
     refine ⟨(by intro hc; cases hc),?_⟩
     refine ai (aa ?_)
     obtain rfl:=sI h
     exact ap (.inl rfl) rfl (rVt (v:=vI u27.1) rfl) (fun W2 hW2 => ⟨rfl,hW2.none⟩)
    ·dsimp only at h hJ
     obtain ⟨rfl,tm0_u28,rfl,rfl⟩:=hJ
     refine ⟨(by intro hc; cases hc),?_⟩
     refine ac (eT (cS (cS (cR (oY rfl (yFA cn rfl) (oY rfl (yL 0 go rfl rfl rfl) (oY rfl (bd (us:=[]) kN rfl) (oY rfl (yMI rfl) (oN (eT (cB ?_)))))))))))
     obtain ⟨u31,hl62,h⟩:=bOs h
     refine bB (fun (s:(Int × Int)) L tm => ∃ (tm0:Nat → Value),L = [aj b1 57 [.slice Aa p0.fB.length ca,.slice Ab p0.fOrders.length cb]] ∧ tm = (upd (upd (upd (upd (upd tm0 1 (.pointer (some ⟨b1,0,none⟩))) 2 (vI s.1)) 49 (.slice Ab p0.fOrders.length cb)) 50 (vI (p0.fOrders.length:Int))) 51 (vI s.2))) 2 hl62 ⟨_,rfl,(kp4 (kp rfl))⟩ ?_ ?_
     ·rintro s30 L tm st ⟨tm0_s30,rfl,rfl⟩ h
      unfold iU at h
      refine cS (cR (oY rfl (bm rfl rfl) (oN (eT (cS ?_)))))
      rcases iOs h with ⟨hp32,h⟩ | ⟨hp32,h⟩
      ·refine cT (vB hp32) (cK (eT (cS (cB (cS (cR (oY rfl (yMI rfl) ?_)))))))
       obtain ⟨hg33,h⟩:=gOs h
       refine oY rfl (yI jM (by decide) hg33.1 hg33.2 (RdL.arg hr0_1) (eL au rfl) rfl rfl) ?_
       refine oY rfl (yM (A:=Ab) (j:=(Int.toNat s30.2 * 5)) [vI ((rdL p0.fOrders s30.2).fID),vI ((rdL p0.fOrders s30.2).fH.fLo),vI ((rdL p0.fOrders s30.2).fH.fHi),vI ((rdL p0.fOrders s30.2).fD),vI ((rdL p0.fOrders s30.2).fW)] pC (Nat.succ_pos _) (RdL.arg hr0_1) rfl (aU au hg33.1 (av hg33.2 rfl))) ?_
       refine aB nJ rfl (fun b34 => ?_)
       refine oY rfl (yAI rfl) (bT rfl (yS 1 [vI ((rdL p0.fOrders s30.2).fID),vI ((rdL p0.fOrders s30.2).fH.fLo),vI ((rdL p0.fOrders s30.2).fH.fHi),vI ((rdL p0.fOrders s30.2).fD),vI ((rdL p0.fOrders s30.2).fW)] sz_96 rfl (nB rfl) rfl rfl rfl) (oN (eT (cS (cS (cR (oY rfl (yFA jR rfl) (oY rfl (yL 1 aV rfl rfl rfl) ?_))))))))
       obtain ⟨y35,hy36,h⟩:=bOs h
       refine oY rfl (yC [vI ((rdL p0.fOrders s30.2).fID),vI 1,vI 1099511627776] ko rfl (fun W2 hW2 => a7 ((rdL p0.fOrders s30.2).fID) 1 1099511627776 y35 hy36 W2 ) rfl) (oY rfl (bM rfl) (oY rfl (yMB rfl) ?_))
       obtain ⟨b38,hb39,h⟩:=bOs h
       refine oJ 6 (fun tm0 => (upd (upd (upd (upd (upd (upd (upd (upd (upd tm0 1 (.pointer (some ⟨b1,0,none⟩))) 2 (vI s30.1)) 49 (.slice Ab p0.fOrders.length cb)) 50 (vI (p0.fOrders.length:Int))) 51 (vI s30.2)) 52 (.bool (decide (s30.2 < (p0.fOrders.length:Int))))) 6 (.pointer (some ⟨b34,0,none⟩))) 5 (vI s30.2)) 66 (.bool b38))) (fun tm0 => ?_) (fun key => ?_)
       ·refine oY rfl (yMB rfl) ?_
        obtain ⟨b41,hb42,h⟩:=bOs h
        refine oJ 6 (fun tm0 => (upd (upd (upd (upd (upd (upd (upd (upd (upd tm0 1 (.pointer (some ⟨b1,0,none⟩))) 2 (vI s30.1)) 49 (.slice Ab p0.fOrders.length cb)) 50 (vI (p0.fOrders.length:Int))) 51 (vI s30.2)) 52 (.bool (decide (s30.2 < (p0.fOrders.length:Int))))) 6 (.pointer (some ⟨b34,0,none⟩))) 5 (vI s30.2)) 73 (.bool b41))) (fun tm0 => ?_) (fun key => ?_)
        ·refine oY rfl (yMB rfl) ?_
         refine oJ 8 (fun tm0 => (upd (upd (upd (upd (upd (upd (upd (upd (upd tm0 1 (.pointer (some ⟨b1,0,none⟩))) 2 (vI s30.1)) 49 (.slice Ab p0.fOrders.length cb)) 50 (vI (p0.fOrders.length:Int))) 51 (vI s30.2)) 52 (.bool (decide (s30.2 < (p0.fOrders.length:Int))))) 6 (.pointer (some ⟨b34,0,none⟩))) 5 (vI s30.2)) 82 (.bool (b41 || (decide ((rdL p0.fOrders s30.2).fH.fHi < (rdL p0.fOrders s30.2).fH.fLo)))))) (fun tm0 => ?_) (fun key => ?_)
         ·refine oY rfl (yMB rfl) ?_
          obtain ⟨b45,hb46,h⟩:=bOs h
          refine oJ 5 (fun tm0 => (upd (upd (upd (upd (upd (upd (upd (upd (upd tm0 1 (.pointer (some ⟨b1,0,none⟩))) 2 (vI s30.1)) 49 (.slice Ab p0.fOrders.length cb)) 50 (vI (p0.fOrders.length:Int))) 51 (vI s30.2)) 52 (.bool (decide (s30.2 < (p0.fOrders.length:Int))))) 6 (.pointer (some ⟨b34,0,none⟩))) 5 (vI s30.2)) 88 (.bool b45))) (fun tm0 => ?_) (fun key => ?_)
          ·refine oY rfl (yMB rfl) ?_
           obtain ⟨b48,hb49,h⟩:=bOs h
           refine oJ 5 (fun tm0 => (upd (upd (upd (upd (upd (upd (upd (upd (upd tm0 1 (.pointer (some ⟨b1,0,none⟩))) 2 (vI s30.1)) 49 (.slice Ab p0.fOrders.length cb)) 50 (vI (p0.fOrders.length:Int))) 51 (vI s30.2)) 52 (.bool (decide (s30.2 < (p0.fOrders.length:Int))))) 6 (.pointer (some ⟨b34,0,none⟩))) 5 (vI s30.2)) 94 (.bool b48))) (fun tm0 => ?_) (fun key => ?_)
           ·refine oN (eT ?_)
            rcases iOs h with ⟨hp50,h⟩ | ⟨hp50,h⟩
            ·refine cT (vB hp50) (cS (cR (oY rfl (yAI rfl) (oN (eT (al (aa (ai (aa (aQ 1 ?_))))))))))
             obtain rfl:=sI h
             exact ax ⟨rfl,_,rfl,(kp4 (kp rfl))⟩
            ·refine cF (vB hp50) (cK (eT (cS (cR (oY rfl (yN 0 [.slice Aa p0.fB.length ca,.slice Ab p0.fOrders.length cb] dc rfl rfl rfl) (oY rfl (yFA jR rfl) (oY rfl (yL 1 aV rfl rfl rfl) ?_)))))))
             obtain ⟨y51,hy52,h⟩:=bOs h
             refine oY rfl (yC [.agg #[.slice Aa p0.fB.length ca,.slice Ab p0.fOrders.length cb],vI ((rdL p0.fOrders s30.2).fID)] go_60 rfl (fun W2 hW2 => jg p0 ((rdL p0.fOrders s30.2).fID) y51 hy52 W2 Aa p0.fB.length ca rfl ((RdL.arg hr0_0) W2 hW2) Ab p0.fOrders.length cb rfl ((RdL.arg hr0_1) W2 hW2)) rfl) (oY rfl (yMI rfl) (oY rfl (bm rfl rfl) (oN (eT ?_))))
             rcases iOs h with ⟨hp53,h⟩ | ⟨hp53,h⟩
             ·refine cT (vB hp53) (cS (cR (oY rfl (yAI rfl) (oN (eT (al (ai (aa (aQ 1 ?_)))))))))
              obtain rfl:=sI h
              exact ax ⟨rfl,_,rfl,(kp4 (kp rfl))⟩
             ·refine cF (vB hp53) (cK (aw (eT (cR (oY rfl (aX rfl rfl) (oY rfl (yMI rfl) (oN (aQ 1 ?_))))))))
              obtain rfl:=sI h
              exact eN ⟨_,rfl,(kp4 (kp rfl))⟩
           ·clear h; rcases iOs hb49 with ⟨hp47,h⟩ | ⟨hp47,h⟩
            ·refine oSk (sF rfl rfl rfl rfl hp47) (oSk (sF rfl rfl rfl rfl hp47) (oSk (sF rfl rfl rfl rfl hp47) (oSk (sF rfl rfl rfl rfl hp47) (oY rfl (ae (vB hp47) rfl) ?_))))
             obtain rfl:=sI h
             exact key _ _ (kp4 (kp4 (kp rfl)))
            ·refine oY (sT rfl rfl rfl rfl hp47) (yFA iG rfl) (oY (sT rfl rfl rfl rfl hp47) (yL 1 aV rfl rfl rfl) ?_)
             obtain ⟨y54,hy55,h⟩:=bOs h
             refine oY (sT rfl rfl rfl rfl hp47) (yC [vI ((rdL p0.fOrders s30.2).fW),vI 1,vI 1000] ko rfl (fun W2 hW2 => a7 ((rdL p0.fOrders s30.2).fW) 1 1000 y54 hy55 W2 ) rfl) (oY (sT rfl rfl rfl rfl hp47) (bM rfl) (oY rfl (ag (vB hp47) rfl) ?_))
             obtain rfl:=sI h
             exact key _ _ (kp4 (kp4 (kp rfl)))
          ·clear h; rcases iOs hb46 with ⟨hp44,h⟩ | ⟨hp44,h⟩
           ·refine oSk (sF rfl rfl rfl rfl hp44) (oSk (sF rfl rfl rfl rfl hp44) (oSk (sF rfl rfl rfl rfl hp44) (oSk (sF rfl rfl rfl rfl hp44) (oY rfl (ae (vB hp44) rfl) ?_))))
            obtain rfl:=sI h
            exact key _ _ (kp4 (kp4 (kp rfl)))
           ·refine oY (sT rfl rfl rfl rfl hp44) (yFA po rfl) (oY (sT rfl rfl rfl rfl hp44) (yL 1 aV rfl rfl rfl) ?_)
            obtain ⟨y56,hy57,h⟩:=bOs h
            refine oY (sT rfl rfl rfl rfl hp44) (yC [vI ((rdL p0.fOrders s30.2).fD),vI 0,vI 9] ko rfl (fun W2 hW2 => a7 ((rdL p0.fOrders s30.2).fD) 0 9 y56 hy57 W2 ) rfl) (oY (sT rfl rfl rfl rfl hp44) (bM rfl) (oY rfl (ag (vB hp44) rfl) ?_))
            obtain rfl:=sI h
            exact key _ _ (kp4 (kp4 (kp rfl)))
         ·rcases aq b41 with hp43 | hp43
          ·refine oSk (sF rfl rfl rfl rfl hp43) (oSk (sF rfl rfl rfl rfl hp43) (oSk (sF rfl rfl rfl rfl hp43) (oSk (sF rfl rfl rfl rfl hp43) (oSk (sF rfl rfl rfl rfl hp43) (oSk (sF rfl rfl rfl rfl hp43) (oSk (sF rfl rfl rfl rfl hp43) (oY rfl (ae (vB hp43) rfl) ?_)))))))
           exact key _ _ (keep (keep (keep (keep (keep (keep (keep (keep (keep rfl rfl) rfl) rfl) rfl) rfl) rfl) rfl) rfl) (vB (iI hp43)))
          ·refine oY (sT rfl rfl rfl rfl hp43) (yFA gx rfl) (oY (sT rfl rfl rfl rfl hp43) (yFA co rfl) (oY (sT rfl rfl rfl rfl hp43) (yL 1 aV rfl rfl rfl) (oY (sT rfl rfl rfl rfl hp43) (yFA gx rfl) (oY (sT rfl rfl rfl rfl hp43) (yFA bL rfl) (oY (sT rfl rfl rfl rfl hp43) (yL 1 aV rfl rfl rfl) (oY (sT rfl rfl rfl rfl hp43) (eI rfl rfl) (oY rfl (ag (vB hp43) rfl) ?_)))))))
           exact key _ _ (keep (keep (keep (keep (keep (keep (keep (keep (keep rfl rfl) rfl) rfl) rfl) rfl) rfl) rfl) rfl) (vB (iH hp43)))
        ·clear h; rcases iOs hb42 with ⟨hp40,h⟩ | ⟨hp40,h⟩
         ·refine oSk (sF rfl rfl rfl rfl hp40) (oSk (sF rfl rfl rfl rfl hp40) (oSk (sF rfl rfl rfl rfl hp40) (oSk (sF rfl rfl rfl rfl hp40) (oSk (sF rfl rfl rfl rfl hp40) (oY rfl (ae (vB hp40) rfl) ?_)))))
          obtain rfl:=sI h
          exact key _ _ (kp4 (kp4 (kp rfl)))
         ·refine oY (sT rfl rfl rfl rfl hp40) (yFA gx rfl) (oY (sT rfl rfl rfl rfl hp40) (yFA bL rfl) (oY (sT rfl rfl rfl rfl hp40) (yL 1 aV rfl rfl rfl) ?_))
          obtain ⟨y58,hy59,h⟩:=bOs h
          refine oY (sT rfl rfl rfl rfl hp40) (yC [vI ((rdL p0.fOrders s30.2).fH.fHi)] oM rfl (fun W2 hW2 => cV ((rdL p0.fOrders s30.2).fH.fHi) y58 hy59 W2 ) rfl) (oY (sT rfl rfl rfl rfl hp40) (bM rfl) (oY rfl (ag (vB hp40) rfl) ?_))
          obtain rfl:=sI h
          exact key _ _ (kp4 (kp4 (kp rfl)))
       ·clear h; rcases iOs hb39 with ⟨hp37,h⟩ | ⟨hp37,h⟩
        ·refine oSk (sF rfl rfl rfl rfl hp37) (oSk (sF rfl rfl rfl rfl hp37) (oSk (sF rfl rfl rfl rfl hp37) (oSk (sF rfl rfl rfl rfl hp37) (oSk (sF rfl rfl rfl rfl hp37) (oY rfl (ae (vB hp37) rfl) ?_)))))
         obtain rfl:=sI h
         exact key _ _ (kp4 (kp4 (kp rfl)))
        ·refine oY (sT rfl rfl rfl rfl hp37) (yFA gx rfl) (oY (sT rfl rfl rfl rfl hp37) (yFA co rfl) (oY (sT rfl rfl rfl rfl hp37) (yL 1 aV rfl rfl rfl) ?_))
         obtain ⟨y60,hy61,h⟩:=bOs h
         refine oY (sT rfl rfl rfl rfl hp37) (yC [vI ((rdL p0.fOrders s30.2).fH.fLo)] oM rfl (fun W2 hW2 => cV ((rdL p0.fOrders s30.2).fH.fLo) y60 hy61 W2 ) rfl) (oY (sT rfl rfl rfl rfl hp37) (bM rfl) (oY rfl (ag (vB hp37) rfl) ?_))
         obtain rfl:=sI h
         exact key _ _ (kp4 (kp4 (kp rfl)))
      ·refine cF (vB hp32) (aH (ah ?_))
       obtain rfl:=sI h
       exact ax ⟨rfl,_,rfl,(kp4 (kp rfl))⟩
     ·intro e L tm hJ
      rcases u31 with u63 | u64
      ·dsimp only at h hJ
       obtain ⟨rfl,tm0_u63,rfl,rfl⟩:=hJ
       refine ⟨(by intro hc; cases hc),?_⟩
       refine ai (aa ?_)
       obtain rfl:=sI h
       exact ap (.inl rfl) rfl (rVt (v:=vI u63.1) rfl) (fun W2 hW2 => ⟨rfl,hW2.none⟩)
      ·dsimp only at h hJ
       obtain ⟨rfl,tm0_u64,rfl,rfl⟩:=hJ
       refine ⟨(by intro hc; cases hc),?_⟩
       refine ac (eT (cS (cR (oY rfl (yAI rfl) (oN (eT (al ?_)))))))
       obtain rfl:=sI h
       exact ap (.inl rfl) rfl (rVt (v:=vI 0) rfl) (fun W2 hW2 => ⟨rfl,hW2.none⟩)
 ·rcases aq (decide (24 < (p0.fB.length:Int))) with hp2 | hp2
  ·refine oSk (sF rfl rfl rfl rfl hp2) (oSk (sF rfl rfl rfl rfl hp2) (oSk (sF rfl rfl rfl rfl hp2) (oSk (sF rfl rfl rfl rfl hp2) (oY rfl (ae (vB hp2) rfl) ?_))))
   exact key _ _ (keep (keep (keep rfl rfl) rfl) (vB (iI hp2)))
  ·refine oY (sT rfl rfl rfl rfl hp2) (yFA cn rfl) (oY (sT rfl rfl rfl rfl hp2) (yL 0 go rfl rfl rfl) (oY (sT rfl rfl rfl rfl hp2) (bd (us:=[]) kN rfl) (oY (sT rfl rfl rfl rfl hp2) (eI rfl rfl) (oY rfl (ag (vB hp2) rfl) ?_))))
   exact key _ _ (keep (keep (keep rfl rfl) rfl) (vB (iH hp2)))
theorem fo (p0:(List Int)) (p1:Int) (p2:Int) (p3:Int → Int → Option Int) (res:(List Int)) (h:bZ p0 p1 p2 p3 = some res) (W:World) (w0:World) (R:Res) (Aa:Option Addr) (n0_0 ca : Nat) (hn0_0:n0_0 = p0.length) (fid3:Nat) (fst3 caps3 : List Value) (hgo3:bx Tryz.prog fid3 = true) (hof3:∀ W2,Below w0.heap.size w0 W2 → R.holds W2 → ∀ x0 x1,∀ y,p3 x0 x1 = some y → Calls Tryz.prog fid3 (fst3 ++ (([vI x0,vI x1] : List Value) ++ caps3)).toArray W2 fun e W3 => e = .returned (vI y) ∧ Ext W2 W3 []) (hW:Ext w0 W [R,aI Aa ca 3 1 n0_0 (encL cI p0)]) :
  Calls Tryz.prog 135 [.slice Aa n0_0 ca,vI p1,vI p2,.func (.func fid3) fst3.toArray caps3.toArray].toArray W fun e W2 => e = .returned (.tuple #[]) ∧ n0_0 = res.length ∧ Ext w0 W2 [R,aI Aa ca 3 1 n0_0 (encL cI res)]:=by
 subst hn0_0
 unfold bZ at h
 refine aM (m:=53) Tryz.func135 rfl rfl (nB rfl) hW (cS (cR (oY rfl (yMI rfl) (oY rfl (aX rfl rfl) (oY rfl (yAI rfl) (oN (eT (cB ?_))))))))
 obtain ⟨u4,hl24,h⟩:=bOs h
 refine bc (fun (s:(Int × (List Int))) L tm => ∃ (tm0:Nat → Value),p0.length = s.2.length ∧ L = [R,aI Aa ca 3 1 p0.length (encL cI s.2)] ∧ tm = (upd (upd (upd (upd (upd tm0 0 (.slice Aa p0.length ca)) 1 (vI p1)) 2 (vI p2)) 3 (.func (.func fid3) fst3.toArray caps3.toArray)) 8 (vI s.1))) 0 hl24 ⟨_,rfl,rfl,(kp4 (kp rfl))⟩ ?_ ?_
 ·rintro s3 L tm st ⟨tm0_s3,hn1_s3,rfl,rfl⟩ h
  unfold cQ at h
  refine cS (cS (cR (oY rfl (yMI rfl) (oY rfl (yMI rfl) (oY rfl (bm rfl rfl) (oN (eT ?_)))))))
  rcases iOs h with ⟨hp5,h⟩ | ⟨hp5,h⟩
  ·refine cT (vB hp5) (cK (eT (cS (cB (cS (cR (oY rfl (yMI rfl) (oY rfl (yAI rfl) (oN (eT (cB ?_)))))))))))
   obtain ⟨u9,hl23,h⟩:=bOs h
   refine bc (fun (s:(Int × (List Int))) L tm => ∃ (tm0:Nat → Value),p0.length = s.2.length ∧ L = [R,aI Aa ca 3 1 p0.length (encL cI s.2)] ∧ tm = (upd (upd (upd (upd (upd (upd (upd tm0 0 (.slice Aa p0.length ca)) 1 (vI p1)) 2 (vI p2)) 3 (.func (.func fid3) fst3.toArray caps3.toArray)) 8 (vI s3.1)) 14 (.bool (decide (s3.1 < p2)))) 9 (vI s.1))) 2 hl23 ⟨_,hn1_s3,rfl,(kp4 (kp (kp (kp rfl))))⟩ ?_ ?_
   ·rintro s8 L tm st ⟨tm0_s8,hn1_s8,rfl,rfl⟩ h
    unfold cP at h
    refine cS (cS ?_)
    refine ba 17 cm (by kernel_rfl) (by kernel_rfl) ?_
    refine qY rfl (yMI rfl) (qY rfl (yMI rfl) (qY rfl (eI rfl rfl) (qY rfl (yMB rfl) ?_)))
    obtain ⟨b11,hb12,h⟩:=bOs h
    refine qJ 13 (fun tm0 => (upd (upd (upd (upd (upd (upd (upd (upd tm0 0 (.slice Aa p0.length ca)) 1 (vI p1)) 2 (vI p2)) 3 (.func (.func fid3) fst3.toArray caps3.toArray)) 8 (vI s3.1)) 14 (.bool (decide (s3.1 < p2)))) 9 (vI s8.1)) 34 (.bool b11))) (fun tm0 => ?_) (fun key => ?_)
    ·refine bX (oN (eT ?_))
     rcases iOs h with ⟨hp13,h⟩ | ⟨hp13,h⟩
     ·refine cT (vB hp13) (cK (eT (cS (cB ?_))))
      obtain ⟨hg15,h⟩:=gOs h
      obtain ⟨hg16,h⟩:=gOs h
      obtain ⟨hg17,h⟩:=gOs h
      obtain ⟨hg18,h⟩:=gOs h
      refine dJ [[],[],[],[],[3],[],[],[6],[5,6,7],[5,6,7,8],[],[],[10,11],[10,11,12],[0,1,5,6,7,8,9,10,11,12,13],[0,1,5,6,7,8,9,10,11,12,13,14],[0,1,2,3,4,5,6,7,8,9,10,11,12,13,14,15],[0,1,2,3,4,5,6,7,8,9,10,11,12,13,14,15,16]] [(none,0,[true,true]),(none,0,[true,true]),(none,0,[true,false]),(none,0,[true,false]),(none,0,[true,false]),(none,0,[true,true]),(none,0,[true,true]),(none,0,[true,true]),(none,0,[true,true]),(none,0,[true,true]),(none,0,[true,true]),(none,0,[true,true]),(none,0,[true,true]),(none,0,[true,true]),(none,0,[true,true]),(some 1,0,[true,true]),(none,0,[true,true]),(some 1,0,[true,true])] [⟨fun _ => .slice Aa p0.length ca,fun _ => noR,fun _ => []⟩,⟨fun _ => vI s8.1,fun _ => noR,fun _ => []⟩,⟨fun _ => .slice Aa p0.length ca,fun _ => noR,fun _ => []⟩,⟨fun _ => vI s8.1,fun _ => noR,fun _ => []⟩,⟨fun _ => vI (w64 (s8.1 - 1)),fun _ => noR,fun _ => []⟩,⟨fun _ => .slice Aa p0.length ca,fun _ => noR,fun _ => []⟩,⟨fun _ => vI s8.1,fun _ => noR,fun _ => []⟩,⟨fun _ => vI (w64 (s8.1 - 1)),fun _ => noR,fun _ => []⟩,⟨fun _ => slA Aa (Int.toNat (w64 (s8.1 - 1)) * 1),fun _ => noR,fun _ => []⟩,⟨fun _ => vI (rdL s8.2 (w64 (s8.1 - 1))),fun _ => noR,fun _ => []⟩,⟨fun _ => .slice Aa p0.length ca,fun _ => noR,fun _ => []⟩,⟨fun _ => vI s8.1,fun _ => noR,fun _ => []⟩,⟨fun _ => slA Aa (Int.toNat s8.1 * 1),fun _ => noR,fun _ => []⟩,⟨fun _ => vI (rdL s8.2 s8.1),fun _ => noR,fun _ => []⟩,⟨fun _ => slA Aa (Int.toNat s8.1 * 1),fun _ => noR,fun _ => []⟩,⟨fun _ => undef,fun _ => aI Aa ca 3 1 p0.length (encL cI (s8.2.set (Int.toNat s8.1) (rdL s8.2 (w64 (s8.1 - 1))))),fun _ => []⟩,⟨fun _ => slA Aa (Int.toNat (w64 (s8.1 - 1)) * 1),fun _ => noR,fun _ => []⟩,⟨fun _ => undef,fun _ => aI Aa ca 3 1 p0.length (encL cI ((s8.2.set (Int.toNat s8.1) (rdL s8.2 (w64 (s8.1 - 1)))).set (Int.toNat (w64 (s8.1 - 1))) (rdL s8.2 s8.1))),fun _ => []⟩] 2 cm (by kernel_rfl) (by kernel_rfl) ⟨⟨fun ξ14 ξ14' h => ⟨rfl,rfl,rfl⟩,fun _ => rfl⟩,⟨fun ξ14 ξ14' h => ⟨rfl,rfl,rfl⟩,fun _ => rfl⟩,⟨fun ξ14 ξ14' h => ⟨rfl,rfl,rfl⟩,fun _ => rfl⟩,⟨fun ξ14 ξ14' h => ⟨rfl,rfl,rfl⟩,fun _ => rfl⟩,⟨fun ξ14 ξ14' h => ⟨rfl,rfl,rfl⟩,fun _ => rfl⟩,⟨fun ξ14 ξ14' h => ⟨rfl,rfl,rfl⟩,fun _ => rfl⟩,⟨fun ξ14 ξ14' h => ⟨rfl,rfl,rfl⟩,fun _ => rfl⟩,⟨fun ξ14 ξ14' h => ⟨rfl,rfl,rfl⟩,fun _ => rfl⟩,⟨fun ξ14 ξ14' h => ⟨rfl,rfl,rfl⟩,fun _ => rfl⟩,⟨fun ξ14 ξ14' h => ⟨rfl,rfl,rfl⟩,fun _ => rfl⟩,⟨fun ξ14 ξ14' h => ⟨rfl,rfl,rfl⟩,fun _ => rfl⟩,⟨fun ξ14 ξ14' h => ⟨rfl,rfl,rfl⟩,fun _ => rfl⟩,⟨fun ξ14 ξ14' h => ⟨rfl,rfl,rfl⟩,fun _ => rfl⟩,⟨fun ξ14 ξ14' h => ⟨rfl,rfl,rfl⟩,fun _ => rfl⟩,⟨fun ξ14 ξ14' h => ⟨rfl,rfl,rfl⟩,fun _ => rfl⟩,⟨fun ξ14 ξ14' h => ⟨rfl,rfl,rfl⟩,fun _ => rfl⟩,⟨fun ξ14 ξ14' h => ⟨rfl,rfl,rfl⟩,fun _ => rfl⟩,⟨fun ξ14 ξ14' h => ⟨rfl,rfl,rfl⟩,fun _ => rfl⟩,trivial⟩ rfl (fun ξ14 => ?_)
      refine bJ rfl (fun L2 => ?_) ?_
      ·dsimp only [aC,lca,lna]
       refine oY rfl (yMS rfl) (oN ?_)
       exact ar (fun _ => (none,0,0,[],noR)) rfl (List.append_nil _)
      dsimp only [bw,lsz,lss,lna,lca,List.append_nil]
      refine bJ rfl (fun L2 => ?_) ?_
      ·dsimp only [aC,lca,lna]
       refine oY rfl (yMI rfl) (oN ?_)
       exact ar (fun _ => (none,0,0,[],noR)) rfl (List.append_nil _)
      dsimp only [bw,lsz,lss,lna,lca,List.append_nil]
      refine bJ rfl (fun L2 => ?_) ?_
      ·dsimp only [aC,lca,lna]
       refine oY rfl (yMS rfl) (oN ?_)
       exact ar (fun _ => (none,0,0,[],noR)) rfl (List.append_nil _)
      dsimp only [bw,lsz,lss,lna,lca,List.append_nil]
      refine bJ rfl (fun L2 => ?_) ?_
      ·dsimp only [aC,lca,lna]
       refine oY rfl (yMI rfl) (oN ?_)
       exact ar (fun _ => (none,0,0,[],noR)) rfl (List.append_nil _)
      dsimp only [bw,lsz,lss,lna,lca,List.append_nil]
      refine bJ rfl (fun L2 => ?_) ?_
      ·dsimp only [aC,lca,lna]
       refine oY rfl (dV rfl rfl) (oN ?_)
       exact ar (fun _ => (none,0,0,[],noR)) rfl (List.append_nil _)
      dsimp only [bw,lsz,lss,lna,lca,List.append_nil]
      refine bJ rfl (fun L2 => ?_) ?_
      ·dsimp only [aC,lca,lna]
       refine oY rfl (yMS rfl) (oN ?_)
       exact ar (fun _ => (none,0,0,[],noR)) rfl (List.append_nil _)
      dsimp only [bw,lsz,lss,lna,lca,List.append_nil]
      refine bJ rfl (fun L2 => ?_) ?_
      ·dsimp only [aC,lca,lna]
       refine oY rfl (yMI rfl) (oN ?_)
       exact ar (fun _ => (none,0,0,[],noR)) rfl (List.append_nil _)
      dsimp only [bw,lsz,lss,lna,lca,List.append_nil]
      refine bJ rfl (fun L2 => ?_) ?_
      ·dsimp only [aC,lca,lna]
       refine oY rfl (dV rfl rfl) (oN ?_)
       exact ar (fun _ => (none,0,0,[],noR)) rfl (List.append_nil _)
      dsimp only [bw,lsz,lss,lna,lca,List.append_nil]
      refine bJ rfl (fun L2 => ?_) ?_
      ·dsimp only [aC,lca,lna]
       refine oY rfl (yI d7 (by decide) hg15.1 hg15.2 (RdL.row 1 rfl) (eL aJ hn1_s8) rfl rfl) ?_
       refine oN ?_
       exact ar (fun _ => (none,0,0,[],noR)) rfl (List.append_nil _)
      dsimp only [bw,lsz,lss,lna,lca,List.append_nil]
      refine bJ rfl (fun L2 => ?_) ?_
      ·dsimp only [aC,lca,lna]
       refine oY rfl (yR (A:=Aa) (j:=(Int.toNat (w64 (s8.1 - 1)) * 1)) (v:=vI (rdL s8.2 (w64 (s8.1 - 1)))) aV (RdL.row 1 rfl) rfl (a6 aJ hg15.1 (av hg15.2 hn1_s8) rfl)) (oN ?_)
       exact ar (fun _ => (none,0,0,[],noR)) rfl (List.append_nil _)
      dsimp only [bw,lsz,lss,lna,lca,List.append_nil]
      refine bJ rfl (fun L2 => ?_) ?_
      ·dsimp only [aC,lca,lna]
       refine oY rfl (yMS rfl) (oN ?_)
       exact ar (fun _ => (none,0,0,[],noR)) rfl (List.append_nil _)
      dsimp only [bw,lsz,lss,lna,lca,List.append_nil]
      refine bJ rfl (fun L2 => ?_) ?_
      ·dsimp only [aC,lca,lna]
       refine oY rfl (yMI rfl) (oN ?_)
       exact ar (fun _ => (none,0,0,[],noR)) rfl (List.append_nil _)
      dsimp only [bw,lsz,lss,lna,lca,List.append_nil]
      refine bJ rfl (fun L2 => ?_) ?_
      ·dsimp only [aC,lca,lna]
       refine oY rfl (yI d7 (by decide) hg16.1 hg16.2 (RdL.row 1 rfl) (eL aJ hn1_s8) rfl rfl) ?_
       refine oN ?_
       exact ar (fun _ => (none,0,0,[],noR)) rfl (List.append_nil _)
      dsimp only [bw,lsz,lss,lna,lca,List.append_nil]
      refine bJ rfl (fun L2 => ?_) ?_
      ·dsimp only [aC,lca,lna]
       refine oY rfl (yR (A:=Aa) (j:=(Int.toNat s8.1 * 1)) (v:=vI (rdL s8.2 s8.1)) aV (RdL.row 1 rfl) rfl (a6 aJ hg16.1 (av hg16.2 hn1_s8) rfl)) (oN ?_)
       exact ar (fun _ => (none,0,0,[],noR)) rfl (List.append_nil _)
      dsimp only [bw,lsz,lss,lna,lca,List.append_nil]
      refine bJ rfl (fun L2 => ?_) ?_
      ·dsimp only [aC,lca,lna]
       refine oY rfl (yI d7 (by decide) hg17.1 hg17.2 (RdL.row 1 rfl) (eL aJ hn1_s8) rfl rfl) ?_
       refine oN ?_
       exact ar (fun _ => (none,0,0,[],noR)) rfl (List.append_nil _)
      dsimp only [bw,lsz,lss,lna,lca,List.append_nil]
      refine qI rfl (fun L2 => ?_) ?_
      ·dsimp only [aC,lca,lna]
       refine bT rfl (iO 1 (xs:=s8.2) aJ (rdL s8.2 (w64 (s8.1 - 1))) p6 rfl hg17.1 (av hg17.2 hn1_s8) rfl rfl rfl rfl) (oN ?_)
       first | exact bA (fun _ => (none,0,0,[],noR)) rfl | exact bA (fun _ => (none,0,0,[],noR)) (List.append_nil _)
      dsimp only [bw,lsz,lss,lna,lca,List.append_nil]
      refine bJ rfl (fun L2 => ?_) ?_
      ·dsimp only [aC,lca,lna]
       refine oY rfl (yI d7 (by decide) hg18.1 hg18.2 (RdL.row 1 rfl) (eL aJ (cU hn1_s8)) rfl rfl) ?_
       refine oN ?_
       exact ar (fun _ => (none,0,0,[],noR)) rfl (List.append_nil _)
      dsimp only [bw,lsz,lss,lna,lca,List.append_nil]
      refine qI rfl (fun L2 => ?_) ?_
      ·dsimp only [aC,lca,lna]
       refine bT rfl (iO 1 (xs:=(s8.2.set (Int.toNat s8.1) (rdL s8.2 (w64 (s8.1 - 1))))) aJ (rdL s8.2 s8.1) p6 rfl hg18.1 (av hg18.2 (cU hn1_s8)) rfl rfl rfl rfl) (oN ?_)
       first | exact bA (fun _ => (none,0,0,[],noR)) rfl | exact bA (fun _ => (none,0,0,[],noR)) (List.append_nil _)
      dsimp only [bw,lsz,lss,lna,lca,List.append_nil]
      refine jm (aw (eT (cR (oY rfl (yMI rfl) (oY rfl (dV rfl rfl) (oY rfl (yAI rfl) (oN ?_)))))))
      obtain rfl:=sI h
      exact eN ⟨_,(cU (cU hn1_s8)),rfl,(kp4 (kp (kp (kp rfl))))⟩
     ·refine cF (vB hp13) (aH (ah ?_))
      obtain rfl:=sI h
      exact ax ⟨rfl,_,hn1_s8,rfl,(kp4 (kp (kp (kp rfl))))⟩
    ·clear h; rcases iOs hb12 with ⟨hp10,h⟩ | ⟨hp10,h⟩
     ·refine qY (sT rfl rfl rfl rfl hp10) (bH (v:=.func (.func fid3) fst3.toArray caps3.toArray) rfl) (qY (sT rfl rfl rfl rfl hp10) (yMS rfl) (qY (sT rfl rfl rfl rfl hp10) (yMI rfl) ?_))
      obtain ⟨hg19,h⟩:=gOs h
      refine qY (sT rfl rfl rfl rfl hp10) (yI d7 (by decide) hg19.1 hg19.2 (RdL.row 1 rfl) (eL aJ hn1_s8) rfl rfl) ?_
      refine qY (sT rfl rfl rfl rfl hp10) (yR (A:=Aa) (j:=(Int.toNat s8.1 * 1)) (v:=vI (rdL s8.2 s8.1)) aV (RdL.row 1 rfl) rfl (a6 aJ hg19.1 (av hg19.2 hn1_s8) rfl)) (qY (sT rfl rfl rfl rfl hp10) (yMS rfl) (qY (sT rfl rfl rfl rfl hp10) (yMI rfl) (qY (sT rfl rfl rfl rfl hp10) (dV rfl rfl) ?_)))
      obtain ⟨hg20,h⟩:=gOs h
      refine qY (sT rfl rfl rfl rfl hp10) (yI d7 (by decide) hg20.1 hg20.2 (RdL.row 1 rfl) (eL aJ hn1_s8) rfl rfl) ?_
      refine qY (sT rfl rfl rfl rfl hp10) (yR (A:=Aa) (j:=(Int.toNat (w64 (s8.1 - 1)) * 1)) (v:=vI (rdL s8.2 (w64 (s8.1 - 1)))) aV (RdL.row 1 rfl) rfl (a6 aJ hg20.1 (av hg20.2 hn1_s8) rfl)) ?_
      obtain ⟨y21,hy22,h⟩:=bOs h
      refine qY (sT rfl rfl rfl rfl hp10) (ge [vI (rdL s8.2 s8.1),vI (rdL s8.2 (w64 (s8.1 - 1)))] hgo3 rfl rfl (fun W2 hW2 => hof3 W2 hW2.below (hW2.mem (i:=0) rfl) (rdL s8.2 s8.1) (rdL s8.2 (w64 (s8.1 - 1))) y21 hy22)) (qY (sT rfl rfl rfl rfl hp10) (bm rfl rfl) (qY rfl (ae (vB hp10) rfl) ?_))
      obtain rfl:=sI h
      exact key _ _ (kp4 (kp4 rfl))
     ·refine am (sF rfl rfl rfl rfl hp10) (am (sF rfl rfl rfl rfl hp10) (am (sF rfl rfl rfl rfl hp10) (am (sF rfl rfl rfl rfl hp10) (am (sF rfl rfl rfl rfl hp10) (am (sF rfl rfl rfl rfl hp10) (am (sF rfl rfl rfl rfl hp10) (am (sF rfl rfl rfl rfl hp10) (am (sF rfl rfl rfl rfl hp10) (am (sF rfl rfl rfl rfl hp10) (am (sF rfl rfl rfl rfl hp10) (am (sF rfl rfl rfl rfl hp10) (qY rfl (ag (vB hp10) rfl) ?_))))))))))))
      obtain rfl:=sI h
      exact key _ _ (kp4 (kp4 rfl))
   ·intro e L tm hJ
    obtain ⟨rfl,tm0_u9,hn1_u9,rfl,rfl⟩:=hJ
    refine ⟨(by intro hc; cases hc),?_⟩
    refine ac (aw (eT (cR (oY rfl (yMI rfl) (oY rfl (aX rfl rfl) (oY rfl (yAI rfl) (oN ?_)))))))
    obtain rfl:=sI h
    exact eN ⟨_,hn1_u9,rfl,(kp4 (kp rfl))⟩
  ·refine cF (vB hp5) (aH (ah ?_))
   obtain rfl:=sI h
   exact ax ⟨rfl,_,hn1_s3,rfl,(kp4 (kp rfl))⟩
 ·intro e L tm hJ
  obtain ⟨rfl,tm0_u4,hn1_u4,rfl,rfl⟩:=hJ
  refine ⟨(by intro hc; cases hc),?_⟩
  refine ac ?_
  obtain rfl:=sI h
  exact bR (.inr rfl) rfl  (fun W2 hW2 => ⟨rfl,hn1_u4,hW2.take 2⟩)
theorem gW (p0:(List Int)) (p1:Int) (p2:Int → Int → Option Int) (res:(List Int)) (h:dm p0 p1 p2 = some res) (W:World) (w0:World) (R:Res) (Aa:Option Addr) (n0_0 ca : Nat) (hn0_0:n0_0 = p0.length) (fid2:Nat) (fst2 caps2 : List Value) (hgo2:bx Tryz.prog fid2 = true) (hof2:∀ W2,Below w0.heap.size w0 W2 → R.holds W2 → ∀ x0 x1,∀ y,p2 x0 x1 = some y → Calls Tryz.prog fid2 (fst2 ++ (([vI x0,vI x1] : List Value) ++ caps2)).toArray W2 fun e W3 => e = .returned (vI y) ∧ Ext W2 W3 []) (hW:Ext w0 W [R,aI Aa ca 3 1 n0_0 (encL cI p0)]) :
  Calls Tryz.prog 116 [.slice Aa n0_0 ca,vI p1,.func (.func fid2) fst2.toArray caps2.toArray].toArray W fun e W2 => e = .returned (.tuple #[]) ∧ n0_0 = res.length ∧ Ext w0 W2 [R,aI Aa ca 3 1 n0_0 (encL cI res)]:=by
 subst hn0_0
 unfold dm at h
 refine aM (m:=63) Tryz.func116 rfl rfl (nB rfl) hW (cS (cR (oY rfl (yAI rfl) (oN (eT (cS (cR (oY rfl (yMI rfl) (oY rfl (yAI rfl) (oY rfl (yAI rfl) (oN (eT (cS (cB ?_))))))))))))))
 obtain ⟨u3,hl5,h⟩:=bOs h
 refine bc (fun (s:(Int × Int)) L tm => ∃ (tm0:Nat → Value),L = [R,aI Aa ca 3 1 p0.length (encL cI p0)] ∧ tm = (upd (upd (upd (upd (upd (upd tm0 0 (.slice Aa p0.length ca)) 1 (vI p1)) 2 (.func (.func fid2) fst2.toArray caps2.toArray)) 6 (vI 20)) 7 (vI s.1)) 8 (vI s.2))) 0 hl5 ⟨_,rfl,(kp4 (kp (kp rfl)))⟩ ?_ ?_
 ·rintro s2 L tm st ⟨tm0_s2,rfl,rfl⟩ h
  unfold dY at h
  refine cS (cS (cR (oY rfl (yMI rfl) (oY rfl (yMI rfl) (oY rfl (jX rfl rfl) (oN (eT ?_)))))))
  obtain ⟨hp4,h⟩:=gOs h
  refine cF (vB hp4) (aH (ah ?_))
  obtain rfl:=sI h
  exact ax ⟨rfl,_,rfl,(kp4 (kp (kp rfl)))⟩
 ·intro e L tm hJ
  obtain ⟨rfl,tm0_u3,rfl,rfl⟩:=hJ
  refine ⟨(by intro hc; cases hc),?_⟩
  refine ac (eT (cS (cR (oY rfl (yMS rfl) (oY rfl (yMI rfl) (oY rfl (yMI rfl) (oY rfl (bH (v:=.func (.func fid2) fst2.toArray caps2.toArray) rfl) ?_)))))))
  obtain ⟨y6,hy7,h⟩:=bOs h
  refine dE 1 [.slice Aa p0.length ca,vI u3.1,vI p1,.func (.func fid2) fst2.toArray caps2.toArray] (fun (_:Unit) => p0.length = y6.length) (fun _ => .tuple #[]) (fun _ => aI Aa ca 3 1 p0.length (encL cI y6)) (fun _ => []) rfl rfl go_135 rfl (fun W2 hW2 => (fo p0 u3.1 p1 p2 y6 hy7 W2 _ (cD [R,aI Aa ca 3 1 p0.length (encL cI p0)] [1]) Aa p0.length ca rfl fid2 fst2 caps2 hgo2 (fun W3 hb hR => hof2 W3 hb (hR.1 0 _ (by decide) rfl)) hW2).mono (fun e W3 h3 => ⟨(),h3.2.1,h3.1,h3.2.2⟩)) ?_
  rintro - hn8
  try dsimp only [lsz,lss,List.append_nil]
  refine oN (eT (cB ?_))
  obtain ⟨u11,hl13,h⟩:=bOs h
  refine bc (fun (s:(Int × Int × Int)) L tm => ∃ (tm0:Nat → Value),L = [R,aI Aa ca 3 1 p0.length (encL cI y6)] ∧ tm = (upd (upd (upd (upd (upd (upd tm0 0 (.slice Aa p0.length ca)) 1 (vI p1)) 2 (.func (.func fid2) fst2.toArray caps2.toArray)) 6 (vI s.1)) 7 (vI s.2.1)) 8 (vI s.2.2))) 2 hl13 ⟨_,rfl,(kp4 (kp (kp rfl)))⟩ ?_ ?_
  ·rintro s10 L tm st ⟨tm0_s10,rfl,rfl⟩ h
   unfold ei at h
   refine cS (cS (cR (oY rfl (yMI rfl) (oY rfl (yMI rfl) (oY rfl (bm rfl rfl) (oN (eT ?_)))))))
   obtain ⟨hp12,h⟩:=gOs h
   refine cF (vB hp12) (aH (ah ?_))
   obtain rfl:=sI h
   exact ax ⟨rfl,_,rfl,(kp4 (kp (kp rfl)))⟩
  ·intro e L tm hJ
   obtain ⟨rfl,tm0_u11,rfl,rfl⟩:=hJ
   refine ⟨(by intro hc; cases hc),?_⟩
   refine ac ?_
   obtain rfl:=sI h
   exact bR (.inr rfl) rfl  (fun W2 hW2 => ⟨rfl,hn8,hW2.take 2⟩)
theorem fJ (p0:(List Int)) (p1:Int → Int → Option Int) (res:(List Int)) (h:cx p0 p1 = some res) (W:World) (w0:World) (R:Res) (Aa:Option Addr) (n0_0 ca : Nat) (hn0_0:n0_0 = p0.length) (fid1:Nat) (fst1 caps1 : List Value) (hgo1:bx Tryz.prog fid1 = true) (hof1:∀ W2,Below w0.heap.size w0 W2 → R.holds W2 → ∀ x0 x1,∀ y,p1 x0 x1 = some y → Calls Tryz.prog fid1 (fst1 ++ (([vI x0,vI x1] : List Value) ++ caps1)).toArray W2 fun e W3 => e = .returned (vI y) ∧ Ext W2 W3 []) (hW:Ext w0 W [R,aI Aa ca 3 1 n0_0 (encL cI p0)]) :
  Calls Tryz.prog 82 [.slice Aa n0_0 ca,.func (.func fid1) fst1.toArray caps1.toArray].toArray W fun e W2 => e = .returned (.tuple #[]) ∧ n0_0 = res.length ∧ Ext w0 W2 [R,aI Aa ca 3 1 n0_0 (encL cI res)]:=by
 subst hn0_0
 unfold cx at h
 refine aM (m:=9) Tryz.func82 rfl rfl (nB rfl) hW (cR (oY rfl (yMS rfl) (oY rfl (yMS rfl) (oY rfl (bd (us:=[]) dH rfl) (oY rfl (bH (v:=.func (.func fid1) fst1.toArray caps1.toArray) rfl) ?_)))))
 obtain ⟨y1,hy2,h⟩:=bOs h
 refine dE 1 [.slice Aa p0.length ca,vI (p0.length:Int),.func (.func fid1) fst1.toArray caps1.toArray] (fun (_:Unit) => p0.length = y1.length) (fun _ => .tuple #[]) (fun _ => aI Aa ca 3 1 p0.length (encL cI y1)) (fun _ => []) rfl rfl go_116 rfl (fun W2 hW2 => (gW p0 (p0.length:Int) p1 y1 hy2 W2 _ (cD [R,aI Aa ca 3 1 p0.length (encL cI p0)] [1]) Aa p0.length ca rfl fid1 fst1 caps1 hgo1 (fun W3 hb hR => hof1 W3 hb (hR.1 0 _ (by decide) rfl)) hW2).mono (fun e W3 h3 => ⟨(),h3.2.1,h3.1,h3.2.2⟩)) ?_
 rintro - hn3
 try dsimp only [lsz,lss,List.append_nil]
 refine oN ?_
 obtain rfl:=sI h
 exact bR (.inr rfl) rfl  (fun W2 hW2 => ⟨rfl,hn3,hW2.take 2⟩)
theorem ld (p0:Int) (p1:Int) (res:Int) (h:ig p0 p1 = some res) (W:World)  :
  Calls Tryz.prog 84 [vI p0,vI p1].toArray W fun e W2 => e = .returned (vI res) ∧ Ext W W2 []:=by
 unfold ig at h
 refine ad (m:=20) Tryz.func84 rfl rfl (nB rfl) (cS (cR (oY rfl (yAI rfl) (oN (eT (cS (cR (oY rfl (yMI rfl) ?_))))))))
 obtain ⟨y1,hy2,h⟩:=bOs h
 refine oY rfl (yC [vI p0] qH rfl (fun W2 hW2 => eR p0 y1 hy2 W2 ) rfl) (oY rfl (yAB rfl) (oN (eT (cS (cR (oY rfl (yMI rfl) ?_))))))
 obtain ⟨y3,hy4,h⟩:=bOs h
 refine oY rfl (yC [vI p1] qH rfl (fun W2 hW2 => eR p1 y3 hy4 W2 ) rfl) (oY rfl (yAB rfl) (oN (eT (cS (cS (cR (oY rfl (yMB rfl) (oN (eT ?_)))))))))
 rcases iOs h with ⟨hp5,h⟩ | ⟨hp5,h⟩
 ·refine cT (vB hp5) (cS (cS (cR (oY rfl (yMB rfl) (oN (eT ?_))))))
  rcases iOs h with ⟨hp6,h⟩ | ⟨hp6,h⟩
  ·refine cT (vB hp6) (cS (cR (oY rfl (yAI rfl) (oN (eT (al (aa (aa ?_))))))))
   obtain rfl:=sI h
   exact ap (.inl rfl) rfl (rVt (v:=vI 0) rfl) (fun W2 hW2 => ⟨rfl,hW2.none⟩)
  ·refine cF (vB hp6) (cK (eT (cS (cR (oY rfl (yAI rfl) (oN (eT (al (aa ?_)))))))))
   obtain rfl:=sI h
   exact ap (.inl rfl) rfl (rVt (v:=vI (-1)) rfl) (fun W2 hW2 => ⟨rfl,hW2.none⟩)
 ·refine cF (vB hp5) (cK (eT (cS (cS (cR (oY rfl (yMB rfl) (oN (eT ?_))))))))
  rcases iOs h with ⟨hp7,h⟩ | ⟨hp7,h⟩
  ·refine cT (vB hp7) (cS (cR (oY rfl (yAI rfl) (oN (eT (al (aa ?_)))))))
   obtain rfl:=sI h
   exact ap (.inl rfl) rfl (rVt (v:=vI 1) rfl) (fun W2 hW2 => ⟨rfl,hW2.none⟩)
  ·refine cF (vB hp7) (cK (eT (cS (cS (cR (oY rfl (yMI rfl) (oY rfl (yMI rfl) (oY rfl (bm rfl rfl) (oN (eT ?_))))))))))
   rcases iOs h with ⟨hp8,h⟩ | ⟨hp8,h⟩
   ·refine cT (vB hp8) (cS (cR (oY rfl (yAI rfl) (oN (eT (al (aa ?_)))))))
    obtain rfl:=sI h
    exact ap (.inl rfl) rfl (rVt (v:=vI (-1)) rfl) (fun W2 hW2 => ⟨rfl,hW2.none⟩)
   ·refine cF (vB hp8) (cK (eT (cS (cS (cR (oY rfl (yMI rfl) (oY rfl (yMI rfl) (oY rfl (eI rfl rfl) (oN (eT ?_))))))))))
    rcases iOs h with ⟨hp9,h⟩ | ⟨hp9,h⟩
    ·refine cT (vB hp9) (cS (cR (oY rfl (yAI rfl) (oN (eT (al (aa ?_)))))))
     obtain rfl:=sI h
     exact ap (.inl rfl) rfl (rVt (v:=vI 1) rfl) (fun W2 hW2 => ⟨rfl,hW2.none⟩)
    ·refine cF (vB hp9) (cK (eT (cS (cR (oY rfl (yAI rfl) (oN (eT (al ?_))))))))
     obtain rfl:=sI h
     exact ap (.inl rfl) rfl (rVt (v:=vI 0) rfl) (fun W2 hW2 => ⟨rfl,hW2.none⟩)
theorem ny (p0:Int) (p1:Int) (cap0:TY) (res:Int) (h:iw p0 p1 cap0 = some res) (W:World) (bc0:Nat) (A100_0:Option Addr) (n100_0 c100_0 : Nat) (hn100_0:n100_0 = cap0.fB.length) (hr100_0:Rd W A100_0 n100_0 c100_0 (encL aD cap0.fB)) (A100_1:Option Addr) (n100_1 c100_1 : Nat) (hn100_1:n100_1 = cap0.fOrders.length) (hr100_1:Rd W A100_1 n100_1 c100_1 (encL aA cap0.fOrders)) (hcap0:Rd W (some ⟨bc0,0,none⟩) 1 1 [.slice A100_0 n100_0 c100_0,.slice A100_1 n100_1 c100_1]) :
  Calls Tryz.prog 83 [vI p0,vI p1,.pointer (some ⟨bc0,0,none⟩)].toArray W fun e W2 => e = .returned (vI res) ∧ Ext W W2 []:=by
 subst hn100_0
 subst hn100_1
 unfold iw at h
 refine ad (m:=19) Tryz.func83 rfl rfl (nB rfl) (cS (cR (oY rfl (yAI rfl) (oN (eT (cS ?_))))))
 refine ba 14 cm (by kernel_rfl) (by kernel_rfl) ?_
 refine qY rfl (yFR (A:=(some ⟨bc0,0,none⟩)) (j:=0) cn rfl) (qY rfl (yR (A:=(some ⟨bc0,0,none⟩)) (j:=(0 + 1)) (v:=.slice A100_1 cap0.fOrders.length c100_1) go (RdL.arg hcap0) rfl rfl) (qY rfl (yMI rfl) ?_))
 obtain ⟨hg1,h⟩:=gOs h
 refine qY rfl (yI jM (by decide) hg1.1 hg1.2 (RdL.arg hr100_1) (eL au rfl) rfl rfl) ?_
 refine qY rfl (yFR (A:=A100_1) (j:=(Int.toNat p1 * 5)) iG rfl) (qY rfl (yR (A:=A100_1) (j:=((Int.toNat p1 * 5) + 4)) (v:=vI ((rdL cap0.fOrders p1).fW)) aV (RdL.arg hr100_1) rfl (eG au hg1.1 (av hg1.2 rfl) rfl)) (qY rfl (yFR (A:=(some ⟨bc0,0,none⟩)) (j:=0) cn rfl) (qY rfl (yR (A:=(some ⟨bc0,0,none⟩)) (j:=(0 + 1)) (v:=.slice A100_1 cap0.fOrders.length c100_1) go (RdL.arg hcap0) rfl rfl) (qY rfl (yMI rfl) ?_))))
 obtain ⟨hg2,h⟩:=gOs h
 refine qY rfl (yI jM (by decide) hg2.1 hg2.2 (RdL.arg hr100_1) (eL au rfl) rfl rfl) ?_
 refine qY rfl (yFR (A:=A100_1) (j:=(Int.toNat p0 * 5)) iG rfl) (qY rfl (yR (A:=A100_1) (j:=((Int.toNat p0 * 5) + 4)) (v:=vI ((rdL cap0.fOrders p0).fW)) aV (RdL.arg hr100_1) rfl (eG au hg2.1 (av hg2.2 rfl) rfl)) ?_)
 obtain ⟨y3,hy4,h⟩:=bOs h
 refine qY rfl (yC [vI ((rdL cap0.fOrders p1).fW),vI ((rdL cap0.fOrders p0).fW)] go_84 rfl (fun W2 hW2 => ld ((rdL cap0.fOrders p1).fW) ((rdL cap0.fOrders p0).fW) y3 hy4 W2 ) rfl) (qY rfl (yAI rfl) (bX (oN (eT (al ?_)))))
 obtain rfl:=sI h
 exact ap (.inl rfl) rfl (rVt (v:=vI y3) rfl) (fun W2 hW2 => ⟨rfl,hW2.none⟩)
theorem oS (p0:TO) (p1:TBay) (res:Bool) (h:iR p0 p1 = some res) (W:World)  :
  Calls Tryz.prog 119 [.agg #[vI p0.fID,vI p0.fH.fLo,vI p0.fH.fHi,vI p0.fD,vI p0.fW],.agg #[vI p1.fID,vI p1.fHour,vI p1.fD]].toArray W fun e W2 => e = .returned (.bool res) ∧ Ext W W2 []:=by
 unfold iR at h
 refine ad (m:=21) Tryz.func119 rfl rfl (nB rfl) (cS (cR ?_))
 refine aO [vI p0.fID,vI p0.fH.fLo,vI p0.fH.fHi,vI p0.fD,vI p0.fW] rfl rfl rfl (fun b1 => ?_)
 refine aO [vI p1.fID,vI p1.fHour,vI p1.fD] rfl rfl rfl (fun b2 => ?_)
 refine oY rfl (yAB rfl) (oN (eT (cS (cR (oY rfl (yFA o8 rfl) (oY rfl (yL 1 aV rfl rfl rfl) (oY rfl (yFA gx rfl) (oY rfl (yFA co rfl) (oY rfl (yL 0 aV rfl rfl rfl) (oY rfl (yFA gx rfl) (oY rfl (yFA bL rfl) (oY rfl (yL 0 aV rfl rfl rfl) ?_))))))))))))
 obtain ⟨y3,hy4,h⟩:=bOs h
 refine oY rfl (yC [vI p1.fHour,vI p0.fH.fLo,vI p0.fH.fHi] ko rfl (fun W2 hW2 => a7 p1.fHour p0.fH.fLo p0.fH.fHi y3 hy4 W2 ) rfl) (oY rfl (yMB rfl) ?_)
 refine oJ 6 (fun tm0 => (upd (upd tm0 4 (.bool false)) 20 (.bool (y3 && (decide (p0.fD ≤ p1.fD)))))) (fun tm0 => ?_) (fun key => ?_)
 ·refine oY rfl (yAB rfl) (oN (eT (al ?_)))
  obtain rfl:=sI h
  exact ap (.inl rfl) rfl (rVt (v:=.bool (y3 && (decide (p0.fD ≤ p1.fD)))) rfl) (fun W2 hW2 => ⟨rfl,hW2.none⟩)
 ·rcases aq y3 with hp5 | hp5
  ·refine oY (sT rfl rfl rfl rfl hp5) (yFA o5 rfl) (oY (sT rfl rfl rfl rfl hp5) (yL 1 aV rfl rfl rfl) (oY (sT rfl rfl rfl rfl hp5) (yFA po rfl) (oY (sT rfl rfl rfl rfl hp5) (yL 0 aV rfl rfl rfl) (oY (sT rfl rfl rfl rfl hp5) (pG rfl rfl) (oY rfl (ae (vB hp5) rfl) ?_)))))
   exact key _ _ (keep (keep rfl rfl) (vB (gh hp5)))
  ·refine oSk (sF rfl rfl rfl rfl hp5) (oSk (sF rfl rfl rfl rfl hp5) (oSk (sF rfl rfl rfl rfl hp5) (oSk (sF rfl rfl rfl rfl hp5) (oSk (sF rfl rfl rfl rfl hp5) (oY rfl (ag (vB hp5) rfl) ?_)))))
   exact key _ _ (keep (keep rfl rfl) (vB (gq hp5)))
theorem km : ∀ (fuel:Nat) (p0:Int) (cap0:TY) (cap1:(List (Int × Bool))) (cap2:(List (Int × Int))) (res:(Bool × (List (Int × Bool)) × (List (Int × Int)))) (h:bt fuel p0 cap0 cap1 cap2 = some res) (W:World) (w0:World) (R:Res) (bmc1:Nat) (bmc2:Nat) (bc0:Nat) (A100_0:Option Addr) (n100_0 c100_0 : Nat) (hn100_0:n100_0 = cap0.fB.length) (hr100_0:∀ W2,Below w0.heap.size w0 W2 → R.holds W2 → Rd W2 A100_0 n100_0 c100_0 (encL aD cap0.fB)) (A100_1:Option Addr) (n100_1 c100_1 : Nat) (hn100_1:n100_1 = cap0.fOrders.length) (hr100_1:∀ W2,Below w0.heap.size w0 W2 → R.holds W2 → Rd W2 A100_1 n100_1 c100_1 (encL aA cap0.fOrders)) (hcap0:∀ W2,Below w0.heap.size w0 W2 → R.holds W2 → Rd W2 (some ⟨bc0,0,none⟩) 1 1 [.slice A100_0 n100_0 c100_0,.slice A100_1 n100_1 c100_1]) (bc1:Nat) (hcap1:∀ W2,Below w0.heap.size w0 W2 → R.holds W2 → Rd W2 (some ⟨bc1,0,none⟩) 1 1 [.map (some bmc1)]) (bc2:Nat) (hcap2:∀ W2,Below w0.heap.size w0 W2 → R.holds W2 → Rd W2 (some ⟨bc2,0,none⟩) 1 1 [.map (some bmc2)]) (bc3:Nat) (hcap3:∀ W2,Below w0.heap.size w0 W2 → R.holds W2 → Rd W2 (some ⟨bc3,0,none⟩) 1 1 [.func (.func 118) #[] #[.pointer (some ⟨bc0,0,none⟩),.pointer (some ⟨bc1,0,none⟩),.pointer (some ⟨bc2,0,none⟩),.pointer (some ⟨bc3,0,none⟩)]]) (hW:Ext w0 W [R,mapV Tryz.prog 3 kI em kB false bmc1 cap1,mapV Tryz.prog 3 kI em kI 0 bmc2 cap2]),
  Calls Tryz.prog 118 [vI p0,.pointer (some ⟨bc0,0,none⟩),.pointer (some ⟨bc1,0,none⟩),.pointer (some ⟨bc2,0,none⟩),.pointer (some ⟨bc3,0,none⟩)].toArray W fun e W2 => ∃ x : Unit,True ∧ e = .returned (.bool res.1) ∧ Ext w0 W2 [R,mapV Tryz.prog 3 kI em kB false bmc1 res.2.1,mapV Tryz.prog 3 kI em kI 0 bmc2 res.2.2]:=by
 intro fuel
 induction fuel with
 | zero => intro p0 cap0 cap1 cap2 res h W w0 R bmc1 bmc2 bc0 A100_0 n100_0 c100_0 hn100_0 hr100_0 A100_1 n100_1 c100_1 hn100_1 hr100_1 hcap0 bc1 hcap1 bc2 hcap2 bc3 hcap3 hW; exact absurd h (by unfold bt; exact fun h => by cases h)
 | succ fuel ih =>
  intro p0 cap0 cap1 cap2 res h W w0 R bmc1 bmc2 bc0 A100_0 n100_0 c100_0 hn100_0 hr100_0 A100_1 n100_1 c100_1 hn100_1 hr100_1 hcap0 bc1 hcap1 bc2 hcap2 bc3 hcap3 hW
  subst hn100_0
  subst hn100_1
  change dC (bt fuel) p0 cap0 cap1 cap2 = some res at h
  unfold dC at h
  refine aM (m:=51) Tryz.func118 rfl rfl (nB rfl) hW (cS (cR (oY rfl (yAB rfl) (oN (eT (cx_scope (cS (cx_label (eT (cS (cS (cR (oY rfl (yFR (A:=(some ⟨bc0,0,none⟩)) (j:=0) eh rfl) (oY rfl (yR (A:=(some ⟨bc0,0,none⟩)) (j:=(0 + 0)) (v:=.slice A100_0 cap0.fB.length c100_0) jP (RdL.under hcap0) rfl rfl) (oY rfl (bd (us:=[]) jr rfl) (oY rfl (yMI rfl) (oN (eT (cB ?_)))))))))))))))))))
  obtain ⟨u4,hl24,h⟩:=bOs h
  refine bB (fun (s:(Bool × Int × (List (Int × Bool)) × (List (Int × Int)))) L tm => ∃ (tm0:Nat → Value),L = [R,mapV Tryz.prog 3 kI em kB false bmc1 s.2.2.1,mapV Tryz.prog 3 kI em kI 0 bmc2 s.2.2.2] ∧ tm = (upd (upd (upd (upd (upd (upd (upd (upd (upd tm0 0 (vI p0)) 1 (slA (some ⟨bc0,0,none⟩) 0)) 2 (slA (some ⟨bc1,0,none⟩) 0)) 3 (slA (some ⟨bc2,0,none⟩) 0)) 4 (slA (some ⟨bc3,0,none⟩) 0)) 6 (.bool s.1)) 12 (.slice A100_0 cap0.fB.length c100_0)) 13 (vI (cap0.fB.length:Int))) 14 (vI s.2.1))) 0 hl24 ⟨_,rfl,(kp4 (kp4 (kp rfl)))⟩ ?_ ?_
  ·rintro s3 L tm st ⟨tm0_s3,rfl,rfl⟩ h
   unfold bQ at h
   refine cS (cR (oY rfl (bm rfl rfl) (oN (eT (cS ?_)))))
   rcases iOs h with ⟨hp5,h⟩ | ⟨hp5,h⟩
   ·refine cT (vB hp5) (cK (eT (cS (cB (cS (cR (oY rfl (yMI rfl) ?_)))))))
    obtain ⟨hg6,h⟩:=gOs h
    refine oY rfl (yI lN (by decide) hg6.1 hg6.2 (RdL.under hr100_0) (eL aK rfl) rfl rfl) ?_
    refine oY rfl (yM (A:=A100_0) (j:=(Int.toNat s3.2.1 * 3)) [vI ((rdL cap0.fB s3.2.1).fID),vI ((rdL cap0.fB s3.2.1).fHour),vI ((rdL cap0.fB s3.2.1).fD)] su (Nat.succ_pos _) (RdL.under hr100_0) rfl (aU aK hg6.1 (av hg6.2 rfl))) ?_
    refine aB nL rfl (fun b7 => ?_)
    refine oY rfl (yAI rfl) (bT rfl (yS 3 [vI ((rdL cap0.fB s3.2.1).fID),vI ((rdL cap0.fB s3.2.1).fHour),vI ((rdL cap0.fB s3.2.1).fD)] sz_94 rfl (nB rfl) rfl rfl rfl) (oN (eT (cS (cS ?_)))))
    refine ba 13 cm (by kernel_rfl) (by kernel_rfl) ?_
    refine qY rfl (yR (A:=(some ⟨bc1,0,none⟩)) (j:=0) (v:=.map (some bmc1)) sc_179 (RdL.under hcap1) rfl rfl) (qY rfl (yMI rfl) ?_)
    obtain ⟨hg8,h⟩:=gOs h
    refine qY rfl (jA (k:=s3.2.1) (MpL.own 1 rfl) ke_3 um_179 ze_4 rfl rfl hg8) (qY rfl (yMB rfl) ?_)
    obtain ⟨b10,hb11,h⟩:=bOs h
    refine qJ 9 (fun tm0 => (upd (upd (upd (upd (upd (upd (upd (upd (upd (upd (upd (upd (upd tm0 0 (vI p0)) 1 (slA (some ⟨bc0,0,none⟩) 0)) 2 (slA (some ⟨bc1,0,none⟩) 0)) 3 (slA (some ⟨bc2,0,none⟩) 0)) 4 (slA (some ⟨bc3,0,none⟩) 0)) 6 (.bool s3.1)) 12 (.slice A100_0 cap0.fB.length c100_0)) 13 (vI (cap0.fB.length:Int))) 14 (vI s3.2.1)) 15 (.bool (decide (s3.2.1 < (cap0.fB.length:Int))))) 8 (.pointer (some ⟨b7,0,none⟩))) 7 (vI s3.2.1)) 31 (.bool b10))) (fun tm0 => ?_) (fun key => ?_)
    ·refine bX (oN (eT ?_))
     rcases iOs h with ⟨hp12,h⟩ | ⟨hp12,h⟩
     ·refine cT (vB hp12) (aH (ah (ac (eT (cR (oY rfl (aX rfl rfl) (oY rfl (yMI rfl) (oN (aQ 3 ?_)))))))))
      obtain rfl:=sI h
      exact eN ⟨_,rfl,(kp4 (kp4 (kp rfl)))⟩
     ·refine cF (vB hp12) (cK (eT (cS (cR (oY rfl (yR (A:=(some ⟨bc1,0,none⟩)) (j:=0) (v:=.map (some bmc1)) sc_179 (RdL.under hcap1) rfl rfl) (oY rfl (yMI rfl) ?_))))))
      obtain ⟨hg13,h⟩:=gOs h
      refine bT rfl (jE 1 (k:=s3.2.1) (v:=true) rfl ke_3 um_179 rfl rfl rfl hg13) (oN (eT (cS (cR (oY rfl (yR (A:=(some ⟨bc2,0,none⟩)) (j:=0) (v:=.map (some bmc2)) qS (RdL.under hcap2) rfl rfl) (oY rfl (yMI rfl) ?_))))))
      obtain ⟨hg14,h⟩:=gOs h
      refine oY rfl (lQ (k:=s3.2.1) (MpL.own 2 rfl) ke_3 pu l5 rfl rfl hg14) (oY rfl (aR rfl) (oY rfl (yE rfl rfl) (oY rfl (yE rfl rfl) (oY rfl (yAI rfl) (oY rfl (yAB rfl) (oN (eT (cS (cR (oY rfl (yMB rfl) (oY rfl (bM rfl) (oY rfl (yMB rfl) ?_))))))))))))
      rcases iOs h with ⟨hp15,h⟩ | ⟨hp15,h⟩
      ·refine oSk (sF rfl rfl rfl rfl hp15) (oSk (sF rfl rfl rfl rfl hp15) (oSk (sF rfl rfl rfl rfl hp15) (oY rfl (ae (vB hp15) rfl) (oN (eT (cT rfl (cS (cR (oY rfl (yR (A:=(some ⟨bc2,0,none⟩)) (j:=0) (v:=.map (some bmc2)) qS (RdL.under hcap2) rfl rfl) (oY rfl (yMI rfl) (oY rfl (yMI rfl) ?_)))))))))))
       obtain ⟨hg16,h⟩:=gOs h
       refine bT rfl (jE 2 (k:=s3.2.1) (v:=p0) rfl ke_3 pu rfl rfl rfl hg16) (oN (eT (cS (cR (oY rfl (yAB rfl) (oN (eT (al (ai (aa (aQ 3 ?_)))))))))))
       obtain rfl:=sI h
       exact ax ⟨rfl,_,rfl,(kp4 (kp4 (kp rfl)))⟩
      ·refine oY (sT rfl rfl rfl rfl hp15) (yR (A:=(some ⟨bc3,0,none⟩)) (j:=0) (v:=.func (.func 118) #[] #[.pointer (some ⟨bc0,0,none⟩),.pointer (some ⟨bc1,0,none⟩),.pointer (some ⟨bc2,0,none⟩),.pointer (some ⟨bc3,0,none⟩)]) sc_81 (RdL.under hcap3) rfl rfl) (oY (sT rfl rfl rfl rfl hp15) (yMI rfl) ?_)
       obtain ⟨y17,hy18,h⟩:=bOs h
       refine fF [1,2] [] [vI (az 0 s3.2.2.2 s3.2.1)] [.pointer (some ⟨bc0,0,none⟩),.pointer (some ⟨bc1,0,none⟩),.pointer (some ⟨bc2,0,none⟩),.pointer (some ⟨bc3,0,none⟩)] (fun (_:Unit) => True) (fun _ => .bool y17.1) (fun _ => [mapV Tryz.prog 3 kI em kB false bmc1 y17.2.1,mapV Tryz.prog 3 kI em kI 0 bmc2 y17.2.2]) (fun _ => []) (Foc.c2 rfl rfl) (by decide) (sT rfl rfl rfl rfl hp15) go_118 rfl rfl (fun _ => rfl) (fun W2 hW2 => ih (az 0 s3.2.2.2 s3.2.1) cap0 ((s3.2.1,true) :: s3.2.2.1) s3.2.2.2 y17 hy18 W2 _ (cD [R,mapV Tryz.prog 3 kI em kB false bmc1 ((s3.2.1,true) :: s3.2.2.1),mapV Tryz.prog 3 kI em kI 0 bmc2 s3.2.2.2,aj b7 94 [vI ((rdL cap0.fB s3.2.1).fID),vI ((rdL cap0.fB s3.2.1).fHour),vI ((rdL cap0.fB s3.2.1).fD)]] [1,2]) bmc1 bmc2 bc0 A100_0 cap0.fB.length c100_0 rfl (fun W3 hb hR => (RdL.under hr100_0) W3 (hW2.restL hb hR)) A100_1 cap0.fOrders.length c100_1 rfl (fun W3 hb hR => (RdL.under hr100_1) W3 (hW2.restL hb hR)) (fun W3 hb hR => (RdL.under hcap0) W3 (hW2.restL hb hR)) bc1 (fun W3 hb hR => (RdL.under hcap1) W3 (hW2.restL hb hR)) bc2 (fun W3 hb hR => (RdL.under hcap2) W3 (hW2.restL hb hR)) bc3 (fun W3 hb hR => (RdL.under hcap3) W3 (hW2.restL hb hR)) hW2) ?_
       rintro - -
       try dsimp only [kO,lsz,lss,List.append_nil]
       refine oY rfl (ag (vB hp15) rfl) (oN (eT ?_))
       rcases iOs h with ⟨hp19,h⟩ | ⟨hp19,h⟩
       ·refine cT (vB hp19) (cS (cR (oY rfl (yR (A:=(some ⟨bc2,0,none⟩)) (j:=0) (v:=.map (some bmc2)) qS (RdL.under hcap2) rfl rfl) (oY rfl (yMI rfl) (oY rfl (yMI rfl) ?_)))))
        obtain ⟨hg20,h⟩:=gOs h
        refine bT rfl (jE 2 (k:=s3.2.1) (v:=p0) rfl ke_3 pu rfl rfl rfl hg20) (oN (eT (cS (cR (oY rfl (yAB rfl) (oN (eT (al (ai (aa (aQ 3 ?_)))))))))))
        obtain rfl:=sI h
        exact ax ⟨rfl,_,rfl,(kp4 (kp4 (kp rfl)))⟩
       ·refine cF (vB hp19) (cK (aw (eT (cR (oY rfl (aX rfl rfl) (oY rfl (yMI rfl) (oN (aQ 3 ?_))))))))
        obtain rfl:=sI h
        exact eN ⟨_,rfl,(kp4 (kp4 (kp rfl)))⟩
    ·clear h; rcases iOs hb11 with ⟨hp9,h⟩ | ⟨hp9,h⟩
     ·refine am (sF rfl rfl rfl rfl hp9) (am (sF rfl rfl rfl rfl hp9) (am (sF rfl rfl rfl rfl hp9) (am (sF rfl rfl rfl rfl hp9) (am (sF rfl rfl rfl rfl hp9) (am (sF rfl rfl rfl rfl hp9) (am (sF rfl rfl rfl rfl hp9) (am (sF rfl rfl rfl rfl hp9) (qY rfl (ae (vB hp9) rfl) ?_))))))))
      obtain rfl:=sI h
      exact key _ _ (kp4 (kp4 (kp4 (kp rfl))))
     ·refine qY (sT rfl rfl rfl rfl hp9) (yFR (A:=(some ⟨bc0,0,none⟩)) (j:=0) cn rfl) (qY (sT rfl rfl rfl rfl hp9) (yR (A:=(some ⟨bc0,0,none⟩)) (j:=(0 + 1)) (v:=.slice A100_1 cap0.fOrders.length c100_1) go (RdL.under hcap0) rfl rfl) (qY (sT rfl rfl rfl rfl hp9) (yMI rfl) ?_))
      obtain ⟨hg21,h⟩:=gOs h
      refine qY (sT rfl rfl rfl rfl hp9) (yI jM (by decide) hg21.1 hg21.2 (RdL.under hr100_1) (eL au rfl) rfl rfl) ?_
      refine qY (sT rfl rfl rfl rfl hp9) (yM (A:=A100_1) (j:=(Int.toNat p0 * 5)) [vI ((rdL cap0.fOrders p0).fID),vI ((rdL cap0.fOrders p0).fH.fLo),vI ((rdL cap0.fOrders p0).fH.fHi),vI ((rdL cap0.fOrders p0).fD),vI ((rdL cap0.fOrders p0).fW)] pC (Nat.succ_pos _) (RdL.under hr100_1) rfl (aU au hg21.1 (av hg21.2 rfl))) (qY (sT rfl rfl rfl rfl hp9) (yN 3 [vI ((rdL cap0.fB s3.2.1).fID),vI ((rdL cap0.fB s3.2.1).fHour),vI ((rdL cap0.fB s3.2.1).fD)] su rfl rfl rfl) ?_)
      obtain ⟨y22,hy23,h⟩:=bOs h
      refine qY (sT rfl rfl rfl rfl hp9) (yC [.agg #[vI ((rdL cap0.fOrders p0).fID),vI ((rdL cap0.fOrders p0).fH.fLo),vI ((rdL cap0.fOrders p0).fH.fHi),vI ((rdL cap0.fOrders p0).fD),vI ((rdL cap0.fOrders p0).fW)],.agg #[vI ((rdL cap0.fB s3.2.1).fID),vI ((rdL cap0.fB s3.2.1).fHour),vI ((rdL cap0.fB s3.2.1).fD)]] go_119 rfl (fun W2 hW2 => oS (TO.mk ((rdL cap0.fOrders p0).fID) (TSpan.mk ((rdL cap0.fOrders p0).fH.fLo) ((rdL cap0.fOrders p0).fH.fHi)) ((rdL cap0.fOrders p0).fD) ((rdL cap0.fOrders p0).fW)) (TBay.mk ((rdL cap0.fB s3.2.1).fID) ((rdL cap0.fB s3.2.1).fHour) ((rdL cap0.fB s3.2.1).fD)) y22 hy23 W2 ) rfl) (qY (sT rfl rfl rfl rfl hp9) (bM rfl) (qY rfl (ag (vB hp9) rfl) ?_))
      obtain rfl:=sI h
      exact key _ _ (kp4 (kp4 (kp4 (kp rfl))))
   ·refine cF (vB hp5) (aH (ah ?_))
    obtain rfl:=sI h
    exact ax ⟨rfl,_,rfl,(kp4 (kp4 (kp rfl)))⟩
  ·intro e L tm hJ
   rcases u4 with u25 | u26
   ·dsimp only at h hJ
    obtain ⟨rfl,tm0_u25,rfl,rfl⟩:=hJ
    refine ⟨(by intro hc; cases hc),?_⟩
    refine ai (aa (mi ?_))
    obtain rfl:=sI h
    exact ap (.inl rfl) rfl (rVt (v:=.bool u25.1) rfl) (fun W2 hW2 => ⟨(),trivial,rfl,hW2.take 3⟩)
   ·dsimp only at h hJ
    obtain ⟨rfl,tm0_u26,rfl,rfl⟩:=hJ
    refine ⟨(by intro hc; cases hc),?_⟩
    refine ac (eT (cS (cR (oY rfl (yAB rfl) (oN (eT (al (mi ?_))))))))
    obtain rfl:=sI h
    exact ap (.inl rfl) rfl (rVt (v:=.bool false) rfl) (fun W2 hW2 => ⟨(),trivial,rfl,hW2.take 3⟩)
theorem iu (p0:(List (Int × Int))) (p1:TY) (p2:Int) (res:(Bool × (List (Int × Int)))) (h:fC p0 p1 p2 = some res) (W:World) (w0:World) (R:Res) (bm0:Nat) (Ac:Option Addr) (n1_0 cc : Nat) (hn1_0:n1_0 = p1.fB.length) (hr1_0:∀ W2,Below w0.heap.size w0 W2 → R.holds W2 → Rd W2 Ac n1_0 cc (encL aD p1.fB)) (A1_1:Option Addr) (n1_1 c1_1 : Nat) (hn1_1:n1_1 = p1.fOrders.length) (hr1_1:∀ W2,Below w0.heap.size w0 W2 → R.holds W2 → Rd W2 A1_1 n1_1 c1_1 (encL aA p1.fOrders)) (hW:Ext w0 W [R,mapV Tryz.prog 3 kI em kI 0 bm0 p0]) :
  Calls Tryz.prog 85 [.map (some bm0),.agg #[.slice Ac n1_0 cc,.slice A1_1 n1_1 c1_1],vI p2].toArray W fun e W2 => ∃ x : Unit,True ∧ e = .returned (.bool res.1) ∧ Ext w0 W2 [R,mapV Tryz.prog 3 kI em kI 0 bm0 res.2]:=by
 subst hn1_0
 subst hn1_1
 unfold fC at h
 refine aM (m:=14) Tryz.func85 rfl rfl (nB rfl) hW (cS (cR ?_))
 refine aO [.map (some bm0)] rfl rfl rfl (fun b1 => ?_)
 refine aO [.slice Ac p1.fB.length cc,.slice A1_1 p1.fOrders.length c1_1] rfl rfl rfl (fun b2 => ?_)
 refine oY rfl (yAB rfl) (oN (eT (cS (cR ?_))))
 refine jh 3 kI em kB false rfl (fun b3 => ?_)
 refine aB ze_179 rfl (fun b4 => ?_)
 try dsimp only [lna,lca,lsz,lss]
 refine bT rfl (cv 5 (v:=.map (some b3)) sz_179 rfl (Nat.lt_of_lt_of_le (Nat.lt_succ_self _) (nB rfl)) rfl rfl rfl) (oN (eT (cS (cR ?_))))
 refine aB ze_81 rfl (fun b5 => ?_)
 try dsimp only [lna,lca,lsz,lss]
 refine oN (eT (cS (cR (oY rfl (cw [.pointer (some ⟨b2,0,none⟩),.pointer (some ⟨b4,0,none⟩),.pointer (some ⟨b1,0,none⟩),.pointer (some ⟨b5,0,none⟩)] rfl rfl) (bT rfl (cv 6 (v:=.func (.func 118) #[] #[.pointer (some ⟨b2,0,none⟩),.pointer (some ⟨b4,0,none⟩),.pointer (some ⟨b1,0,none⟩),.pointer (some ⟨b5,0,none⟩)]) sz_81 rfl (Nat.lt_of_lt_of_le (Nat.lt_succ_self _) (nB rfl)) rfl rfl rfl) (oN (eT (cS (cR (oY rfl (yL 6 sc_81 rfl rfl rfl) (oY rfl (yMI rfl) ?_)))))))))))
 obtain ⟨y6,hy7,h⟩:=bOs h
 refine fF [4,1] [] [vI p2] [.pointer (some ⟨b2,0,none⟩),.pointer (some ⟨b4,0,none⟩),.pointer (some ⟨b1,0,none⟩),.pointer (some ⟨b5,0,none⟩)] (fun (_:Unit) => True) (fun _ => .bool y6.1) (fun _ => [mapV Tryz.prog 3 kI em kB false b3 y6.2.1,mapV Tryz.prog 3 kI em kI 0 bm0 y6.2.2]) (fun _ => []) (Foc.c2 rfl rfl) (by decide) rfl go_118 rfl rfl (fun _ => rfl) (fun W2 hW2 => km (p1.fB.length + 2) p2 p1 [] p0 y6 hy7 W2 _ (cD [R,mapV Tryz.prog 3 kI em kI 0 bm0 p0,aj b1 107 [.map (some bm0)],aj b2 57 [.slice Ac p1.fB.length cc,.slice A1_1 p1.fOrders.length c1_1],mapV Tryz.prog 3 kI em kB false b3 [],aj b4 179 [.map (some b3)],aj b5 81 [.func (.func 118) #[] #[.pointer (some ⟨b2,0,none⟩),.pointer (some ⟨b4,0,none⟩),.pointer (some ⟨b1,0,none⟩),.pointer (some ⟨b5,0,none⟩)]]] [4,1]) b3 bm0 b2 Ac p1.fB.length cc rfl (fun W3 hb hR => (RdL.under hr1_0) W3 (hW2.restL hb hR)) A1_1 p1.fOrders.length c1_1 rfl (fun W3 hb hR => (RdL.under hr1_1) W3 (hW2.restL hb hR)) (fun W3 hb hR => (RdL.cells 3 rfl) W3 (hW2.restL hb hR)) b4 (fun W3 hb hR => (RdL.cells 5 rfl) W3 (hW2.restL hb hR)) b1 (fun W3 hb hR => (RdL.cells 2 rfl) W3 (hW2.restL hb hR)) b5 (fun W3 hb hR => (RdL.cells 6 rfl) W3 (hW2.restL hb hR)) hW2) ?_
 rintro - -
 try dsimp only [kO,lsz,lss,List.append_nil]
 refine oY rfl (yAB rfl) (oN (eT (al ?_)))
 obtain rfl:=sI h
 exact ap (.inl rfl) rfl (rVt (v:=.bool y6.1) rfl) (fun W2 hW2 => ⟨(),trivial,rfl,hW2.take 2⟩)
end Go.Proofs.YthndghnkebboaabGreat
