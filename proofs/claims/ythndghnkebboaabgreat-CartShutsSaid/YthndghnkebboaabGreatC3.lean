import Derived.Test.YthndghnkebboaabGreatF
import Derived.Test.YthndghnkebboaabGreatGy
import Derived.Test.YthndghnkebboaabGreatGr
import Derived.Test.YthndghnkebboaabGreatC0
import Derived.Test.YthndghnkebboaabGreatC1
set_option maxHeartbeats 4000000
set_option maxRecDepth 100000
set_option linter.unusedVariables false
namespace Go.Proofs.YthndghnkebboaabGreat
open Go.RowKit (Below)
attribute [local irreducible] OX QX CX EX OpY Calls CallsIn
theorem fx (p0:(List Int)) (p1:Int) (p2:Int) (res:(List Int)) (h:bl p0 p1 p2 = some res) (W:World) (w0:World) (R:Res) (Aa:Option Addr) (n0_0 ca : Nat) (hn0_0:n0_0 = p0.length) (hW:Ext w0 W [R,aJ Aa ca 3 1 n0_0 (encL cI p0)]) :
  Calls Tryz.prog 101 [.slice Aa n0_0 ca,vI p1,vI p2].toArray W fun e W2 => e = .returned (.tuple #[]) ∧ n0_0 = res.length ∧ Ext w0 W2 [R,aJ Aa ca 3 1 n0_0 (encL cI res)]:=by
 subst hn0_0
 unfold bl at h
 refine aM (m:=49) Tryz.func101 rfl rfl (nB rfl) hW (cS (cR (oY rfl (yMI rfl) (oY rfl (be rfl rfl) (oY rfl (yAI rfl) (oN (eT (cB ?_))))))))
 obtain ⟨u4,hl24,h⟩:=bOs h
 refine bm (fun (s:(Int × (List Int))) L tm => ∃ (tm0:Nat → Value),p0.length = s.2.length ∧ L = [R,aJ Aa ca 3 1 p0.length (encL cI s.2)] ∧ tm = (upd (upd (upd (upd tm0 0 (.slice Aa p0.length ca)) 1 (vI p1)) 2 (vI p2)) 6 (vI s.1))) 0 hl24 ⟨_,rfl,rfl,(kp4 rfl)⟩ ?_ ?_
 ·rintro s3 L tm st ⟨tm0_s3,hn1_s3,rfl,rfl⟩ h
  unfold aE at h
  refine cS (cS (cR (oY rfl (yMI rfl) (oY rfl (yMI rfl) (oY rfl (bB rfl rfl) (oN (eT ?_)))))))
  rcases iOs h with ⟨hp5,h⟩ | ⟨hp5,h⟩
  ·refine cT (vB hp5) (cK (eT (cS (cB (cS (cR (oY rfl (yMI rfl) (oY rfl (yAI rfl) (oN (eT (cB ?_)))))))))))
   obtain ⟨u9,hl23,h⟩:=bOs h
   refine bm (fun (s:(Int × (List Int))) L tm => ∃ (tm0:Nat → Value),p0.length = s.2.length ∧ L = [R,aJ Aa ca 3 1 p0.length (encL cI s.2)] ∧ tm = (upd (upd (upd (upd (upd (upd tm0 0 (.slice Aa p0.length ca)) 1 (vI p1)) 2 (vI p2)) 6 (vI s3.1)) 12 (.bool (decide (s3.1 < p2)))) 7 (vI s.1))) 2 hl23 ⟨_,hn1_s3,rfl,(kp4 (kp (kp rfl)))⟩ ?_ ?_
   ·rintro s8 L tm st ⟨tm0_s8,hn1_s8,rfl,rfl⟩ h
    unfold aR at h
    refine cS (cS ?_)
    refine bI 15 cQ (by kernel_rfl) (by kernel_rfl) ?_
    refine qY rfl (yMI rfl) (qY rfl (yMI rfl) (qY rfl (ie rfl rfl) (qY rfl (yMB rfl) ?_)))
    obtain ⟨b11,hb12,h⟩:=bOs h
    refine qJ 11 (fun tm0 => (upd (upd (upd (upd (upd (upd (upd tm0 0 (.slice Aa p0.length ca)) 1 (vI p1)) 2 (vI p2)) 6 (vI s3.1)) 12 (.bool (decide (s3.1 < p2)))) 7 (vI s8.1)) 30 (.bool b11))) (fun tm0 => ?_) (fun key => ?_)
    ·refine dE (oN (eT ?_))
     rcases iOs h with ⟨hp13,h⟩ | ⟨hp13,h⟩
     ·refine cT (vB hp13) (cK (eT (cS (cB ?_))))
      obtain ⟨hg15,h⟩:=gOs h
      obtain ⟨hg16,h⟩:=gOs h
      obtain ⟨hg17,h⟩:=gOs h
      obtain ⟨hg18,h⟩:=gOs h
      refine cO [[],[],[],[],[3],[],[],[6],[5,6,7],[5,6,7,8],[],[],[10,11],[10,11,12],[0,1,5,6,7,8,9,10,11,12,13],[0,1,5,6,7,8,9,10,11,12,13,14],[0,1,2,3,4,5,6,7,8,9,10,11,12,13,14,15],[0,1,2,3,4,5,6,7,8,9,10,11,12,13,14,15,16]] [(none,0,[true,true]),(none,0,[true,true]),(none,0,[true,false]),(none,0,[true,false]),(none,0,[true,false]),(none,0,[true,true]),(none,0,[true,true]),(none,0,[true,true]),(none,0,[true,true]),(none,0,[true,true]),(none,0,[true,true]),(none,0,[true,true]),(none,0,[true,true]),(none,0,[true,true]),(none,0,[true,true]),(some 1,0,[true,true]),(none,0,[true,true]),(some 1,0,[true,true])] [⟨fun _ => .slice Aa p0.length ca,fun _ => noR,fun _ => []⟩,⟨fun _ => vI s8.1,fun _ => noR,fun _ => []⟩,⟨fun _ => .slice Aa p0.length ca,fun _ => noR,fun _ => []⟩,⟨fun _ => vI s8.1,fun _ => noR,fun _ => []⟩,⟨fun _ => vI (w64 (s8.1 - 1)),fun _ => noR,fun _ => []⟩,⟨fun _ => .slice Aa p0.length ca,fun _ => noR,fun _ => []⟩,⟨fun _ => vI s8.1,fun _ => noR,fun _ => []⟩,⟨fun _ => vI (w64 (s8.1 - 1)),fun _ => noR,fun _ => []⟩,⟨fun _ => slA Aa (Int.toNat (w64 (s8.1 - 1)) * 1),fun _ => noR,fun _ => []⟩,⟨fun _ => vI (rdL s8.2 (w64 (s8.1 - 1))),fun _ => noR,fun _ => []⟩,⟨fun _ => .slice Aa p0.length ca,fun _ => noR,fun _ => []⟩,⟨fun _ => vI s8.1,fun _ => noR,fun _ => []⟩,⟨fun _ => slA Aa (Int.toNat s8.1 * 1),fun _ => noR,fun _ => []⟩,⟨fun _ => vI (rdL s8.2 s8.1),fun _ => noR,fun _ => []⟩,⟨fun _ => slA Aa (Int.toNat s8.1 * 1),fun _ => noR,fun _ => []⟩,⟨fun _ => undef,fun _ => aJ Aa ca 3 1 p0.length (encL cI (s8.2.set (Int.toNat s8.1) (rdL s8.2 (w64 (s8.1 - 1))))),fun _ => []⟩,⟨fun _ => slA Aa (Int.toNat (w64 (s8.1 - 1)) * 1),fun _ => noR,fun _ => []⟩,⟨fun _ => undef,fun _ => aJ Aa ca 3 1 p0.length (encL cI ((s8.2.set (Int.toNat s8.1) (rdL s8.2 (w64 (s8.1 - 1)))).set (Int.toNat (w64 (s8.1 - 1))) (rdL s8.2 s8.1))),fun _ => []⟩] 2 cQ (by kernel_rfl) (by kernel_rfl) ⟨⟨fun ξ14 ξ14' h => ⟨rfl,rfl,rfl⟩,fun _ => rfl⟩,⟨fun ξ14 ξ14' h => ⟨rfl,rfl,rfl⟩,fun _ => rfl⟩,⟨fun ξ14 ξ14' h => ⟨rfl,rfl,rfl⟩,fun _ => rfl⟩,⟨fun ξ14 ξ14' h => ⟨rfl,rfl,rfl⟩,fun _ => rfl⟩,⟨fun ξ14 ξ14' h => ⟨rfl,rfl,rfl⟩,fun _ => rfl⟩,⟨fun ξ14 ξ14' h => ⟨rfl,rfl,rfl⟩,fun _ => rfl⟩,⟨fun ξ14 ξ14' h => ⟨rfl,rfl,rfl⟩,fun _ => rfl⟩,⟨fun ξ14 ξ14' h => ⟨rfl,rfl,rfl⟩,fun _ => rfl⟩,⟨fun ξ14 ξ14' h => ⟨rfl,rfl,rfl⟩,fun _ => rfl⟩,⟨fun ξ14 ξ14' h => ⟨rfl,rfl,rfl⟩,fun _ => rfl⟩,⟨fun ξ14 ξ14' h => ⟨rfl,rfl,rfl⟩,fun _ => rfl⟩,⟨fun ξ14 ξ14' h => ⟨rfl,rfl,rfl⟩,fun _ => rfl⟩,⟨fun ξ14 ξ14' h => ⟨rfl,rfl,rfl⟩,fun _ => rfl⟩,⟨fun ξ14 ξ14' h => ⟨rfl,rfl,rfl⟩,fun _ => rfl⟩,⟨fun ξ14 ξ14' h => ⟨rfl,rfl,rfl⟩,fun _ => rfl⟩,⟨fun ξ14 ξ14' h => ⟨rfl,rfl,rfl⟩,fun _ => rfl⟩,⟨fun ξ14 ξ14' h => ⟨rfl,rfl,rfl⟩,fun _ => rfl⟩,⟨fun ξ14 ξ14' h => ⟨rfl,rfl,rfl⟩,fun _ => rfl⟩,trivial⟩ rfl (fun ξ14 => ?_)
      refine bj rfl (fun L2 => ?_) ?_
      ·dsimp only [ar,lca,lna]
       refine oY rfl (yMS rfl) (oN ?_)
       exact ab (fun _ => (none,0,0,[],noR)) rfl (List.append_nil _)
      dsimp only [aV,lsz,lss,lna,lca,List.append_nil]
      refine bj rfl (fun L2 => ?_) ?_
      ·dsimp only [ar,lca,lna]
       refine oY rfl (yMI rfl) (oN ?_)
       exact ab (fun _ => (none,0,0,[],noR)) rfl (List.append_nil _)
      dsimp only [aV,lsz,lss,lna,lca,List.append_nil]
      refine bj rfl (fun L2 => ?_) ?_
      ·dsimp only [ar,lca,lna]
       refine oY rfl (yMS rfl) (oN ?_)
       exact ab (fun _ => (none,0,0,[],noR)) rfl (List.append_nil _)
      dsimp only [aV,lsz,lss,lna,lca,List.append_nil]
      refine bj rfl (fun L2 => ?_) ?_
      ·dsimp only [ar,lca,lna]
       refine oY rfl (yMI rfl) (oN ?_)
       exact ab (fun _ => (none,0,0,[],noR)) rfl (List.append_nil _)
      dsimp only [aV,lsz,lss,lna,lca,List.append_nil]
      refine bj rfl (fun L2 => ?_) ?_
      ·dsimp only [ar,lca,lna]
       refine oY rfl (eM rfl rfl) (oN ?_)
       exact ab (fun _ => (none,0,0,[],noR)) rfl (List.append_nil _)
      dsimp only [aV,lsz,lss,lna,lca,List.append_nil]
      refine bj rfl (fun L2 => ?_) ?_
      ·dsimp only [ar,lca,lna]
       refine oY rfl (yMS rfl) (oN ?_)
       exact ab (fun _ => (none,0,0,[],noR)) rfl (List.append_nil _)
      dsimp only [aV,lsz,lss,lna,lca,List.append_nil]
      refine bj rfl (fun L2 => ?_) ?_
      ·dsimp only [ar,lca,lna]
       refine oY rfl (yMI rfl) (oN ?_)
       exact ab (fun _ => (none,0,0,[],noR)) rfl (List.append_nil _)
      dsimp only [aV,lsz,lss,lna,lca,List.append_nil]
      refine bj rfl (fun L2 => ?_) ?_
      ·dsimp only [ar,lca,lna]
       refine oY rfl (eM rfl rfl) (oN ?_)
       exact ab (fun _ => (none,0,0,[],noR)) rfl (List.append_nil _)
      dsimp only [aV,lsz,lss,lna,lca,List.append_nil]
      refine bj rfl (fun L2 => ?_) ?_
      ·dsimp only [ar,lca,lna]
       refine oY rfl (yI d9 (by decide) hg15.1 hg15.2 (RdL.row 1 rfl) (eL aG hn1_s8) rfl rfl) ?_
       refine oN ?_
       exact ab (fun _ => (none,0,0,[],noR)) rfl (List.append_nil _)
      dsimp only [aV,lsz,lss,lna,lca,List.append_nil]
      refine bj rfl (fun L2 => ?_) ?_
      ·dsimp only [ar,lca,lna]
       refine oY rfl (yR (A:=Aa) (j:=(Int.toNat (w64 (s8.1 - 1)) * 1)) (v:=vI (rdL s8.2 (w64 (s8.1 - 1)))) bc (RdL.row 1 rfl) rfl (aW aG hg15.1 (av hg15.2 hn1_s8) rfl)) (oN ?_)
       exact ab (fun _ => (none,0,0,[],noR)) rfl (List.append_nil _)
      dsimp only [aV,lsz,lss,lna,lca,List.append_nil]
      refine bj rfl (fun L2 => ?_) ?_
      ·dsimp only [ar,lca,lna]
       refine oY rfl (yMS rfl) (oN ?_)
       exact ab (fun _ => (none,0,0,[],noR)) rfl (List.append_nil _)
      dsimp only [aV,lsz,lss,lna,lca,List.append_nil]
      refine bj rfl (fun L2 => ?_) ?_
      ·dsimp only [ar,lca,lna]
       refine oY rfl (yMI rfl) (oN ?_)
       exact ab (fun _ => (none,0,0,[],noR)) rfl (List.append_nil _)
      dsimp only [aV,lsz,lss,lna,lca,List.append_nil]
      refine bj rfl (fun L2 => ?_) ?_
      ·dsimp only [ar,lca,lna]
       refine oY rfl (yI d9 (by decide) hg16.1 hg16.2 (RdL.row 1 rfl) (eL aG hn1_s8) rfl rfl) ?_
       refine oN ?_
       exact ab (fun _ => (none,0,0,[],noR)) rfl (List.append_nil _)
      dsimp only [aV,lsz,lss,lna,lca,List.append_nil]
      refine bj rfl (fun L2 => ?_) ?_
      ·dsimp only [ar,lca,lna]
       refine oY rfl (yR (A:=Aa) (j:=(Int.toNat s8.1 * 1)) (v:=vI (rdL s8.2 s8.1)) bc (RdL.row 1 rfl) rfl (aW aG hg16.1 (av hg16.2 hn1_s8) rfl)) (oN ?_)
       exact ab (fun _ => (none,0,0,[],noR)) rfl (List.append_nil _)
      dsimp only [aV,lsz,lss,lna,lca,List.append_nil]
      refine bj rfl (fun L2 => ?_) ?_
      ·dsimp only [ar,lca,lna]
       refine oY rfl (yI d9 (by decide) hg17.1 hg17.2 (RdL.row 1 rfl) (eL aG hn1_s8) rfl rfl) ?_
       refine oN ?_
       exact ab (fun _ => (none,0,0,[],noR)) rfl (List.append_nil _)
      dsimp only [aV,lsz,lss,lna,lca,List.append_nil]
      refine pw rfl (fun L2 => ?_) ?_
      ·dsimp only [ar,lca,lna]
       refine ck rfl (iV 1 (xs:=s8.2) aG (rdL s8.2 (w64 (s8.1 - 1))) pZ rfl hg17.1 (av hg17.2 hn1_s8) rfl rfl rfl rfl) (oN ?_)
       first | exact bf (fun _ => (none,0,0,[],noR)) rfl | exact bf (fun _ => (none,0,0,[],noR)) (List.append_nil _)
      dsimp only [aV,lsz,lss,lna,lca,List.append_nil]
      refine bj rfl (fun L2 => ?_) ?_
      ·dsimp only [ar,lca,lna]
       refine oY rfl (yI d9 (by decide) hg18.1 hg18.2 (RdL.row 1 rfl) (eL aG (c3 hn1_s8)) rfl rfl) ?_
       refine oN ?_
       exact ab (fun _ => (none,0,0,[],noR)) rfl (List.append_nil _)
      dsimp only [aV,lsz,lss,lna,lca,List.append_nil]
      refine pw rfl (fun L2 => ?_) ?_
      ·dsimp only [ar,lca,lna]
       refine ck rfl (iV 1 (xs:=(s8.2.set (Int.toNat s8.1) (rdL s8.2 (w64 (s8.1 - 1))))) aG (rdL s8.2 s8.1) pZ rfl hg18.1 (av hg18.2 (c3 hn1_s8)) rfl rfl rfl rfl) (oN ?_)
       first | exact bf (fun _ => (none,0,0,[],noR)) rfl | exact bf (fun _ => (none,0,0,[],noR)) (List.append_nil _)
      dsimp only [aV,lsz,lss,lna,lca,List.append_nil]
      refine g9 (az (eT (cR (oY rfl (yMI rfl) (oY rfl (eM rfl rfl) (oY rfl (yAI rfl) (oN ?_)))))))
      obtain rfl:=sI h
      exact eN ⟨_,(c3 (c3 hn1_s8)),rfl,(kp4 (kp (kp rfl)))⟩
     ·refine cF (vB hp13) (aH (ai ?_))
      obtain rfl:=sI h
      exact aA ⟨rfl,_,hn1_s8,rfl,(kp4 (kp (kp rfl)))⟩
    ·clear h; rcases iOs hb12 with ⟨hp10,h⟩ | ⟨hp10,h⟩
     ·refine qY (sT rfl rfl rfl rfl hp10) (yMS rfl) (qY (sT rfl rfl rfl rfl hp10) (yMI rfl) ?_)
      obtain ⟨hg19,h⟩:=gOs h
      refine qY (sT rfl rfl rfl rfl hp10) (yI d9 (by decide) hg19.1 hg19.2 (RdL.row 1 rfl) (eL aG hn1_s8) rfl rfl) ?_
      refine qY (sT rfl rfl rfl rfl hp10) (yR (A:=Aa) (j:=(Int.toNat s8.1 * 1)) (v:=vI (rdL s8.2 s8.1)) bc (RdL.row 1 rfl) rfl (aW aG hg19.1 (av hg19.2 hn1_s8) rfl)) (qY (sT rfl rfl rfl rfl hp10) (yMS rfl) (qY (sT rfl rfl rfl rfl hp10) (yMI rfl) (qY (sT rfl rfl rfl rfl hp10) (eM rfl rfl) ?_)))
      obtain ⟨hg20,h⟩:=gOs h
      refine qY (sT rfl rfl rfl rfl hp10) (yI d9 (by decide) hg20.1 hg20.2 (RdL.row 1 rfl) (eL aG hn1_s8) rfl rfl) ?_
      refine qY (sT rfl rfl rfl rfl hp10) (yR (A:=Aa) (j:=(Int.toNat (w64 (s8.1 - 1)) * 1)) (v:=vI (rdL s8.2 (w64 (s8.1 - 1)))) bc (RdL.row 1 rfl) rfl (aW aG hg20.1 (av hg20.2 hn1_s8) rfl)) ?_
      obtain ⟨y21,hy22,h⟩:=bOs h
      refine qY (sT rfl rfl rfl rfl hp10) (yC [vI (rdL s8.2 s8.1),vI (rdL s8.2 (w64 (s8.1 - 1)))] go_107 rfl (fun W2 hW2 => mP (rdL s8.2 s8.1) (rdL s8.2 (w64 (s8.1 - 1))) y21 hy22 W2 ) rfl) (qY rfl (ad (vB hp10) rfl) ?_)
      obtain rfl:=sI h
      exact key _ _ (kp4 (kp (kp (kp rfl))))
     ·refine aF (sF rfl rfl rfl rfl hp10) (aF (sF rfl rfl rfl rfl hp10) (aF (sF rfl rfl rfl rfl hp10) (aF (sF rfl rfl rfl rfl hp10) (aF (sF rfl rfl rfl rfl hp10) (aF (sF rfl rfl rfl rfl hp10) (aF (sF rfl rfl rfl rfl hp10) (aF (sF rfl rfl rfl rfl hp10) (aF (sF rfl rfl rfl rfl hp10) (aF (sF rfl rfl rfl rfl hp10) (qY rfl (ae (vB hp10) rfl) ?_))))))))))
      obtain rfl:=sI h
      exact key _ _ (kp4 (kp (kp (kp rfl))))
   ·intro e L tm hJ
    obtain ⟨rfl,tm0_u9,hn1_u9,rfl,rfl⟩:=hJ
    refine ⟨(by intro hc; cases hc),?_⟩
    refine ag (az (eT (cR (oY rfl (yMI rfl) (oY rfl (be rfl rfl) (oY rfl (yAI rfl) (oN ?_)))))))
    obtain rfl:=sI h
    exact eN ⟨_,hn1_u9,rfl,(kp4 rfl)⟩
  ·refine cF (vB hp5) (aH (ai ?_))
   obtain rfl:=sI h
   exact aA ⟨rfl,_,hn1_s3,rfl,(kp4 rfl)⟩
 ·intro e L tm hJ
  obtain ⟨rfl,tm0_u4,hn1_u4,rfl,rfl⟩:=hJ
  refine ⟨(by intro hc; cases hc),?_⟩
  refine ag ?_
  obtain rfl:=sI h
  exact bO (.inr rfl) rfl  (fun W2 hW2 => ⟨rfl,hn1_u4,hW2.take 2⟩)
theorem lI {x : Int} (h:0 ≤ x ∧ x < 16) : x = 0 ∨ x = 1 ∨ x = 2 ∨ x = 3 ∨ x = 4 ∨ x = 5 ∨ x = 6 ∨ x = 7 ∨ x = 8 ∨ x = 9 ∨ x = 10 ∨ x = 11 ∨ x = 12 ∨ x = 13 ∨ x = 14 ∨ x = 15:=by omega
theorem ld (p0:Int) (res:Int) (h:fF p0 = some res) (W:World) :
  Calls Tryz.prog 111 [.int .u64 p0].toArray W fun e W2 => e = .returned (vI res) ∧ Ext W W2 []:=by
 unfold fF at h
 obtain ⟨hg,h⟩:=gOs h
 refine ac (m:=25) Tryz.func111 rfl rfl (nB rfl) ?_
 have h1 : decide ((4294967296:Int) ≤ p0) = false:=decide_eq_false (by omega)
 have h2 : decide ((65536:Int) ≤ p0) = false:=decide_eq_false (by omega)
 have h3 : decide ((256:Int) ≤ p0) = false:=decide_eq_false (by omega)
 refine cS (cR (oY rfl (yAI rfl) (oN (eT (cS (cS (cR (oY rfl (yMI rfl) (oY rfl (pg rfl rfl) (oN (eT (cF (vB h1) (cK (eT (cS (cS (cR (oY rfl (yMI rfl) (oY rfl (pg rfl rfl) (oN (eT (cF (vB h2) (cK (eT (cS (cS (cR (oY rfl (yMI rfl) (oY rfl (pg rfl rfl) (oN (eT (cF (vB h3) (cK (eT (cS (cR (oY rfl (yMI rfl) (oY rfl (yMI rfl) ?_))))))))))))))))))))))))))))))))))))))
 refine oY rfl (sH (a':=p0) (q':=.u8) ui_169 ui_5 (by rcases lI hg with rfl | rfl | rfl | rfl | rfl | rfl | rfl | rfl | rfl | rfl | rfl | rfl | rfl | rfl | rfl | rfl <;> decide) rfl) ?_
 refine oY rfl (rF (b:=UInt8.ofNat (lenv p0).toNat) us_s9 hg.1 (by rcases lI hg with rfl | rfl | rfl | rfl | rfl | rfl | rfl | rfl | rfl | rfl | rfl | rfl | rfl | rfl | rfl | rfl <;> rfl) rfl rfl) ?_
 refine oY rfl (sH (a':=lenv p0) (q':=.i64) ui_5 ui_3 (by rcases lI hg with rfl | rfl | rfl | rfl | rfl | rfl | rfl | rfl | rfl | rfl | rfl | rfl | rfl | rfl | rfl | rfl <;> decide) rfl) ?_
 refine oY rfl (be rfl rfl) (oY rfl (yAI rfl) (oN (eT (am ?_))))
 obtain rfl:=sI h
 exact ao (.inl rfl) rfl (rVt (v:=vI (w64 (0 + lenv p0))) rfl) (fun W2 hW2 => ⟨rfl,hW2.none⟩)
theorem jo (p0:Int) (res:Int) (h:eJ p0 = some res) (W:World)  :
  Calls Tryz.prog 74 [.int .u64 p0].toArray W fun e W2 => e = .returned (vI res) ∧ Ext W W2 []:=by
 unfold eJ at h
 refine ac (m:=8) Tryz.func74 rfl rfl (nB rfl) (cS (cR (oY rfl (yAI rfl) (oN (eT (cS (cF rfl (cK (eT (cS (cR (oY rfl (yMI rfl) ?_))))))))))))
 obtain ⟨y1,hy2,h⟩:=bOs h
 refine oY rfl (yC [.int .u64 p0] go_111 rfl (fun W2 hW2 => ld p0 y1 hy2 W2 ) rfl) (oY rfl (yAI rfl) (oN (eT (am ?_))))
 obtain rfl:=sI h
 exact ao (.inl rfl) rfl (rVt (v:=vI y1) rfl) (fun W2 hW2 => ⟨rfl,hW2.none⟩)
theorem gO (p0:(List Int)) (p1:Int) (p2:Int) (p3:Int) (res:(List Int)) (h:cg p0 p1 p2 p3 = some res) (W:World) (w0:World) (R:Res) (Aa:Option Addr) (n0_0 ca : Nat) (hn0_0:n0_0 = p0.length) (hW:Ext w0 W [R,aJ Aa ca 3 1 n0_0 (encL cI p0)]) :
  Calls Tryz.prog 73 [.slice Aa n0_0 ca,vI p1,vI p2,vI p3].toArray W fun e W2 => e = .returned (.tuple #[]) ∧ n0_0 = res.length ∧ Ext w0 W2 [R,aJ Aa ca 3 1 n0_0 (encL cI res)]:=by
 subst hn0_0
 unfold cg at h
 refine aM (m:=134) Tryz.func73 rfl rfl (nB rfl) hW (cS (cR (oY rfl (yAB rfl) (oN (eT (cS (cR (oY rfl (yAB rfl) (oN (eT (cB ?_)))))))))))
 obtain ⟨u4,hl9,h⟩:=bOs h
 refine oR (fun (s:(Int × Int × Int × Bool × Bool × (List Int))) L tm => ∃ (tm0:Nat → Value),p0.length = s.2.2.2.2.2.length ∧ L = [R,aJ Aa ca 3 1 p0.length (encL cI s.2.2.2.2.2)] ∧ tm = (upd (upd (upd (upd (upd (upd tm0 0 (.slice Aa p0.length ca)) 1 (vI s.1)) 2 (vI s.2.1)) 3 (vI s.2.2.1)) 8 (.bool s.2.2.2.1)) 9 (.bool s.2.2.2.2.1))) (fun s e L tm => e = .ret ∧ ∃ (tm0:Nat → Value),p0.length = s.2.2.2.2.2.length ∧ L = [R,aJ Aa ca 3 1 p0.length (encL cI s.2.2.2.2.2)] ∧ tm = (upd (upd (upd (upd (upd (upd tm0 0 (.slice Aa p0.length ca)) 1 (vI s.1)) 2 (vI s.2.1)) 3 (vI s.2.2.1)) 8 (.bool s.2.2.2.1)) 9 (.bool s.2.2.2.2.1))) hl9 ⟨_,rfl,rfl,(kp4 (kp (kp rfl)))⟩ ?_ ?_
 ·rintro s3 L tm st ⟨tm0_s3,hn1_s3,rfl,rfl⟩ h
  unfold bL at h
  refine cB (cS (cR (oY rfl (yMI rfl) (oY rfl (yMI rfl) (oY rfl (eM rfl rfl) (oY rfl (yAI rfl) (oN (eT (cS (cS (cR (oY rfl (yMI rfl) (oY rfl (kn rfl rfl) (oN (eT ?_)))))))))))))))
  obtain ⟨hp5,h⟩:=gOs h
  refine cT (vB hp5) (cS (cR (oY rfl (yMS rfl) (oY rfl (yMI rfl) (oY rfl (yMI rfl) ?_)))))
  obtain ⟨y6,hy7,h⟩:=bOs h
  refine dL 1 [.slice Aa p0.length ca,vI s3.1,vI s3.2.1] (fun (_:Unit) => p0.length = y6.length) (fun _ => .tuple #[]) (fun _ => aJ Aa ca 3 1 p0.length (encL cI y6)) (fun _ => []) rfl rfl go_101 rfl (fun W2 hW2 => (fx s3.2.2.2.2.2 s3.1 s3.2.1 y6 hy7 W2 _ (cA [R,aJ Aa ca 3 1 p0.length (encL cI s3.2.2.2.2.2)] [1]) Aa p0.length ca (hn1_s3) hW2).mono (fun e W3 h3 => ⟨(),h3.2.1,h3.1,h3.2.2⟩)) ?_
  rintro - hn8
  try dsimp only [lsz,lss,List.append_nil]
  refine oN (eT (am (aa (al ?_))))
  obtain rfl:=sI h
  exact aA ⟨rfl,_,hn8,rfl,(kp4 (kp (kp rfl)))⟩
 ·intro e L tm hJ
  obtain ⟨rfl,tm0_u4,hn1_u4,rfl,rfl⟩:=hJ
  refine ⟨(by intro hc; cases hc),?_⟩
  refine al ?_
  obtain rfl:=sI h
  exact bO (.inl rfl) rfl  (fun W2 hW2 => ⟨rfl,hn1_u4,hW2.take 2⟩)
theorem insO_l2 {n : Nat} {data0 : List Int} (h0:data0.length = n) (hn:n < 1000000) (x:Int) :
  ∀ (k:Nat) (A1 T : List Int),A1.length = k → A1.length + 1 + T.length = n → ∃ B1 B2 : List Int,A1 = B1 ++ B2 ∧ aT (aR data0 0) ((A1.length:Int),A1 ++ x :: T) = some ((B1.length:Int),B1 ++ x :: (B2 ++ T)) ∧ (∀ y ∈ B2,x < y) ∧ (∀ y,B1.getLast? = some y → ¬ x < y):=by
 intro k
 induction k with
 | zero =>
  intro A1 T hk hl
  have : A1 = []:=List.eq_nil_of_length_eq_zero hk
  subst this
  refine ⟨[],[],rfl,?_,by simp,by simp⟩
  refine bZ ?_
  unfold aR; dsimp only
  rfl
 | succ k ih =>
  intro A1 T hk hl
  obtain ⟨A,y,rfl⟩ : ∃ A y,A1 = A ++ [y]:=⟨A1.dropLast,A1.getLast (by intro h; rw [h] at hk; cases hk),(List.dropLast_concat_getLast _).symm⟩
  have hA : A.length = k:=by simpa using hk
  simp only [List.length_append,List.length_cons,List.length_nil] at hl
  have e1 : A ++ [y] ++ x :: T = A ++ y :: x :: T:=by simp
  have hi : (((A ++ [y]).length : Nat) : Int) = (A.length:Int) + 1:=by simp
  have hj1 : w64 ((((A ++ [y]).length : Nat) : Int) - 1) = (A.length:Int):=by rw [dk (by simp only [List.length_append,List.length_cons,List.length_nil]; omega) (by simp only [List.length_append,List.length_cons,List.length_nil]; omega)]; simp
  have r1 : rdL (A ++ [y] ++ x :: T) (((A ++ [y]).length : Nat) : Int) = x:=mB _ _ _ _ rfl
  have r2 : rdL (A ++ [y] ++ x :: T) (A.length:Int) = y:=by rw [e1]; exact mB _ _ _ _ rfl
  have g1 : (0:Int) ≤ (((A ++ [y]).length : Nat) : Int) ∧ (((A ++ [y]).length : Nat) : Int) < (data0.length:Int):=by rw [h0]; simp only [List.length_append,List.length_cons,List.length_nil]; omega
  have g2 : (0:Int) ≤ (A.length:Int) ∧ (A.length:Int) < (data0.length:Int):=by rw [h0]; omega
  have hd : decide ((0:Int) < (((A ++ [y]).length : Nat) : Int)) = true:=decide_eq_true (by rw [hi]; omega)
  have hless : gv x y = some (decide (x < y)):=by
   unfold gv dM
   simp
  have step : aR data0 0 ((((A ++ [y]).length : Nat) : Int),A ++ [y] ++ x :: T) = if x < y then some (.inl ((A.length:Int),A ++ x :: ([y] ++ T))) else some (.inr ((((A ++ [y]).length : Nat) : Int),A ++ [y] ++ x :: T)):=by
   unfold aR; dsimp only
   simp only [hj1,r1,r2,hd,if_true,gPo g1,gPo g2,hless,Option.bind_some,decide_eq_true_eq]
   by_cases hlt : x < y
   ·rw [if_pos hlt,if_pos hlt]
    refine congrArg some (congrArg Sum.inl (Prod.ext rfl ?_))
    show ((A ++ [y] ++ x :: T).set (Int.toNat (((A ++ [y]).length : Nat) : Int)) y).set (Int.toNat (A.length:Int)) x = _
    rw [Int.toNat_natCast,Int.toNat_natCast,mq (A ++ [y]) x y T _ rfl]
    have e3 : A ++ [y] ++ y :: T = A ++ y :: (y :: T):=by simp
    rw [e3,mq A y x (y :: T) _ rfl]
    simp
   ·rw [if_neg hlt,if_neg hlt]
  by_cases hlt : x < y
  ·rw [if_pos hlt] at step
   obtain ⟨B1,B2,hB,hr,h2,h3⟩:=ih A ([y] ++ T) hA (by simp; omega)
   refine ⟨B1,B2 ++ [y],by rw [hB,List.append_assoc],?_,?_,h3⟩
   ·rw [fv step,hr]
    simp
   ·intro z hz
    rcases List.mem_append.1 hz with hz | hz
    ·exact h2 z hz
    ·rw [List.mem_singleton.1 hz]; exact hlt
  ·rw [if_neg hlt] at step
   refine ⟨A ++ [y],[],by simp,?_,by simp,?_⟩
   ·rw [bZ step]; simp
   ·intro z hz
    simp at hz
    rw [← hz]
    exact hlt
theorem insO_all {l : List Int} (hl:l.length < 1000000) : bl l 0 (l.length:Int) = some (ph l):=by
 unfold bl
 have e1 : w64 (0 + 1) = 1:=rfl
 rw [e1]
 have main : ∀ (R A : List Int),(A ++ R).Perm l → fe A → ∃ s,aT (aE l 0 (l.length:Int)) ((A.length:Int),A ++ R) = some ((l.length:Int),s) ∧ s.Perm l ∧ fe s:=by
  intro R
  induction R with
  | nil =>
   intro A hp hs
   have hlen : A.length = l.length:=by have:=hp.length_eq; simpa using this
   refine ⟨A,?_,by simpa using hp,hs⟩
   rw [List.append_nil,hlen]
   refine bZ ?_
   unfold aE; dsimp only
   rw [show decide ((l.length:Int) < (l.length:Int)) = false from decide_eq_false (by omega)]
   rfl
  | cons x T ih =>
   intro A hp hs
   have hlen : A.length + (T.length + 1) = l.length:=by have:=hp.length_eq; simpa using this
   obtain ⟨B1,B2,hB,hr,h2,h3⟩:=insO_l2 (data0:=l) rfl hl x A.length A T rfl (by omega)
   have hstep : aE l 0 (l.length:Int) ((A.length:Int),A ++ x :: T) = some (.inl (((B1 ++ x :: B2).length : Int),(B1 ++ x :: B2) ++ T)):=by
    unfold aE; dsimp only
    rw [show decide ((A.length:Int) < (l.length:Int)) = true from decide_eq_true (by omega)]
    rw [if_pos rfl,hr,Option.bind_some]
    have hw : w64 ((A.length:Int) + 1) = (A.length:Int) + 1:=dk (by omega) (by omega)
    simp only [hw]
    refine congrArg some (congrArg Sum.inl (Prod.ext ?_ ?_))
    ·simp [hB]; omega
    ·simp
   have hs' : fe (B1 ++ x :: B2):=by
    unfold fe at hs ⊢
    rw [hB,List.pairwise_append] at hs
    obtain ⟨s1,s2,s3⟩:=hs
    have hle : ∀ y ∈ B1,y ≤ x:=by
     intro y hy
     rcases List.eq_nil_or_concat B1 with rfl | ⟨B,z,rfl⟩
     ·cases hy
     ·have hz:=h3 z (by simp)
      rw [List.concat_eq_append] at hy s1
      rcases List.mem_append.1 hy with hy | hy
      ·rw [List.pairwise_append] at s1
       have:=s1.2.2 y hy z (by simp); omega
      ·rw [List.mem_singleton.1 hy]; omega
    rw [List.pairwise_append]
    refine ⟨s1,List.pairwise_cons.2 ⟨fun y hy => by have:=h2 y hy; omega,s2⟩,fun a ha b hb => ?_⟩
    rcases List.mem_cons.1 hb with rfl | hb
    ·exact hle a ha
    ·exact s3 a ha b hb
   have hp' : ((B1 ++ x :: B2) ++ T).Perm l:=by
    refine List.Perm.trans ?_ hp
    rw [hB]
    simp only [List.append_assoc,lca]
    exact List.Perm.append_left B1 (List.perm_middle).symm
   obtain ⟨s,h4,h5,h6⟩:=ih (B1 ++ x :: B2) hp' hs'
   exact ⟨s,by rw [fv hstep]; exact h4,h5,h6⟩
 rcases l with _ | ⟨x,T⟩
 ·have : aT (aE [] 0 (([]:List Int).length : Int)) (1,[]) = some (1,[]):=by
   refine bZ ?_
   unfold aE
   rfl
  rw [this]
  rfl
 ·obtain ⟨s,h1,h2,h3⟩:=main T [x] (by simp) (by simp [fe])
  have h1' : aT (aE (x :: T) 0 ((x :: T).length : Int)) (1,x :: T) = some (((x :: T).length : Int),s):=h1
  rw [h1',Option.bind_some,srtI_eq h2 h3]
theorem pdqO_all {l : List Int} (hl:l.length ≤ 12) (v:Int) : cg l 0 (l.length:Int) v = some (ph l):=by
 unfold cg
 have hstep : bL (0,(l.length:Int),v,true,true,l) = some (.inr (0,(l.length:Int),v,true,true,ph l)):=by
  unfold bL; dsimp only
  have hw : w64 ((l.length:Int) - 0) = (l.length:Int):=by rw [dk (by omega) (by omega)]; omega
  rw [hw,gPo (decide_eq_true (by omega)),insO_all (by omega)]
  rfl
 rw [bZ hstep]
 rfl
theorem dY (p0:(List Int)) (res:(List Int)) (h:bJ p0 = some res) (W:World) (w0:World) (R:Res) (Aa:Option Addr) (n0_0 ca : Nat) (hn0_0:n0_0 = p0.length) (hW:Ext w0 W [R,aJ Aa ca 3 1 n0_0 (encL cI p0)]) :
  Calls Tryz.prog 37 [.slice Aa n0_0 ca].toArray W fun e W2 => e = .returned (.tuple #[]) ∧ n0_0 = res.length ∧ Ext w0 W2 [R,aJ Aa ca 3 1 n0_0 (encL cI res)]:=by
 subst hn0_0
 unfold bJ at h
 obtain ⟨hg0,h⟩:=gOs h
 obtain rfl:=sI h
 have hlen : p0.length = (ph p0).length:=(srtI_len p0).symm
 refine aM (m:=11) Tryz.func37 rfl rfl (nB rfl) hW (cS (cR (oY rfl (yMS rfl) (oY rfl (bu (us:=[]) dH rfl) (oY rfl (yAI rfl) (oN (eT (cR (oY rfl (yMS rfl) (oY rfl (yMI rfl) (oY rfl (yMI rfl) ?_)))))))))))
 have hg1 : (0:Int) ≤ (p0.length:Int) ∧ (p0.length:Int) ≤ 9223372036854775807:=by omega
 refine oY rfl (ou ui_3 ui_125 hg1 rfl) ?_
 obtain ⟨y2,hy3⟩ : ∃ y2,eJ (p0.length:Int) = some y2:=by
  unfold eJ fF
  rw [gPo (by omega)]
  exact ⟨_,rfl⟩
 refine oY rfl (yC [.int .u64 (p0.length:Int)] go_74 rfl (fun W2 hW2 => jo (p0.length:Int) y2 hy3 W2 ) rfl) ?_
 have hy5:=pdqO_all hg0 y2
 refine dL 1 [.slice Aa p0.length ca,vI 0,vI (p0.length:Int),vI y2] (fun (_:Unit) => p0.length = (ph p0).length) (fun _ => .tuple #[]) (fun _ => aJ Aa ca 3 1 p0.length (encL cI (ph p0))) (fun _ => []) rfl rfl go_73 rfl (fun W2 hW2 => (gO p0 0 (p0.length:Int) y2 (ph p0) hy5 W2 _ (cA [R,aJ Aa ca 3 1 p0.length (encL cI p0)] [1]) Aa p0.length ca rfl hW2).mono (fun e W3 h3 => ⟨(),h3.2.1,h3.1,h3.2.2⟩)) ?_
 rintro - hn6
 try dsimp only [lsz,lss,List.append_nil]
 refine oN ?_
 exact bO (.inr rfl) rfl  (fun W2 hW2 => ⟨rfl,hlen,hW2.take 2⟩)
theorem gk (p0:TR) (p1:Int) (p2:Int) (p3:Int) (p4:Int) (res:((List Int) × Int)) (h:dN p0 p1 p2 p3 p4 = some res) (W:World) (Ab:Option Addr) (n0_1 cb : Nat) (ys0_1:List (Hd × TT)) (hn0_1:n0_1 = p0.fT.length) (hr0_1:Rd W Ab n0_1 cb (encL TTrack_cells2 ys0_1)) (hN0_1:NestW W (fun z : TT => z.fK) TSpan_cells ys0_1 p0.fT) :
  Calls Tryz.prog 9 [.agg #[vI p0.fL,.slice Ab n0_1 cb],vI p1,vI p2,vI p3,vI p4].toArray W fun e W2 => ∃ x : Option Addr × Nat × Nat,x.2.1 = res.1.length ∧ e = .returned (.tuple #[.slice x.1 x.2.1 x.2.2,vI res.2]) ∧ Ext W W2 [aJ x.1 x.2.2 3 1 x.2.1 (encL cI res.1)]:=by
 subst hn0_1
 unfold dN at h
 refine ac (m:=77) Tryz.func9 rfl rfl (nB rfl) (cS (cR ?_))
 refine aZ [vI p0.fL,.slice Ab p0.fT.length cb] rfl rfl rfl (fun b1 => ?_)
 refine oY rfl (yAS rfl) (oY rfl (yAI rfl) (oN (eT (cS (cR (oY rfl (yN 0 [vI p0.fL,.slice Ab p0.fT.length cb] dU rfl rfl rfl) (oY rfl (yMI rfl) (oY rfl (yMI rfl) (oY rfl (yMI rfl) (oY rfl (yMI rfl) ?_))))))))))
 obtain ⟨y2,hy3,h⟩:=bOs h
 refine oC [.agg #[vI p0.fL,.slice Ab p0.fT.length cb],vI p1,vI p2,vI p3,vI p4] _ _ _ rfl go_7 rfl (fun W2 hW2 => fo p0 p1 p2 p3 p4 y2 hy3 W2 Ab p0.fT.length cb ys0_1 rfl ((RdL.arg hr0_1) W2 hW2) (NestL.at (NestL.arg hN0_1) W2 hW2) W (fun _ => True) (fun W3 hb => ⟨fu hW2.below hb,trivial⟩) ) ?_
 rintro ⟨⟨A6,n8,c7⟩,F10⟩ ⟨hn9,hV11⟩
 replace hn9 : n8 = y2.1.fLegs.length:=hn9; subst hn9
 refine oY rfl (aI rfl) (oY rfl (yE rfl rfl) (oY rfl (yE rfl rfl) ?_))
 refine aB iX rfl (fun b12 => ?_)
 refine ck rfl (yS 2 [.slice A6 y2.1.fLegs.length c7,vI y2.1.fA,vI y2.1.fToll] jB rfl (nB rfl) rfl rfl rfl) (oY rfl (yAI rfl) (oN (eT (cS (cS (cR (oY rfl (yMI rfl) (oY rfl (eo rfl rfl) (oN (eT ?_))))))))))
 rcases iOs h with ⟨hp13,h⟩ | ⟨hp13,h⟩
 ·refine cT (vB hp13) (cS (cR (oY rfl (yMI rfl) (oY rfl (yAS rfl) (oY rfl (yAI rfl) (oN (eT (am (aa ?_)))))))))
  obtain rfl:=sI h
  exact bv (.inl rfl) rfl (rVt (v:=.slice none 0 0) rfl) (rVt (v:=vI y2.2) rfl) (fun W2 hW2 => ⟨(none,0,0),rfl,rfl,((hW2.nilrow 3 1).pick 3 rfl)⟩)
 ·refine cF (vB hp13) (cK (eT (cS (cR (oY rfl (yAS rfl) (oN (eT (cS (cS (cR (oY rfl (yFA bS rfl) (oY rfl (yL 0 fX rfl rfl rfl) (oY rfl (bu (us:=[]) gg rfl) (oY rfl (yMI rfl) (oN (eT (cB ?_)))))))))))))))))
  obtain ⟨u17,hl57,h⟩:=bOs h
  refine da 3 1 ?_
  refine bm (fun (s:(Int × (List Int))) L tm => ∃ (tm0:Nat → Value) (A3_s:Option Addr) (c3_s:Nat) (n3_s:Nat),n3_s = s.2.length ∧ L = [ah b1 24 [vI p0.fL,.slice Ab p0.fT.length cb],F10,ah b12 31 [.slice A6 y2.1.fLegs.length c7,vI y2.1.fA,vI y2.1.fToll],aJ A3_s c3_s 3 1 n3_s (encL cI s.2)] ∧ tm = (upd (upd (upd (upd (upd (upd (upd (upd (upd (upd (upd (upd tm0 1 (vI p1)) 2 (vI p2)) 3 (vI p3)) 4 (vI p4)) 5 (.pointer (some ⟨b1,0,none⟩))) 10 (.slice none 0 0)) 11 (vI 0)) 12 (.pointer (some ⟨b12,0,none⟩))) 14 (.slice A3_s n3_s c3_s)) 33 (.slice Ab p0.fT.length cb)) 34 (vI (p0.fT.length:Int))) 35 (vI s.1))) 0 hl57 ⟨_,none,0,0,rfl,rfl,(kp4 (kp4 (kp4 rfl)))⟩ ?_ ?_
  ·rintro s16 L tm st ⟨tm0_s16,A3_s16,c3_s16,n3_s16,rfl,rfl,rfl⟩ h
   unfold eR at h
   refine cS (cR (oY rfl (bB rfl rfl) (oN (eT (cS ?_)))))
   rcases iOs h with ⟨hp18,h⟩ | ⟨hp18,h⟩
   ·refine cT (vB hp18) (cK (eT (cS (cB (cS (cR (oY rfl (yMI rfl) ?_)))))))
    obtain ⟨hg19,h⟩:=gOs h
    refine oY rfl (yI io (by decide) hg19.1 hg19.2 (RdL.arg hr0_1) (eL aj (NestP.hn hN0_1.p rfl)) rfl rfl) ?_
    refine oY rfl (yM (A:=Ab) (j:=(Int.toNat s16.1 * 6)) [vI ((rdL p0.fT s16.1).fID),vI ((rdL p0.fT s16.1).fFrom),vI ((rdL p0.fT s16.1).fTo),vI ((rdL p0.fT s16.1).fLong),vI ((rdL p0.fT s16.1).fToll),.slice ((rdL ys0_1 s16.1).1.1) ((rdL p0.fT s16.1).fK.length) ((rdL ys0_1 s16.1).1.2.2)] pJ (Nat.succ_pos _) (RdL.arg hr0_1) rfl (m8 (eV (NestP.snd hN0_1.p s16.1) (NestP.len hN0_1.p hg19.1 (av hg19.2 rfl))).symm (bh aj hg19.1 (av hg19.2 (NestP.hn hN0_1.p rfl))))) ?_
    refine aB je rfl (fun b20 => ?_)
    refine oY rfl (yAI rfl) (ck rfl (yS 4 [vI ((rdL p0.fT s16.1).fID),vI ((rdL p0.fT s16.1).fFrom),vI ((rdL p0.fT s16.1).fTo),vI ((rdL p0.fT s16.1).fLong),vI ((rdL p0.fT s16.1).fToll),.slice ((rdL ys0_1 s16.1).1.1) ((rdL p0.fT s16.1).fK.length) ((rdL ys0_1 s16.1).1.2.2)] sz_39 rfl (nB rfl) rfl rfl rfl) (oN (eT (cS ?_))))
    obtain ⟨y22,hy23,h⟩:=bOs h
    have hPc_y22:=ex hy23 hN0_1.p
    obtain ⟨y31,hy32,h⟩:=bOs h
    refine cO [[],[0],[],[2],[2,3],[],[],[6],[2,3,4,5,6,7],[0,1,2,3,4,5,6,7,8],[],[0,1,2,3,4,5,6,7,8,9,10]] [(none,0,[true,true,true,true,true]),(none,0,[true,true,true,true,true]),(none,0,[true,true,true,true,true]),(none,0,[true,true,true,true,true]),(none,1,[true,true,true,true,true]),(none,0,[true,true,true,true,true,false]),(none,0,[true,true,true,true,true,false]),(none,0,[true,true,true,true,true,false]),(some 5,1,[true,true,true,true,true,true]),(none,0,[true,true,true,true,true,true,true]),(none,1,[true,true,true,true,true,false,false]),(some 7,0,[true,true,true,true,true,true,true,true])] [⟨fun _ => .pointer (some ⟨b1,0 + 0,none⟩),fun _ => noR,fun _ => []⟩,⟨fun _ => vI p0.fL,fun _ => noR,fun _ => []⟩,⟨fun _ => .pointer (some ⟨b1,0 + 1,none⟩),fun _ => noR,fun _ => []⟩,⟨fun _ => .slice Ab p0.fT.length cb,fun _ => noR,fun _ => []⟩,⟨fun ξ21 => .slice (ξ21 4 0).1 y22.length (ξ21 4 0).2.2.1,fun _ => noR,fun ξ21 => [aJ (ξ21 4 0).1 (ξ21 4 0).2.2.1 39 6 y22.length (encL TTrack_cells2 ys0_1)]⟩,⟨fun _ => vI s16.1,fun _ => noR,fun _ => []⟩,⟨fun _ => vI s16.1,fun _ => noR,fun _ => []⟩,⟨fun _ => vI (w64 (s16.1 + 1)),fun _ => noR,fun _ => []⟩,⟨fun ξ21 => .slice (ξ21 4 0).1 y31.length (ξ21 4 0).2.2.1,fun ξ21 => aJ (ξ21 4 0).1 (ξ21 4 0).2.2.1 39 6 y31.length (encL TTrack_cells2 (List.zip (ξ21 8 0).2.2.2.1 y31)),fun ξ21 => [rR (NestP (fun z : TT => z.fK) (List.zip (ξ21 8 0).2.2.2.1 y31) y31 ∧ ∀ y ∈ (List.zip (ξ21 8 0).2.2.2.1 y31),y ∈ ys0_1)]⟩,⟨fun ξ21 => .agg #[vI p0.fL,.slice (ξ21 4 0).1 y31.length (ξ21 4 0).2.2.1],fun _ => noR,fun _ => []⟩,⟨fun ξ21 => .pointer (some ⟨(ξ21 10 0).2.1,0,none⟩),fun _ => noR,fun ξ21 => [ah (ξ21 10 0).2.1 24 [vI 0,.slice none 0 0]]⟩,⟨fun _ => undef,fun ξ21 => ah (ξ21 10 0).2.1 24 [vI p0.fL,.slice (ξ21 4 0).1 y31.length (ξ21 4 0).2.2.1],fun _ => []⟩] 5 cQ (by kernel_rfl) (by kernel_rfl) ⟨⟨fun ξ21 ξ21' h => ⟨rfl,rfl,rfl⟩,fun _ => rfl⟩,⟨fun ξ21 ξ21' h => ⟨rfl,rfl,rfl⟩,fun _ => rfl⟩,⟨fun ξ21 ξ21' h => ⟨rfl,rfl,rfl⟩,fun _ => rfl⟩,⟨fun ξ21 ξ21' h => ⟨rfl,rfl,rfl⟩,fun _ => rfl⟩,⟨fun ξ21 ξ21' h => ⟨by simp only [h 4 (.inl rfl)],rfl,by simp only [h 4 (.inl rfl)]⟩,fun _ => rfl⟩,⟨fun ξ21 ξ21' h => ⟨rfl,rfl,rfl⟩,fun _ => rfl⟩,⟨fun ξ21 ξ21' h => ⟨rfl,rfl,rfl⟩,fun _ => rfl⟩,⟨fun ξ21 ξ21' h => ⟨rfl,rfl,rfl⟩,fun _ => rfl⟩,⟨fun ξ21 ξ21' h => ⟨by simp only [h 4 (.inr rfl)],by simp only [h 4 (.inr rfl),h 8 (.inl rfl)],by simp only [h 8 (.inl rfl)]⟩,fun _ => rfl⟩,⟨fun ξ21 ξ21' h => ⟨by simp only [h 4 (.inr rfl)],rfl,rfl⟩,fun _ => rfl⟩,⟨fun ξ21 ξ21' h => ⟨by simp only [h 10 (.inl rfl)],rfl,by simp only [h 10 (.inl rfl)]⟩,fun _ => rfl⟩,⟨fun ξ21 ξ21' h => ⟨rfl,by simp only [h 4 (.inr rfl),h 10 (.inr rfl)],rfl⟩,fun _ => rfl⟩,trivial⟩ rfl (fun ξ21 => ?_)
    refine bj rfl (fun L2 => ?_) ?_
    ·dsimp only [ar,lca,lna]
     refine oY rfl (yFA gY rfl) (oN ?_)
     exact ab (fun _ => (none,0,0,[],noR)) rfl (List.append_nil _)
    dsimp only [aV,lsz,lss,lna,lca,List.append_nil]
    refine bj rfl (fun L2 => ?_) ?_
    ·dsimp only [ar,lca,lna]
     refine oY rfl (yL 0 bc rfl rfl rfl) (oN ?_)
     exact ab (fun _ => (none,0,0,[],noR)) rfl (List.append_nil _)
    dsimp only [aV,lsz,lss,lna,lca,List.append_nil]
    refine bj rfl (fun L2 => ?_) ?_
    ·dsimp only [ar,lca,lna]
     refine oY rfl (yFA bS rfl) (oN ?_)
     exact ab (fun _ => (none,0,0,[],noR)) rfl (List.append_nil _)
    dsimp only [aV,lsz,lss,lna,lca,List.append_nil]
    refine bj rfl (fun L2 => ?_) ?_
    ·dsimp only [ar,lca,lna]
     refine oY rfl (yL 0 fX rfl rfl rfl) (oN ?_)
     exact ab (fun _ => (none,0,0,[],noR)) rfl (List.append_nil _)
    dsimp only [aV,lsz,lss,lna,lca,List.append_nil]
    refine bj rfl (fun L2 => ?_) ?_
    ·dsimp only [ar,lca,lna]
     refine oC [.slice Ab p0.fT.length cb] _ _ _ rfl go_33 rfl (fun W2 hW2 => eC p0.fT y22 hy23 W2 Ab p0.fT.length cb ys0_1 rfl ((RdL.arg hr0_1) W2 hW2) (NestL.at (NestL.arg hN0_1) W2 hW2)) ?_
     rintro ⟨A26,n28,c27⟩ ⟨hn29,hP30⟩
     replace hn29 : n28 = y22.length:=hn29; subst hn29
     refine oN ?_
     exact ab (fun _ => (A26,0,c27,[],noR)) rfl rfl
    dsimp only [aV,lsz,lss,lna,lca,List.append_nil]
    refine bj rfl (fun L2 => ?_) ?_
    ·dsimp only [ar,lca,lna]
     refine oY rfl (yMI rfl) (oN ?_)
     exact ab (fun _ => (none,0,0,[],noR)) rfl (List.append_nil _)
    dsimp only [aV,lsz,lss,lna,lca,List.append_nil]
    refine bj rfl (fun L2 => ?_) ?_
    ·dsimp only [ar,lca,lna]
     refine oY rfl (yMI rfl) (oN ?_)
     exact ab (fun _ => (none,0,0,[],noR)) rfl (List.append_nil _)
    dsimp only [aV,lsz,lss,lna,lca,List.append_nil]
    refine bj rfl (fun L2 => ?_) ?_
    ·dsimp only [ar,lca,lna]
     refine oY rfl (be rfl rfl) (oN ?_)
     exact ab (fun _ => (none,0,0,[],noR)) rfl (List.append_nil _)
    dsimp only [aV,lsz,lss,lna,lca,List.append_nil]
    refine bj rfl (fun L2 => ?_) ?_
    ·dsimp only [ar,lca,lna]
     refine dL 5 [.slice (ξ21 4 0).1 y22.length (ξ21 4 0).2.2.1,vI s16.1,vI (w64 (s16.1 + 1))] (fun x : Nat × List (Hd × TT) => x.1 = y31.length ∧ NestP (fun z : TT => z.fK) x.2 y31 ∧ ∀ y ∈ x.2,y ∈ ys0_1) (fun x => .slice (ξ21 4 0).1 x.1 (ξ21 4 0).2.2.1) (fun x => aJ (ξ21 4 0).1 (ξ21 4 0).2.2.1 39 6 x.1 (encL TTrack_cells2 x.2)) (fun _ => []) rfl rfl go_36 rfl (fun W2 hW2 => (gM y22 s16.1 (w64 (s16.1 + 1)) y31 hy32 W2 _ _ (ξ21 4 0).1 y22.length (ξ21 4 0).2.2.1 ys0_1 rfl hPc_y22 (fun y hy W3 hb hR => (PvL.of_nest hN0_1) y hy W3 hb trivial) hW2).mono (fun e W3 h3 => h3)) ?_
     rintro ⟨k33,ys35⟩ ⟨hn34,hP36,hS37⟩
     replace hn34 : k33 = y31.length:=hn34
     subst hn34
     try dsimp only [lsz,lss,List.append_nil]
     obtain ⟨hs38,rfl⟩ : ∃ hs38 : List Hd,ys35 = List.zip hs38 y31:=⟨_,NestP.zip hP36⟩
     refine n1 (p:=(NestP (fun z : TT => z.fK) (List.zip hs38 y31) y31 ∧ ∀ y ∈ (List.zip hs38 y31),y ∈ ys0_1)) ⟨hP36,hS37⟩ ?_
     try dsimp only [lna,lca]
     try rw [List.append_nil L2]
     refine oN ?_
     exact ab (fun _ => (none,0,0,hs38,noR)) rfl rfl
    dsimp only [aV,lsz,lss,lna,lca,List.append_nil]
    refine bj rfl (fun L2 => ?_) ?_
    ·dsimp only [ar,lca,lna]
     refine oY rfl (aS [vI p0.fL,.slice (ξ21 4 0).1 y31.length (ξ21 4 0).2.2.1] [(0,1),(1,1)] lw jN (by kernel_rfl)) ?_
     refine oN ?_
     exact ab (fun _ => (none,0,0,[],noR)) rfl (List.append_nil _)
    dsimp only [aV,lsz,lss,lna,lca,List.append_nil]
    refine bj rfl (fun L2 => ?_) ?_
    ·dsimp only [ar,lca,lna]
     refine aB jN rfl (fun b39 => ?_)
     refine oN ?_
     exact ab (fun _ => (none,b39,0,[],noR)) rfl rfl
    dsimp only [aV,lsz,lss,lna,lca,List.append_nil]
    refine pw rfl (fun L2 => ?_) ?_
    ·dsimp only [ar,lca,lna]
     refine ck rfl (yS 7 [vI p0.fL,.slice (ξ21 4 0).1 y31.length (ξ21 4 0).2.2.1] mm rfl (nB rfl) rfl rfl rfl) (oN ?_)
     first | exact bf (fun _ => (none,0,0,[],noR)) rfl | exact bf (fun _ => (none,0,0,[],noR)) (List.append_nil _)
    dsimp only [aV,lsz,lss,lna,lca,List.append_nil]
    refine g9 ?_
    refine sD 6 rfl (fun hF => ?_)
    obtain ⟨hP36,hS37⟩:=hF
    refine eT (cS (cR ?_))
    try dsimp only [lna,lca,lsz,lss]
    refine oY rfl (yN 7 [vI p0.fL,.slice (ξ21 4 0).1 y31.length (ξ21 4 0).2.2.1] dU rfl rfl rfl) (oY rfl (yMI rfl) (oY rfl (yMI rfl) (oY rfl (yMI rfl) (oY rfl (yMI rfl) ?_))))
    obtain ⟨y40,hy41,h⟩:=bOs h
    refine oC [.agg #[vI p0.fL,.slice (ξ21 4 0).1 y31.length (ξ21 4 0).2.2.1],vI p1,vI p2,vI p3,vI p4] _ _ _ rfl go_30 rfl (fun W2 hW2 => jD (TR.mk p0.fL y31) p1 p2 p3 p4 y40 hy41 W2 (ξ21 4 0).1 y31.length (ξ21 4 0).2.2.1 (List.zip (ξ21 8 0).2.2.2.1 y31) rfl ((RdL.row 5 rfl) W2 hW2) (NestL.at (PvL.nestL hP36 (PvL.sub (PvL.of_nest hN0_1) hS37) (fun W2 hW2 => ⟨hW2.below,trivial⟩)) W2 hW2) W (fun _ => True) (fun W3 hb => ⟨fu hW2.below hb,trivial⟩) ) ?_
    rintro ⟨⟨A44,n46,c45⟩,F48⟩ ⟨hn47,hV49⟩
    replace hn47 : n46 = y40.1.fLegs.length:=hn47; subst hn47
    try dsimp only [lna,lca,lsz,lss]
    refine oY rfl (aI rfl) (oY rfl (yE rfl rfl) (oY rfl (yE rfl rfl) ?_))
    refine aB iX rfl (fun b50 => ?_)
    try dsimp only [lna,lca,lsz,lss]
    refine ck rfl (yS 9 [.slice A44 y40.1.fLegs.length c45,vI y40.1.fA,vI y40.1.fToll] jB rfl (nB rfl) rfl rfl rfl) (oY rfl (yAB rfl) (oN (eT (cS (cR (oY rfl (yMB rfl) (oY rfl (cr rfl) (oY rfl (yMB rfl) ?_))))))))
    refine oJ 6 (fun tm0 => (upd (upd (upd (upd (upd (upd (upd (upd (upd (upd (upd (upd (upd (upd (upd (upd (upd (upd (upd tm0 1 (vI p1)) 2 (vI p2)) 3 (vI p3)) 4 (vI p4)) 5 (.pointer (some ⟨b1,0,none⟩))) 10 (.slice none 0 0)) 11 (vI 0)) 12 (.pointer (some ⟨b12,0,none⟩))) 14 (.slice A3_s16 s16.2.length c3_s16)) 33 (.slice Ab p0.fT.length cb)) 34 (vI (p0.fT.length:Int))) 35 (vI s16.1)) 36 (.bool (decide (s16.1 < (p0.fT.length:Int))))) 16 (.pointer (some ⟨b20,0,none⟩))) 15 (vI s16.1)) 17 (.pointer (some ⟨(ξ21 10 0).2.1,0,none⟩))) 18 (.pointer (some ⟨b50,0,none⟩))) 19 (.bool y40.2)) 67 (.bool ((!y40.2) || (y40.1.fA != y2.1.fA))))) (fun tm0 => ?_) (fun key => ?_)
    ·refine oN (eT ?_)
     rcases iOs h with ⟨hp52,h⟩ | ⟨hp52,h⟩
     ·refine cT (vB hp52) (cR (oY rfl (yMS rfl) (oY rfl (yFA jy rfl) (oY rfl (yL 4 bc rfl rfl rfl) ?_))))
      refine aK 1 (encL cI [(rdL p0.fT s16.1).fID]) _ m7 dH lX oK (by decide) (by decide) (by kernel_rfl) (eL aG rfl) rfl (fun b53 => ?_)
      try dsimp only [lna,lca,lsz,lss]
      obtain ⟨hg56,h⟩:=gOs h
      refine bq 3 dH lX oK rfl rfl rfl (RdL.row 10 rfl) (eL aG rfl) (cf nX _) (cv hg56 (by decide)) rfl (fun A54 c55 => ?_)
      refine oY rfl (yAS rfl) (oN (az (eT (cR (oY rfl (be rfl rfl) (oY rfl (yMI rfl) (oN (aY 4 ?_))))))))
      obtain rfl:=sI h
      exact eN ⟨_,A54,c55,(s16.2.length + 1),(fi rfl rfl),rfl,(kp4 (kp4 (kp4 rfl)))⟩
     ·refine cF (vB hp52) (cK (az (eT (cR (oY rfl (be rfl rfl) (oY rfl (yMI rfl) (oN (aY 4 ?_))))))))
      obtain rfl:=sI h
      exact eN ⟨_,A3_s16,c3_s16,s16.2.length,rfl,rfl,(kp4 (kp4 (kp4 rfl)))⟩
    ·rcases aq (!y40.2) with hp51 | hp51
     ·refine oSk (sF rfl rfl rfl rfl hp51) (oSk (sF rfl rfl rfl rfl hp51) (oSk (sF rfl rfl rfl rfl hp51) (oSk (sF rfl rfl rfl rfl hp51) (oSk (sF rfl rfl rfl rfl hp51) (oY rfl (ad (vB hp51) rfl) ?_)))))
      exact key _ _ (keep (keep (keep (keep (keep (keep (keep (keep (keep (keep (keep (keep (keep (keep (keep (keep (keep (keep (keep rfl rfl) rfl) rfl) rfl) rfl) rfl) rfl) rfl) rfl) rfl) rfl) rfl) rfl) rfl) rfl) rfl) rfl) rfl) (vB (kg hp51)))
     ·refine oY (sT rfl rfl rfl rfl hp51) (yFA fa rfl) (oY (sT rfl rfl rfl rfl hp51) (yL 9 bc rfl rfl rfl) (oY (sT rfl rfl rfl rfl hp51) (yFA fa rfl) (oY (sT rfl rfl rfl rfl hp51) (yL 2 bc rfl rfl rfl) (oY (sT rfl rfl rfl rfl hp51) (eo rfl rfl) (oY rfl (ae (vB hp51) rfl) ?_)))))
      exact key _ _ (keep (keep (keep (keep (keep (keep (keep (keep (keep (keep (keep (keep (keep (keep (keep (keep (keep (keep (keep rfl rfl) rfl) rfl) rfl) rfl) rfl) rfl) rfl) rfl) rfl) rfl) rfl) rfl) rfl) rfl) rfl) rfl) rfl) (vB (j9 hp51)))
   ·refine cF (vB hp18) (aH (ai ?_))
    obtain rfl:=sI h
    exact aA ⟨rfl,_,A3_s16,c3_s16,s16.2.length,rfl,rfl,(kp4 (kp4 (kp4 rfl)))⟩
  ·intro e L tm hJ
   obtain ⟨rfl,tm0_u17,A3_u17,c3_u17,n3_u17,rfl,rfl,rfl⟩:=hJ
   refine ⟨(by intro hc; cases hc),?_⟩
   refine ag (eT (cS (cR (oY rfl (yMS rfl) ?_))))
   obtain ⟨y58,hy59,h⟩:=bOs h
   refine dL 3 [.slice A3_u17 u17.2.length c3_u17] (fun (_:Unit) => u17.2.length = y58.length) (fun _ => .tuple #[]) (fun _ => aJ A3_u17 c3_u17 3 1 u17.2.length (encL cI y58)) (fun _ => []) rfl rfl go_37 rfl (fun W2 hW2 => (dY u17.2 y58 hy59 W2 _ (cA [ah b1 24 [vI p0.fL,.slice Ab p0.fT.length cb],F10,ah b12 31 [.slice A6 y2.1.fLegs.length c7,vI y2.1.fA,vI y2.1.fToll],aJ A3_u17 c3_u17 3 1 u17.2.length (encL cI u17.2)] [3]) A3_u17 u17.2.length c3_u17 rfl hW2).mono (fun e W3 h3 => ⟨(),h3.2.1,h3.1,h3.2.2⟩)) ?_
   rintro - hn60
   try dsimp only [lsz,lss,List.append_nil]
   refine oN (eT (cS (cR (oY rfl (yMS rfl) (oY rfl (yAS rfl) (oY rfl (yAI rfl) (oN (eT (am ?_)))))))))
   obtain rfl:=sI h
   exact bv (.inl rfl) rfl (rVt (v:=.slice A3_u17 u17.2.length c3_u17) rfl) (rVt (v:=vI 0) rfl) (fun W2 hW2 => ⟨(A3_u17,u17.2.length,c3_u17),hn60,rfl,(hW2.pick 3 rfl)⟩)
theorem oH (p0:TT) (p1:Int) (res:(Int × Int)) (h:lQ p0 p1 = some res) (W:World) (A0_5:Option Addr) (n0_5 c0_5 : Nat) (hn0_5:n0_5 = p0.fK.length) (hr0_5:Rd W A0_5 n0_5 c0_5 (encL TSpan_cells p0.fK)) :
  Calls Tryz.prog 11 [.agg #[vI p0.fID,vI p0.fFrom,vI p0.fTo,vI p0.fLong,vI p0.fToll,.slice A0_5 n0_5 c0_5],vI p1].toArray W fun e W2 => e = .returned (.tuple #[vI res.1,vI res.2]) ∧ Ext W W2 []:=by
 subst hn0_5
 unfold lQ at h
 refine ac (m:=26) Tryz.func11 rfl rfl (nB rfl) (cS (cR ?_))
 refine aZ [vI p0.fID,vI p0.fFrom,vI p0.fTo,vI p0.fLong,vI p0.fToll,.slice A0_5 p0.fK.length c0_5] rfl rfl rfl (fun b1 => ?_)
 refine oY rfl (yAI rfl) (oY rfl (yAI rfl) (oN (eT (cS (cS (cR (oY rfl (yFA jh rfl) (oY rfl (yL 0 qx rfl rfl rfl) ?_))))))))
 obtain ⟨y2,hy3,h⟩:=bOs h
 refine oY rfl (yC [.slice A0_5 p0.fK.length c0_5] go_38 rfl (fun W2 hW2 => kq p0.fK y2 hy3 W2 A0_5 p0.fK.length c0_5 rfl ((RdL.arg hr0_5) W2 hW2)) rfl) (oY rfl (cr rfl) (oY rfl (yMB rfl) ?_))
 obtain ⟨b5,hb6,h⟩:=bOs h
 refine oJ 4 (fun tm0 => (upd (upd (upd (upd (upd tm0 1 (vI p1)) 2 (.pointer (some ⟨b1,0,none⟩))) 4 (vI 0)) 5 (vI 0)) 16 (.bool b5))) (fun tm0 => ?_) (fun key => ?_)
 ·refine oN (eT ?_)
  rcases iOs h with ⟨hp7,h⟩ | ⟨hp7,h⟩
  ·refine cT (vB hp7) (cS (cR (oY rfl (yAI rfl) (oY rfl (yAI rfl) (oN (eT (am (aa ?_))))))))
   obtain rfl:=sI h
   exact bv (.inl rfl) rfl (rVt (v:=vI 0) rfl) (rVt (v:=vI 1) rfl) (fun W2 hW2 => ⟨rfl,hW2.none⟩)
  ·refine cF (vB hp7) (cK (eT (cS (cR (oY rfl (yN 0 [vI p0.fID,vI p0.fFrom,vI p0.fTo,vI p0.fLong,vI p0.fToll,.slice A0_5 p0.fK.length c0_5] pJ rfl rfl rfl) (oY rfl (yMI rfl) ?_))))))
   obtain ⟨y8,hy9,h⟩:=bOs h
   refine oY rfl (yC [.agg #[vI p0.fID,vI p0.fFrom,vI p0.fTo,vI p0.fLong,vI p0.fToll,.slice A0_5 p0.fK.length c0_5],vI p1] go_39 rfl (fun W2 hW2 => lu p0 p1 y8 hy9 W2 A0_5 p0.fK.length c0_5 rfl ((RdL.arg hr0_5) W2 hW2)) rfl) (oY rfl (aI rfl) (oY rfl (yE rfl rfl) (oY rfl (yE rfl rfl) (oY rfl (yAI rfl) (oY rfl (yAB rfl) (oN (eT (cS (cS (cR (oY rfl (yMB rfl) (oY rfl (cr rfl) (oN (eT ?_))))))))))))))
   rcases iOs h with ⟨hp10,h⟩ | ⟨hp10,h⟩
   ·refine cT (vB hp10) (cS (cR (oY rfl (yAI rfl) (oY rfl (yAI rfl) (oN (eT (am (aa ?_))))))))
    obtain rfl:=sI h
    exact bv (.inl rfl) rfl (rVt (v:=vI 0) rfl) (rVt (v:=vI 5) rfl) (fun W2 hW2 => ⟨rfl,hW2.none⟩)
   ·refine cF (vB hp10) (cK (eT (cS (cR (oY rfl (yMI rfl) (oY rfl (yAI rfl) (oY rfl (yAI rfl) (oN (eT (am ?_))))))))))
    obtain rfl:=sI h
    exact bv (.inl rfl) rfl (rVt (v:=vI y8.1) rfl) (rVt (v:=vI 0) rfl) (fun W2 hW2 => ⟨rfl,hW2.none⟩)
 ·clear h; rcases iOs hb6 with ⟨hp4,h⟩ | ⟨hp4,h⟩
  ·refine oSk (sF rfl rfl rfl rfl hp4) (oSk (sF rfl rfl rfl rfl hp4) (oSk (sF rfl rfl rfl rfl hp4) (oY rfl (ad (vB hp4) rfl) ?_)))
   obtain rfl:=sI h
   exact key _ _ (kp4 (kp rfl))
  ·refine oY (sT rfl rfl rfl rfl hp4) (yMI rfl) ?_
   obtain ⟨y11,hy12,h⟩:=bOs h
   refine oY (sT rfl rfl rfl rfl hp4) (yC [vI p1] o0 rfl (fun W2 hW2 => dc p1 y11 hy12 W2 ) rfl) (oY (sT rfl rfl rfl rfl hp4) (cr rfl) (oY rfl (ae (vB hp4) rfl) ?_))
   obtain rfl:=sI h
   exact key _ _ (kp4 (kp rfl))
theorem lh  (res:TR) (h:gU = some res) (W:World) (wb:World) (Hb:World → Prop) (hB:∀ W3,Below W.heap.size W W3 → Below wb.heap.size wb W3 ∧ Hb W3) :
  Calls Tryz.prog 17 [].toArray W fun e W2 => ∃ x : ((Option Addr × Nat × Nat) × (List (Hd × TT)) × Res),(x.1.2.1 = res.fT.length ∧ NestP (fun z : TT => z.fK) x.2.1 res.fT ∧ PvL (fun z : TT => z.fK) TSpan_cells wb (fun W4 => Hb W4 ∧ Res.holds x.2.2 W4) x.2.1) ∧ e = .returned (.agg #[vI res.fL,.slice x.1.1 x.1.2.1 x.1.2.2]) ∧ Ext W W2 [aJ x.1.1 x.1.2.2 39 6 x.1.2.1 (encL TTrack_cells2 x.2.1),x.2.2]:=by
 unfold gU at h
 refine ac (m:=9) Tryz.func17 rfl rfl (nB rfl) (cS (cR ?_))
 refine aB jN rfl (fun b1 => ?_)
 refine oN (eT (cS (cR ?_)))
 refine oY rfl (aS [vI 1,vI 0,vI 1,vI 5,vI 0,.slice none 0 0] [(0,1),(1,1),(2,1),(3,1),(4,1),(5,1)] qO je (by kernel_rfl)) ?_
 refine oY rfl (aS [vI 8,vI 20] [(0,1),(1,1)] qW lm (by kernel_rfl)) ?_
 refine aK 1 (encL TSpan_cells [(TSpan.mk 8 20)]) _ qv ko lm qg (by decide) (by decide) (by kernel_rfl) (eL ax rfl) rfl (fun b2 => ?_)
 refine oY rfl (aS [vI 2,vI 1,vI 2,vI 5,vI 0,.slice (some ⟨b2,0,none⟩) 1 1] [(0,1),(1,1),(2,1),(3,1),(4,1),(5,1)] qO je (by kernel_rfl)) ?_
 refine oY rfl (aS [vI 3,vI 0,vI 2,vI 9,vI 6,.slice none 0 0] [(0,1),(1,1),(2,1),(3,1),(4,1),(5,1)] qO je (by kernel_rfl)) ?_
 refine oY rfl (aS [vI 4,vI 1,vI 2,vI 8,vI 2,.slice none 0 0] [(0,1),(1,1),(2,1),(3,1),(4,1),(5,1)] qO je (by kernel_rfl)) ?_
 refine qX ?_
 refine j4 2 1 (by decide) rfl rfl ?_
 refine aK 4 (encL TTrack_cells2 [((none,0,0),(TT.mk 1 0 1 5 0 ([]:(List TSpan)))),(((some ⟨b2,0,none⟩),1,1),(TT.mk 2 1 2 5 0 [(TSpan.mk 8 20)])),((none,0,0),(TT.mk 3 0 2 9 6 ([]:(List TSpan)))),((none,0,0),(TT.mk 4 1 2 8 2 ([]:(List TSpan))))]) _ mc_39_4 gg je nH (by decide) (by decide) (by kernel_rfl) (eL aj rfl) rfl (fun b3 => ?_)
 refine oY rfl (aS [vI 3,.slice (some ⟨b3,0,none⟩) 4 4] [(0,1),(1,1)] lw jN (by kernel_rfl)) ?_
 refine ck rfl (yS 0 [vI 3,.slice (some ⟨b3,0,none⟩) 4 4] mm rfl (nB rfl) rfl rfl rfl) (oN (eT (am ?_)))
 obtain rfl:=sI h
 exact ao (.inl rfl) rfl (bz 0 [vI 3,.slice (some ⟨b3,0,none⟩) 4 4] dU rfl rfl rfl) (fun W2 hW2 => ⟨(((some ⟨b3,0,none⟩),4,4),[((none,0,0),(TT.mk 1 0 1 5 0 ([]:(List TSpan)))),(((some ⟨b2,0,none⟩),1,1),(TT.mk 2 1 2 5 0 [(TSpan.mk 8 20)])),((none,0,0),(TT.mk 3 0 2 9 6 ([]:(List TSpan)))),((none,0,0),(TT.mk 4 1 2 8 2 ([]:(List TSpan))))],pO noR (aJ (some ⟨b2,0,none⟩) 1 26 2 1 (encL TSpan_cells [(TSpan.mk 8 20)]))),⟨rfl,(NestP.cons (sel:=(fun z : TT => z.fK)) rfl (NestP.cons (sel:=(fun z : TT => z.fK)) rfl (NestP.cons (sel:=(fun z : TT => z.fK)) rfl (NestP.cons (sel:=(fun z : TT => z.fK)) rfl NestP.nil)))),(PvL.cons (Pv.mono (Hb:=Hb) (Pv.nil rfl) (fun _ _ h => h.1)) (PvL.cons (fun _ _ h => dX h.2.2.1) (PvL.mono (Hb:=(fun W4 => Hb W4 ∧ Res.holds noR W4)) (PvL.cons (Pv.mono (Hb:=Hb) (Pv.nil rfl) (fun _ _ h => h.1)) (PvL.cons (Pv.mono (Hb:=Hb) (Pv.nil rfl) (fun _ _ h => h.1)) PvL.nil)) (fun _ _ h => ⟨h.1,h.2.1⟩))))⟩,rfl,hW2.pickL [3,2] (by decide) rfl⟩)
theorem lq  (res:TY) (h:ij = some res) (W:World)  :
  Calls Tryz.prog 18 [].toArray W fun e W2 => ∃ x : ((Option Addr × Nat × Nat) × (Option Addr × Nat × Nat)),(x.1.2.1 = res.fB.length ∧ x.2.2.1 = res.fOrders.length) ∧ e = .returned (.agg #[.slice x.1.1 x.1.2.1 x.1.2.2,.slice x.2.1 x.2.2.1 x.2.2.2]) ∧ Ext W W2 [aJ x.1.1 x.1.2.2 94 3 x.1.2.1 (encL aC res.fB),aJ x.2.1 x.2.2.2 96 5 x.2.2.1 (encL ay res.fOrders)]:=by
 unfold ij at h
 refine ac (m:=12) Tryz.func18 rfl rfl (nB rfl) (cS (cR ?_))
 refine aB qB rfl (fun b1 => ?_)
 refine oN (eT (cS (cR ?_)))
 refine oY rfl (aS [vI 1,vI 10,vI 3] [(0,1),(1,1),(2,1)] ust_94 nP (by kernel_rfl)) ?_
 refine oY rfl (aS [vI 2,vI 11,vI 5] [(0,1),(1,1),(2,1)] ust_94 nP (by kernel_rfl)) ?_
 refine aK 2 (encL aC [(TBay.mk 1 10 3),(TBay.mk 2 11 5)]) _ mc_94_2 jt nP by_94 (by decide) (by decide) (by kernel_rfl) (eL aL rfl) rfl (fun b2 => ?_)
 refine oY rfl (aS [vI 10,vI 11] [(0,1),(1,1)] qW lm (by kernel_rfl)) ?_
 refine oY rfl (aS [vI 7,vI 10,vI 11,vI 3,vI 5] [(0,1),(1,2),(3,1),(4,1)] sh nF (by kernel_rfl)) ?_
 refine oY rfl (aS [vI 11,vI 12] [(0,1),(1,1)] qW lm (by kernel_rfl)) ?_
 refine oY rfl (aS [vI 8,vI 11,vI 12,vI 4,vI 9] [(0,1),(1,2),(3,1),(4,1)] sh nF (by kernel_rfl)) ?_
 refine oY rfl (aS [vI 10,vI 11] [(0,1),(1,1)] qW lm (by kernel_rfl)) ?_
 refine oY rfl (aS [vI 9,vI 10,vI 11,vI 4,vI 7] [(0,1),(1,2),(3,1),(4,1)] sh nF (by kernel_rfl)) ?_
 refine aK 3 (encL ay [(TO.mk 7 (TSpan.mk 10 11) 3 5),(TO.mk 8 (TSpan.mk 11 12) 4 9),(TO.mk 9 (TSpan.mk 10 11) 4 7)]) _ mc_96_3 kz nF by_96 (by decide) (by decide) (by kernel_rfl) (eL ap rfl) rfl (fun b3 => ?_)
 refine oY rfl (aS [.slice (some ⟨b2,0,none⟩) 2 2,.slice (some ⟨b3,0,none⟩) 3 3] [(0,1),(1,1)] tk qB (by kernel_rfl)) ?_
 refine ck rfl (yS 0 [.slice (some ⟨b2,0,none⟩) 2 2,.slice (some ⟨b3,0,none⟩) 3 3] sz_57 rfl (nB rfl) rfl rfl rfl) (oN (eT (am ?_)))
 obtain rfl:=sI h
 exact ao (.inl rfl) rfl (bz 0 [.slice (some ⟨b2,0,none⟩) 2 2,.slice (some ⟨b3,0,none⟩) 3 3] dp rfl rfl rfl) (fun W2 hW2 => ⟨(((some ⟨b2,0,none⟩),2,2),((some ⟨b3,0,none⟩),3,3)),⟨rfl,rfl⟩,rfl,hW2.pickL [1,2] (by decide) rfl⟩)
theorem dQ (p0:(List Int)) (res:(List Int)) (h:cy p0 = some res) (W:World) (Aa:Option Addr) (n0_0 ca : Nat) (hn0_0:n0_0 = p0.length) (hr0_0:Rd W Aa n0_0 ca (encL cI p0)) :
  Calls Tryz.prog 50 [.slice Aa n0_0 ca].toArray W fun e W2 => ∃ x : Option Addr × Nat × Nat,x.2.1 = res.length ∧ e = .returned (.slice x.1 x.2.1 x.2.2) ∧ Ext W W2 [aJ x.1 x.2.2 3 1 x.2.1 (encL cI res)]:=by
 subst hn0_0
 unfold cy at h
 refine ac (m:=8) Tryz.func50 rfl rfl (nB rfl) (cS (cR (oY rfl (yAS rfl) (oN (eT (cS (cS (cR (oY rfl (yMS rfl) (oY rfl (na dH rfl rfl) (oN (eT ?_))))))))))))
 rcases aq (Option.isNone Aa) with hp1 | hp1
 ·refine cT (vB hp1) ?_
  have z6:=nr (Option.isNone_iff_eq_none.1 hp1 ▸ hr0_0) aG (by decide)
  replace h:=(gOs h).2
  rw [z6] at h
  refine cS (cR (oY rfl (yAS rfl) (oN (eT (am (aa ?_))))))
  obtain rfl:=sI h
  exact ao (.inl rfl) rfl (rVt (v:=.slice none 0 0) rfl) (fun W2 hW2 => ⟨(none,0,0),rfl,rfl,((hW2.nilrow 3 1).pick 0 rfl)⟩)
 ·refine cF (vB hp1) (cK (eT (cS (cR ?_))))
  refine dh cI dH lX oK rfl (fun b2 => ?_)
  refine oY rfl (yMS rfl) ?_
  obtain ⟨hg5,h⟩:=gOs h
  refine bq 0 dH lX oK rfl rfl rfl (RdL.arg hr0_0) (eL aG rfl) (cf nX _) (cv hg5 (by decide)) rfl (fun A3 c4 => ?_)
  refine oY rfl (yAS rfl) (oN (eT (am ?_)))
  obtain rfl:=sI h
  exact ao (.inl rfl) rfl (rVt (v:=.slice A3 (0 + p0.length) c4) rfl) (fun W2 hW2 => ⟨(A3,(0 + p0.length),c4),(fi rfl rfl),rfl,(hW2.pick 0 rfl)⟩)
theorem mn (p0:TR) (p1:Int) (p2:Int) (res:(TTimes × Int)) (h:jb p0 p1 p2 = some res) (W:World) (Ab:Option Addr) (n0_1 cb : Nat) (ys0_1:List (Hd × TT)) (hn0_1:n0_1 = p0.fT.length) (hr0_1:Rd W Ab n0_1 cb (encL TTrack_cells2 ys0_1)) (hN0_1:NestW W (fun z : TT => z.fK) TSpan_cells ys0_1 p0.fT) (wb:World) (Hb:World → Prop) (hB:∀ W3,Below W.heap.size W W3 → Below wb.heap.size wb W3 ∧ Hb W3) :
  Calls Tryz.prog 19 [.agg #[vI p0.fL,.slice Ab n0_1 cb],vI p1,vI p2].toArray W fun e W2 => ∃ x : ((Option Addr × Nat × Nat) × (List (Hd × (List Int))) × Res),(x.1.2.1 = res.1.fH.length ∧ NestP (fun z : (List Int) => z) x.2.1 res.1.fH ∧ PvL (fun z : (List Int) => z) cI wb (fun W4 => Hb W4 ∧ Res.holds x.2.2 W4) x.2.1) ∧ e = .returned (.tuple #[.agg #[.slice x.1.1 x.1.2.1 x.1.2.2],vI res.2]) ∧ Ext W W2 [aJ x.1.1 x.1.2.2 40 1 x.1.2.1 (encL dI x.2.1),x.2.2]:=by
 subst hn0_1
 unfold jb at h
 refine ac (m:=43) Tryz.func19 rfl rfl (nB rfl) (cS (cR ?_))
 refine aZ [vI p0.fL,.slice Ab p0.fT.length cb] rfl rfl rfl (fun b1 => ?_)
 refine aB ze_61 rfl (fun b2 => ?_)
 refine oY rfl (yAI rfl) (oN (eT (cS (cS (cR (oY rfl (yN 0 [vI p0.fL,.slice Ab p0.fT.length cb] dU rfl rfl rfl) (oY rfl (yMI rfl) (oY rfl (yMI rfl) (oY rfl (yMI rfl) ?_)))))))))
 obtain ⟨y3,hy4,h⟩:=bOs h
 refine oY rfl (yC [.agg #[vI p0.fL,.slice Ab p0.fT.length cb],vI p1,vI p1,vI p2,vI 0] go_29 rfl (fun W2 hW2 => gG p0 p1 p1 p2 0 y3 hy4 W2 Ab p0.fT.length cb ys0_1 rfl ((RdL.arg hr0_1) W2 hW2) (NestL.at (NestL.arg hN0_1) W2 hW2)) rfl) (oY rfl (yAI rfl) (oN (eT (cS (cR (oY rfl (yMI rfl) (oY rfl (eo rfl rfl) (oN (eT ?_)))))))))
 rcases iOs h with ⟨hp5,h⟩ | ⟨hp5,h⟩
 ·refine cT (vB hp5) (cS (cR ?_))
  refine oY rfl (aS [.slice none 0 0] [(0,1)] ust_61 ze_61 (by kernel_rfl)) ?_
  refine oY rfl (yMI rfl) (ck rfl (yS 1 [.slice none 0 0] sz_61 rfl (nB rfl) rfl rfl rfl) (oY rfl (yAI rfl) (oN (eT (am (aa ?_))))))
  obtain rfl:=sI h
  exact bv (.inl rfl) rfl (bz 1 [.slice none 0 0] ag_61 rfl rfl rfl) (rVt (v:=vI y3) rfl) (fun W2 hW2 => ⟨((none,0,0),[],noR),⟨rfl,NestP.nil,PvL.nil⟩,rfl,(hW2.nilrow 40 1).addNo.pickL [2,3] (by decide) rfl⟩)
 ·refine cF (vB hp5) (cK (eT (cS (cR (oY rfl (yN 0 [vI p0.fL,.slice Ab p0.fT.length cb] dU rfl rfl rfl) (oY rfl (yMI rfl) (oY rfl (yMI rfl) ?_)))))))
  obtain ⟨y6,hy7,h⟩:=bOs h
  refine lg [.agg #[vI p0.fL,.slice Ab p0.fT.length cb],vI p1,vI p2] _ _ rfl go_48 rfl (fun W2 hW2 => kv p0 p1 p2 y6 hy7 W2 Ab p0.fT.length cb ys0_1 rfl ((RdL.arg hr0_1) W2 hW2) (NestL.at (NestL.arg hN0_1) W2 hW2)) ?_
  rintro b8
  refine oY rfl (ee rfl) (oN (eT (cS (cR ?_))))
  refine aB ze_61 rfl (fun b9 => ?_)
  refine oN (eT (cS (cS (cR (oY rfl (yFA gY rfl) (oY rfl (yL 0 bc rfl rfl rfl) (oY rfl (yMI rfl) (oN (eT (cB ?_))))))))))
  obtain ⟨u13,hl30,h⟩:=bOs h
  refine da 40 1 (da 40 1 (mu (mu ?_)))
  refine bm (fun (s:(Int × (List (List Int)))) L tm => ∃ (tm0:Nat → Value) (A5_s:Option Addr) (c5_s:Nat) (n5_s:Nat) (ys5_s:List (Hd × (List Int))) (F5_s:Res),n5_s = s.2.length ∧ NestP (fun z : (List Int) => z) ys5_s s.2 ∧ PvL (fun z : (List Int) => z) cI wb (fun W4 => Hb W4 ∧ Res.holds F5_s W4) ys5_s ∧ L = [ah b1 24 [vI p0.fL,.slice Ab p0.fT.length cb],ah b2 61 [.slice none 0 0],mapV Tryz.prog 127 cq aO bY (Tl.mk 0 (Ts.mk 0 0) (TLeg.mk 0 0) false) b8 y6,ah b9 61 [.slice A5_s n5_s c5_s],aJ none 0 40 1 0 (encL dI ([]:List (Hd × (List Int)))),aJ A5_s c5_s 40 1 n5_s (encL dI ys5_s),noR,F5_s] ∧ tm = (upd (upd (upd (upd (upd (upd tm0 6 (.pointer (some ⟨b2,0,none⟩))) 7 (vI 0)) 9 (.map (some b8))) 10 (.pointer (some ⟨b9,0,none⟩))) 27 (vI p0.fL)) 28 (vI s.1))) 0 hl30 ⟨_,none,0,0,([]:List (Hd × (List Int))),noR,rfl,NestP.nil,(PvL.mono (Hb:=Hb) PvL.nil (fun _ _ h => h.1)),rfl,(kp4 (kp (kp rfl)))⟩ ?_ ?_
  ·rintro s12 L tm st ⟨tm0_s12,A5_s12,c5_s12,n5_s12,ys5_s12,F5_s12,rfl,hP5_s12,hV5_s12,rfl,rfl⟩ h
   unfold jn at h
   refine cS (cR ?_)
   try dsimp only [lna,lca,lsz,lss]
   refine oY rfl (bB rfl rfl) (oN (eT (cS ?_)))
   rcases iOs h with ⟨hp14,h⟩ | ⟨hp14,h⟩
   ·refine cT (vB hp14) (cK (eT (cS (cB (cS (cR (oY rfl (yMI rfl) (oY rfl (yAI rfl) (oN (eT (cS (cR (oY rfl (cH rfl) (oY rfl (yMI rfl) ?_))))))))))))))
    obtain ⟨y15,hy16,h⟩:=bOs h
    refine oC [.map (some b8),vI s12.1] _ _ _ rfl go_49 rfl (fun W2 hW2 => jq y6 s12.1 y15 hy16 W2 b8 ((MpL.own 2 rfl) W2 hW2)) ?_
    rintro - hl17
    try dsimp only [List.append_nil]
    refine aB qT rfl (fun b18 => ?_)
    try dsimp only [lna,lca,lsz,lss]
    refine ck rfl (o9 8 (xs:=(List.replicate 61 0)) (xs':=y15) qm List.length_replicate hl17 rfl rfl rfl) (oN (eT ?_))
    obtain ⟨y20,hy21,h⟩:=bOs h
    obtain ⟨hg29,h⟩:=gOs h
    refine cO [[],[0],[],[2],[2,3],[0,1,2,3,4],[0,1,2,3,4,5],[0,1,2,3,4,5,6]] [(none,0,[true,true,true,true,true,true,true,false,true]),(none,0,[true,true,true,true,true,true,true,false,true]),(none,0,[true,true,true,true,true,true,true,true,true]),(some 7,1,[true,true,true,true,true,true,true,true,true]),(none,1,[true,true,true,true,true,true,true,true,true,true]),(some 5,0,[true,true,true,true,true,true,true,true,true,true,true]),(none,0,[true,true,true,true,true,true,true,true,true,true,true]),(some 3,0,[true,true,true,true,true,true,true,true,true,true,true])] [⟨fun _ => .pointer (some ⟨b9,0 + 0,none⟩),fun _ => noR,fun _ => []⟩,⟨fun _ => .slice A5_s12 s12.2.length c5_s12,fun _ => noR,fun _ => []⟩,⟨fun _ => .slice (some ⟨b18,0,none⟩) 61 61,fun _ => noR,fun _ => []⟩,⟨fun ξ19 => .slice (ξ19 3 0).1 y20.length (ξ19 3 0).2.2.1,fun ξ19 => pO F5_s12 (aJ (ξ19 3 0).1 (ξ19 3 0).2.2.1 3 1 y20.length (encL cI y20)),fun _ => [noR]⟩,⟨fun ξ19 => .slice (some ⟨(ξ19 4 0).2.1,0,none⟩) 1 1,fun _ => noR,fun ξ19 => [aJ (some ⟨(ξ19 4 0).2.1,0,none⟩) 1 40 1 1 (encL dI [(((ξ19 3 0).1,y20.length,(ξ19 3 0).2.2.1),y20)])]⟩,⟨fun ξ19 => .slice (ξ19 5 0).1 (s12.2.length + 1) (ξ19 5 0).2.2.1,fun ξ19 => aJ (ξ19 5 0).1 (ξ19 5 0).2.2.1 40 1 (s12.2.length + 1) (encL dI (ys5_s12 ++ [(((ξ19 3 0).1,y20.length,(ξ19 3 0).2.2.1),y20)])),fun _ => []⟩,⟨fun _ => .pointer (some ⟨b9,0 + 0,none⟩),fun _ => noR,fun _ => []⟩,⟨fun _ => undef,fun ξ19 => ah b9 61 [.slice (ξ19 5 0).1 (s12.2.length + 1) (ξ19 5 0).2.2.1],fun _ => []⟩] 9 cQ (by kernel_rfl) (by kernel_rfl) ⟨⟨fun ξ19 ξ19' h => ⟨rfl,rfl,rfl⟩,fun _ => rfl⟩,⟨fun ξ19 ξ19' h => ⟨rfl,rfl,rfl⟩,fun _ => rfl⟩,⟨fun ξ19 ξ19' h => ⟨rfl,rfl,rfl⟩,fun _ => rfl⟩,⟨fun ξ19 ξ19' h => ⟨by simp only [h 3 (.inl rfl)],by simp only [h 3 (.inl rfl)],rfl⟩,fun _ => rfl⟩,⟨fun ξ19 ξ19' h => ⟨by simp only [h 4 (.inl rfl)],rfl,by simp only [h 3 (.inr rfl),h 4 (.inl rfl)]⟩,fun _ => rfl⟩,⟨fun ξ19 ξ19' h => ⟨by simp only [h 5 (.inl rfl)],by simp only [h 3 (.inr rfl),h 5 (.inl rfl)],rfl⟩,fun _ => rfl⟩,⟨fun ξ19 ξ19' h => ⟨rfl,rfl,rfl⟩,fun _ => rfl⟩,⟨fun ξ19 ξ19' h => ⟨rfl,by simp only [h 5 (.inr rfl)],rfl⟩,fun _ => rfl⟩,trivial⟩ rfl (fun ξ19 => ?_)
    refine bj rfl (fun L2 => ?_) ?_
    ·dsimp only [ar,lca,lna]
     refine oY rfl (yFA kD rfl) (oN ?_)
     exact ab (fun _ => (none,0,0,[],noR)) rfl (List.append_nil _)
    dsimp only [aV,lsz,lss,lna,lca,List.append_nil]
    refine bj rfl (fun L2 => ?_) ?_
    ·dsimp only [ar,lca,lna]
     refine oY rfl (yL 3 rp rfl rfl rfl) (oN ?_)
     exact ab (fun _ => (none,0,0,[],noR)) rfl (List.append_nil _)
    dsimp only [aV,lsz,lss,lna,lca,List.append_nil]
    refine bj rfl (fun L2 => ?_) ?_
    ·dsimp only [ar,lca,lna]
     refine oY rfl (rs ua_100 pZ rfl) (oN ?_)
     exact ab (fun _ => (none,0,0,[],noR)) rfl (List.append_nil _)
    dsimp only [aV,lsz,lss,lna,lca,List.append_nil]
    refine bj rfl (fun L2 => ?_) ?_
    ·dsimp only [ar,lca,lna]
     refine oC [.slice (some ⟨b18,0,none⟩) 61 61] _ _ _ rfl go_50 rfl (fun W2 hW2 => dQ y15 y20 hy21 W2 (some ⟨b18,0,none⟩) 61 61 (Eq.symm hl17) ((RdL.cellsAs 8 61 rfl) W2 hW2)) ?_
     rintro ⟨A22,n24,c23⟩ hn25
     replace hn25 : n24 = y20.length:=hn25; subst hn25
     refine ox_joinE 7 rfl ?_
     try dsimp only [lsz,lss,lca,lna]
     refine oN ?_
     exact ab (fun _ => (A22,0,c23,[],noR)) rfl rfl
    dsimp only [aV,lsz,lss,lna,lca,List.append_nil]
    refine bj rfl (fun L2 => ?_) ?_
    ·dsimp only [ar,lca,lna]
     refine aK 1 (encL dI [(((ξ19 3 0).1,y20.length,(ξ19 3 0).2.2.1),y20)]) _ mc_40_1 us_59 ze_40 by_40 (by decide) (by decide) (by kernel_rfl) (eL bw rfl) rfl (fun b26 => ?_)
     refine oN ?_
     exact ab (fun _ => (none,b26,0,[],noR)) rfl rfl
    dsimp only [aV,lsz,lss,lna,lca,List.append_nil]
    refine bj rfl (fun L2 => ?_) ?_
    ·dsimp only [ar,lca,lna]
     refine bq 5 us_59 ze_40 by_40 rfl rfl rfl (RdL.row 10 rfl) (eL bw (NestP.hn (NestP.cons (sel:=(fun z : (List Int) => z)) rfl NestP.nil) rfl)) (cf mf _) (cv hg29 (by decide)) rfl (fun A27 c28 => ?_)
     refine oN ?_
     first | exact ab (fun _ => (A27,0,c28,[],noR)) rfl rfl | exact ab (fun _ => (A27,0,c28,[],noR)) rfl (List.append_nil _)
    dsimp only [aV,lsz,lss,lna,lca,List.append_nil]
    refine bj rfl (fun L2 => ?_) ?_
    ·dsimp only [ar,lca,lna]
     refine oY rfl (yFA kD rfl) (oN ?_)
     exact ab (fun _ => (none,0,0,[],noR)) rfl (List.append_nil _)
    dsimp only [aV,lsz,lss,lna,lca,List.append_nil]
    refine pw rfl (fun L2 => ?_) ?_
    ·dsimp only [ar,lca,lna]
     refine ck rfl (dt 3 (v:=.slice (ξ19 5 0).1 (s12.2.length + 1) (ξ19 5 0).2.2.1) sz_59 rfl (Nat.lt_of_lt_of_le (Nat.lt_succ_self _) (nB rfl)) rfl rfl rfl) (oN ?_)
     first | exact bf (fun _ => (none,0,0,[],noR)) rfl | exact bf (fun _ => (none,0,0,[],noR)) (List.append_nil _)
    dsimp only [aV,lsz,lss,lna,lca,List.append_nil]
    refine g9 (az (eT (cR ?_)))
    try dsimp only [lna,lca,lsz,lss]
    refine oY rfl (be rfl rfl) (oY rfl (yMI rfl) (oN (aY 8 ?_)))
    obtain rfl:=sI h
    exact eN ⟨_,(ξ19 5 0).1,(ξ19 5 0).2.2.1,(s12.2.length + 1),(ys5_s12 ++ [(((ξ19 3 0).1,y20.length,(ξ19 3 0).2.2.1),y20)]),pO F5_s12 (aJ (ξ19 3 0).1 (ξ19 3 0).2.2.1 3 1 y20.length (encL cI y20)),(fi rfl rfl),(NestP.app hP5_s12 (NestP.cons (sel:=(fun z : (List Int) => z)) rfl NestP.nil)),(PvL.app (PvL.mono (Hb:=(fun W4 => Hb W4 ∧ Res.holds F5_s12 W4)) hV5_s12 (fun _ _ h => ⟨h.1,h.2.1⟩)) (PvL.cons (fun _ _ h => dX h.2.2.1) PvL.nil)),rfl,(kp4 (kp (kp rfl)))⟩
   ·refine cF (vB hp14) (aH (ai ?_))
    obtain rfl:=sI h
    exact aA ⟨rfl,_,A5_s12,c5_s12,s12.2.length,ys5_s12,F5_s12,rfl,hP5_s12,hV5_s12,rfl,(kp4 (kp (kp rfl)))⟩
  ·intro e L tm hJ
   obtain ⟨rfl,tm0_u13,A5_u13,c5_u13,n5_u13,ys5_u13,F5_u13,rfl,hP5_u13,hV5_u13,rfl,rfl⟩:=hJ
   refine ⟨(by intro hc; cases hc),?_⟩
   refine ag (eT (cS (cR ?_)))
   try dsimp only [lna,lca,lsz,lss]
   refine oY rfl (yN 3 [.slice A5_u13 u13.2.length c5_u13] ag_61 rfl rfl rfl) (ck rfl (yS 1 [.slice A5_u13 u13.2.length c5_u13] sz_61 rfl (nB rfl) rfl rfl rfl) (oY rfl (yAI rfl) (oN (eT (am ?_)))))
   obtain rfl:=sI h
   exact bv (.inl rfl) rfl (bz 1 [.slice A5_u13 u13.2.length c5_u13] ag_61 rfl rfl rfl) (rVt (v:=vI 0) rfl) (fun W2 hW2 => ⟨((A5_u13,u13.2.length,c5_u13),ys5_u13,F5_u13),⟨rfl,hP5_u13,hV5_u13⟩,rfl,hW2.pickL [5,7] (by decide) rfl⟩)
theorem o6 (p0:TR) (p1:Int) (p2:Int) (p3:Int) (res:((List TJ) × Int)) (h:lF p0 p1 p2 p3 = some res) (W:World) (Ab:Option Addr) (n0_1 cb : Nat) (ys0_1:List (Hd × TT)) (hn0_1:n0_1 = p0.fT.length) (hr0_1:Rd W Ab n0_1 cb (encL TTrack_cells2 ys0_1)) (hN0_1:NestW W (fun z : TT => z.fK) TSpan_cells ys0_1 p0.fT) (wb:World) (Hb:World → Prop) (hB:∀ W3,Below W.heap.size W W3 → Below wb.heap.size wb W3 ∧ Hb W3) :
  Calls Tryz.prog 20 [.agg #[vI p0.fL,.slice Ab n0_1 cb],vI p1,vI p2,vI p3].toArray W fun e W2 => ∃ x : ((Option Addr × Nat × Nat) × (List (Hd × TJ)) × Res),(x.1.2.1 = res.1.length ∧ NestP (fun z : TJ => z.fLegs) x.2.1 res.1 ∧ PvL (fun z : TJ => z.fLegs) bt wb (fun W4 => Hb W4 ∧ Res.holds x.2.2 W4) x.2.1) ∧ e = .returned (.tuple #[.slice x.1.1 x.1.2.1 x.1.2.2,vI res.2]) ∧ Ext W W2 [aJ x.1.1 x.1.2.2 31 3 x.1.2.1 (encL co x.2.1),x.2.2]:=by
 subst hn0_1
 unfold lF at h
 refine ac (m:=24) Tryz.func20 rfl rfl (nB rfl) (cS (cR ?_))
 refine aZ [vI p0.fL,.slice Ab p0.fT.length cb] rfl rfl rfl (fun b1 => ?_)
 refine oY rfl (yAS rfl) (oY rfl (yAI rfl) (oN (eT (cS (cS (cR (oY rfl (yN 0 [vI p0.fL,.slice Ab p0.fT.length cb] dU rfl rfl rfl) (oY rfl (yMI rfl) (oY rfl (yMI rfl) (oY rfl (yMI rfl) ?_))))))))))
 obtain ⟨y2,hy3,h⟩:=bOs h
 refine oY rfl (yC [.agg #[vI p0.fL,.slice Ab p0.fT.length cb],vI p1,vI p2,vI p3,vI 0] go_29 rfl (fun W2 hW2 => gG p0 p1 p2 p3 0 y2 hy3 W2 Ab p0.fT.length cb ys0_1 rfl ((RdL.arg hr0_1) W2 hW2) (NestL.at (NestL.arg hN0_1) W2 hW2)) rfl) (oY rfl (yAI rfl) (oN (eT (cS (cR (oY rfl (yMI rfl) (oY rfl (eo rfl rfl) (oN (eT ?_)))))))))
 rcases iOs h with ⟨hp4,h⟩ | ⟨hp4,h⟩
 ·refine cT (vB hp4) (cS (cR (oY rfl (yMI rfl) (oY rfl (yAS rfl) (oY rfl (yAI rfl) (oN (eT (am (aa ?_)))))))))
  obtain rfl:=sI h
  exact bv (.inl rfl) rfl (rVt (v:=.slice none 0 0) rfl) (rVt (v:=vI y2) rfl) (fun W2 hW2 => ⟨((none,0,0),[],noR),⟨rfl,NestP.nil,PvL.nil⟩,rfl,(hW2.nilrow 31 3).addNo.pickL [1,2] (by decide) rfl⟩)
 ·refine cF (vB hp4) (cK (eT (cS (cR (oY rfl (yN 0 [vI p0.fL,.slice Ab p0.fT.length cb] dU rfl rfl rfl) (oY rfl (yMI rfl) (oY rfl (yMI rfl) (oY rfl (yMI rfl) ?_))))))))
  obtain ⟨y5,hy6,h⟩:=bOs h
  refine oC [.agg #[vI p0.fL,.slice Ab p0.fT.length cb],vI p1,vI p2,vI p3] _ _ _ rfl go_51 rfl (fun W2 hW2 => kO p0 p1 p2 p3 y5 hy6 W2 Ab p0.fT.length cb ys0_1 rfl ((RdL.arg hr0_1) W2 hW2) (NestL.at (NestL.arg hN0_1) W2 hW2) wb Hb (fun W3 hb => hB W3 (fu hW2.below hb)) ) ?_
  rintro ⟨⟨A9,n11,c10⟩,ys14,F15⟩ ⟨hn12,hP13,hV16⟩
  replace hn12 : n11 = y5.length:=hn12; subst hn12
  refine oY rfl (yAS rfl) (oY rfl (yAI rfl) (oN (eT (am ?_))))
  obtain rfl:=sI h
  exact bv (.inl rfl) rfl (rVt (v:=.slice A9 y5.length c10) rfl) (rVt (v:=vI 0) rfl) (fun W2 hW2 => ⟨((A9,y5.length,c10),ys14,F15),⟨rfl,hP13,hV16⟩,rfl,hW2.pickL [1,2] (by decide) rfl⟩)
theorem mh (p0:Int) (cap0:TR) (cap1:Int) (cap2:Int) (cap3:Int) (cap4:Int) (res:Bool) (h:ji p0 cap0 cap1 cap2 cap3 cap4 = some res) (W:World) (bc0:Nat) (A100_1:Option Addr) (n100_1 c100_1 : Nat) (ys100_1:List (Hd × TT)) (hn100_1:n100_1 = cap0.fT.length) (hr100_1:Rd W A100_1 n100_1 c100_1 (encL TTrack_cells2 ys100_1)) (hN100_1:NestW W (fun z : TT => z.fK) TSpan_cells ys100_1 cap0.fT) (hcap0:Rd W (some ⟨bc0,0,none⟩) 1 1 [vI cap0.fL,.slice A100_1 n100_1 c100_1]) (bc1:Nat) (hcap1:Rd W (some ⟨bc1,0,none⟩) 1 1 (cI cap1)) (bc2:Nat) (hcap2:Rd W (some ⟨bc2,0,none⟩) 1 1 (cI cap2)) (bc3:Nat) (hcap3:Rd W (some ⟨bc3,0,none⟩) 1 1 (cI cap3)) (bc4:Nat) (hcap4:Rd W (some ⟨bc4,0,none⟩) 1 1 (cI cap4)) :
  Calls Tryz.prog 52 [vI p0,.pointer (some ⟨bc0,0,none⟩),.pointer (some ⟨bc1,0,none⟩),.pointer (some ⟨bc2,0,none⟩),.pointer (some ⟨bc3,0,none⟩),.pointer (some ⟨bc4,0,none⟩)].toArray W fun e W2 => e = .returned (.bool res) ∧ Ext W W2 []:=by
 subst hn100_1
 unfold ji at h
 refine ac (m:=26) Tryz.func52 rfl rfl (nB rfl) (cS (cR (oY rfl (yAB rfl) (oN (eT (cS (cR (oY rfl (yM (A:=(some ⟨bc0,0,none⟩)) (j:=0) [vI cap0.fL,.slice A100_1 cap0.fT.length c100_1] dU (Nat.succ_pos _) (RdL.arg hcap0) rfl (oX rfl)) (oY rfl (yR (A:=(some ⟨bc1,0,none⟩)) (j:=0) (v:=vI cap1) bc (RdL.arg hcap1) rfl rfl) (oY rfl (yR (A:=(some ⟨bc2,0,none⟩)) (j:=0) (v:=vI cap2) bc (RdL.arg hcap2) rfl rfl) (oY rfl (yMI rfl) (oY rfl (yR (A:=(some ⟨bc3,0,none⟩)) (j:=0) (v:=vI cap3) bc (RdL.arg hcap3) rfl rfl) ?_))))))))))))
 obtain ⟨y1,hy2,h⟩:=bOs h
 refine oC [.agg #[vI cap0.fL,.slice A100_1 cap0.fT.length c100_1],vI cap1,vI cap2,vI p0,vI cap3] _ _ _ rfl go_30 rfl (fun W2 hW2 => jD cap0 cap1 cap2 p0 cap3 y1 hy2 W2 A100_1 cap0.fT.length c100_1 ys100_1 rfl ((RdL.arg hr100_1) W2 hW2) (NestL.at (NestL.arg hN100_1) W2 hW2) W (fun _ => True) (fun W3 hb => ⟨fu hW2.below hb,trivial⟩) ) ?_
 rintro ⟨⟨A5,n7,c6⟩,F9⟩ ⟨hn8,hV10⟩
 replace hn8 : n7 = y1.1.fLegs.length:=hn8; subst hn8
 refine oY rfl (aI rfl) (oY rfl (yE rfl rfl) (oY rfl (yE rfl rfl) ?_))
 refine aB iX rfl (fun b11 => ?_)
 refine ck rfl (yS 1 [.slice A5 y1.1.fLegs.length c6,vI y1.1.fA,vI y1.1.fToll] jB rfl (nB rfl) rfl rfl rfl) (oY rfl (yAB rfl) (oN (eT (cS (cR (oY rfl (yMB rfl) (oY rfl (yMB rfl) ?_)))))))
 refine oJ 5 (fun tm0 => (upd (upd tm0 7 (.bool false)) 25 (.bool (y1.2 && (decide (y1.1.fA ≤ cap4)))))) (fun tm0 => ?_) (fun key => ?_)
 ·refine oY rfl (yAB rfl) (oN (eT (am ?_)))
  obtain rfl:=sI h
  exact ao (.inl rfl) rfl (rVt (v:=.bool (y1.2 && (decide (y1.1.fA ≤ cap4)))) rfl) (fun W2 hW2 => ⟨rfl,hW2.none⟩)
 ·rcases aq y1.2 with hp12 | hp12
  ·refine oY (sT rfl rfl rfl rfl hp12) (yFA fa rfl) (oY (sT rfl rfl rfl rfl hp12) (yL 1 bc rfl rfl rfl) (oY (sT rfl rfl rfl rfl hp12) (yR (A:=(some ⟨bc4,0,none⟩)) (j:=0) (v:=vI cap4) bc (RdL.arg hcap4) rfl rfl) (oY (sT rfl rfl rfl rfl hp12) (kn rfl rfl) (oY rfl (ad (vB hp12) rfl) ?_))))
   exact key _ _ (keep (keep rfl rfl) (vB (ge hp12)))
  ·refine oSk (sF rfl rfl rfl rfl hp12) (oSk (sF rfl rfl rfl rfl hp12) (oSk (sF rfl rfl rfl rfl hp12) (oSk (sF rfl rfl rfl rfl hp12) (oY rfl (ae (vB hp12) rfl) ?_))))
   exact key _ _ (keep (keep rfl rfl) (vB (gc hp12)))
theorem nM (p0:TR) (p1:Int) (p2:Int) (p3:Int) (p4:Int) (res:(Int × Int)) (h:kH p0 p1 p2 p3 p4 = some res) (W:World) (Ab:Option Addr) (n0_1 cb : Nat) (ys0_1:List (Hd × TT)) (hn0_1:n0_1 = p0.fT.length) (hr0_1:Rd W Ab n0_1 cb (encL TTrack_cells2 ys0_1)) (hN0_1:NestW W (fun z : TT => z.fK) TSpan_cells ys0_1 p0.fT) :
  Calls Tryz.prog 21 [.agg #[vI p0.fL,.slice Ab n0_1 cb],vI p1,vI p2,vI p3,vI p4].toArray W fun e W2 => e = .returned (.tuple #[vI res.1,vI res.2]) ∧ Ext W W2 []:=by
 subst hn0_1
 unfold kH at h
 refine ac (m:=45) Tryz.func21 rfl rfl (nB rfl) (cS (cR ?_))
 refine aZ [vI p0.fL,.slice Ab p0.fT.length cb] rfl rfl rfl (fun b1 => ?_)
 refine aZ [vI p1] rfl rfl rfl (fun b2 => ?_)
 refine aZ [vI p2] rfl rfl rfl (fun b3 => ?_)
 refine aZ [vI p3] rfl rfl rfl (fun b4 => ?_)
 refine aZ [vI p4] rfl rfl rfl (fun b5 => ?_)
 refine oY rfl (yAI rfl) (oY rfl (yAI rfl) (oN (eT (cS (cS (cR (oY rfl (yN 0 [vI p0.fL,.slice Ab p0.fT.length cb] dU rfl rfl rfl) (oY rfl (yL 1 bc rfl rfl rfl) (oY rfl (yL 2 bc rfl rfl rfl) (oY rfl (yL 3 bc rfl rfl rfl) (oY rfl (yL 4 bc rfl rfl rfl) ?_)))))))))))
 obtain ⟨y6,hy7,h⟩:=bOs h
 refine oY rfl (yC [.agg #[vI p0.fL,.slice Ab p0.fT.length cb],vI p1,vI p2,vI p3,vI p4] go_29 rfl (fun W2 hW2 => gG p0 p1 p2 p3 p4 y6 hy7 W2 Ab p0.fT.length cb ys0_1 rfl ((RdL.arg hr0_1) W2 hW2) (NestL.at (NestL.arg hN0_1) W2 hW2)) rfl) (oY rfl (yAI rfl) (oN (eT (cS (cR (oY rfl (yMI rfl) (oY rfl (eo rfl rfl) (oN (eT ?_)))))))))
 rcases iOs h with ⟨hp8,h⟩ | ⟨hp8,h⟩
 ·refine cT (vB hp8) (cS (cR (oY rfl (yMI rfl) (oY rfl (yAI rfl) (oY rfl (yAI rfl) (oN (eT (am (aa ?_)))))))))
  obtain rfl:=sI h
  exact bv (.inl rfl) rfl (rVt (v:=vI 0) rfl) (rVt (v:=vI y6) rfl) (fun W2 hW2 => ⟨rfl,hW2.none⟩)
 ·refine cF (vB hp8) (cK (eT (cS (cR (oY rfl (ct [.pointer (some ⟨b1,0,none⟩),.pointer (some ⟨b2,0,none⟩),.pointer (some ⟨b3,0,none⟩),.pointer (some ⟨b5,0,none⟩),.pointer (some ⟨b4,0,none⟩)] rfl rfl) (oY rfl (eI rfl) (oN (eT (cS ?_)))))))))
  refine bI 3 cQ (by kernel_rfl) (by kernel_rfl) ?_
  refine qY rfl (yL 3 bc rfl rfl rfl) (qY rfl (yAI rfl) (qY rfl (yAI rfl) (dE (oN (eT (cS (cB ?_)))))))
  obtain ⟨u11,hl16,h⟩:=bOs h
  refine bm (fun (s:(Int × Int)) L tm => ∃ (tm0:Nat → Value),L = [ah b1 24 [vI p0.fL,.slice Ab p0.fT.length cb],ah b2 3 [vI p1],ah b3 3 [vI p2],ah b4 3 [vI p3],ah b5 3 [vI p4]] ∧ tm = (upd (upd (upd (upd (upd tm0 10 (vI 0)) 11 (vI 0)) 13 (.func (.func 52) #[] #[.pointer (some ⟨b1,0,none⟩),.pointer (some ⟨b2,0,none⟩),.pointer (some ⟨b3,0,none⟩),.pointer (some ⟨b5,0,none⟩),.pointer (some ⟨b4,0,none⟩)])) 14 (vI s.1)) 15 (vI s.2))) 0 hl16 ⟨_,rfl,(kp4 (kp rfl))⟩ ?_ ?_
  ·rintro s10 L tm st ⟨tm0_s10,rfl,rfl⟩ h
   unfold kw at h
   refine cS (cS (cR (oY rfl (yMI rfl) (oY rfl (yMI rfl) (oY rfl (kn rfl rfl) (oN (eT ?_)))))))
   rcases iOs h with ⟨hp12,h⟩ | ⟨hp12,h⟩
   ·refine cT (vB hp12) (cK (eT (cB (cS (cR (oY rfl (yMI rfl) (oY rfl (yMI rfl) (oY rfl (be rfl rfl) ?_))))))))
    refine oY rfl (y_quo (by decide) rfl rfl) ?_
    refine oY rfl (yAI rfl) (oN (eT (cS (cR (oY rfl (de rfl) (oY rfl (yMI rfl) ?_))))))
    obtain ⟨y13,hy14,h⟩:=bOs h
    refine oY rfl (nv (caps:=[.pointer (some ⟨b1,0,none⟩),.pointer (some ⟨b2,0,none⟩),.pointer (some ⟨b3,0,none⟩),.pointer (some ⟨b5,0,none⟩),.pointer (some ⟨b4,0,none⟩)]) [vI (w64 (Int.tdiv (w64 (s10.1 + s10.2)) 2))] go_52 rfl rfl (fun W2 hW2 => mh (w64 (Int.tdiv (w64 (s10.1 + s10.2)) 2)) p0 p1 p2 p4 p3 y13 hy14 W2 b1 Ab p0.fT.length cb ys0_1 rfl ((RdL.arg hr0_1) W2 hW2) (NestL.at (NestL.arg hN0_1) W2 hW2) ((RdL.cells 0 rfl) W2 hW2) b2 ((RdL.cells 1 rfl) W2 hW2) b3 ((RdL.cells 2 rfl) W2 hW2) b5 ((RdL.cells 4 rfl) W2 hW2) b4 ((RdL.cells 3 rfl) W2 hW2))) (oN (eT ?_))
    rcases iOs h with ⟨hp15,h⟩ | ⟨hp15,h⟩
    ·refine cT (vB hp15) (cR (oY rfl (yMI rfl) (oY rfl (be rfl rfl) (oY rfl (yAI rfl) (oN (az ?_))))))
     obtain rfl:=sI h
     exact eN ⟨_,rfl,(kp4 (kp rfl))⟩
    ·refine cF (vB hp15) (cR (oY rfl (yMI rfl) (oY rfl (eM rfl rfl) (oY rfl (yAI rfl) (oN (az ?_))))))
     obtain rfl:=sI h
     exact eN ⟨_,rfl,(kp4 (kp rfl))⟩
   ·refine cF (vB hp12) (aH (ai ?_))
    obtain rfl:=sI h
    exact aA ⟨rfl,_,rfl,(kp4 (kp rfl))⟩
  ·intro e L tm hJ
   obtain ⟨rfl,tm0_u11,rfl,rfl⟩:=hJ
   refine ⟨(by intro hc; cases hc),?_⟩
   refine ag (eT (cS (cS (cR (oY rfl (yMI rfl) (oY rfl (bB rfl rfl) (oN (eT ?_))))))))
   rcases iOs h with ⟨hp17,h⟩ | ⟨hp17,h⟩
   ·refine cT (vB hp17) (cS (cR (oY rfl (yAI rfl) (oY rfl (yAI rfl) (oN (eT (am (aa ?_))))))))
    obtain rfl:=sI h
    exact bv (.inl rfl) rfl (rVt (v:=vI 0) rfl) (rVt (v:=vI 5) rfl) (fun W2 hW2 => ⟨rfl,hW2.none⟩)
   ·refine cF (vB hp17) (cK (eT (cS (cR (oY rfl (yMI rfl) (oY rfl (yAI rfl) (oY rfl (yAI rfl) (oN (eT (am ?_))))))))))
    obtain rfl:=sI h
    exact bv (.inl rfl) rfl (rVt (v:=vI u11.2) rfl) (rVt (v:=vI 0) rfl) (fun W2 hW2 => ⟨rfl,hW2.none⟩)
theorem dG (p0:(List Int)) (p1:(List Int)) (res:Bool) (h:dj p0 p1 = some res) (W:World) (Aa:Option Addr) (n0_0 ca : Nat) (hn0_0:n0_0 = p0.length) (hr0_0:Rd W Aa n0_0 ca (encL cI p0)) (Ac:Option Addr) (n1_0 cc : Nat) (hn1_0:n1_0 = p1.length) (hr1_0:Rd W Ac n1_0 cc (encL cI p1)) :
  Calls Tryz.prog 22 [.slice Aa n0_0 ca,.slice Ac n1_0 cc].toArray W fun e W2 => e = .returned (.bool res) ∧ Ext W W2 []:=by
 subst hn0_0
 subst hn1_0
 unfold dj at h
 refine ac (m:=26) Tryz.func22 rfl rfl (nB rfl) (cS (cR (oY rfl (yAB rfl) (oN (eT (cS (cS (cR (oY rfl (yMS rfl) (oY rfl (bu (us:=[]) dH rfl) (oY rfl (yMS rfl) (oY rfl (bu (us:=[]) dH rfl) (oY rfl (eo rfl rfl) (oN (eT ?_)))))))))))))))
 rcases iOs h with ⟨hp1,h⟩ | ⟨hp1,h⟩
 ·refine cT (vB hp1) (cS (cR (oY rfl (yAB rfl) (oN (eT (am (aa ?_)))))))
  obtain rfl:=sI h
  exact ao (.inl rfl) rfl (rVt (v:=.bool false) rfl) (fun W2 hW2 => ⟨rfl,hW2.none⟩)
 ·refine cF (vB hp1) (cK (eT (cS (cS (cR (oY rfl (yAI rfl) (oN (eT (cB ?_)))))))))
  obtain ⟨u4,hl9,h⟩:=bOs h
  refine bT (fun (s:(Bool × Int)) L tm => ∃ (tm0:Nat → Value),L = [] ∧ tm = (upd (upd (upd (upd tm0 0 (.slice Aa p0.length ca)) 1 (.slice Ac p1.length cc)) 4 (.bool s.1)) 5 (vI s.2))) 0 hl9 ⟨_,rfl,(kp4 rfl)⟩ ?_ ?_
  ·rintro s3 L tm st ⟨tm0_s3,rfl,rfl⟩ h
   unfold iT at h
   refine cS (cS (cR (oY rfl (yMI rfl) (oY rfl (yMS rfl) (oY rfl (bu (us:=[]) dH rfl) (oY rfl (bB rfl rfl) (oN (eT ?_))))))))
   rcases iOs h with ⟨hp5,h⟩ | ⟨hp5,h⟩
   ·refine cT (vB hp5) (cK (eT (cS (cB (cS ?_)))))
    refine bI 9 cQ (by kernel_rfl) (by kernel_rfl) ?_
    refine qY rfl (yMS rfl) (qY rfl (yMI rfl) ?_)
    obtain ⟨hg6,h⟩:=gOs h
    refine qY rfl (yI d9 (by decide) hg6.1 hg6.2 (RdL.arg hr0_0) (eL aG rfl) rfl rfl) ?_
    refine qY rfl (yR (A:=Aa) (j:=(Int.toNat s3.2 * 1)) (v:=vI (rdL p0 s3.2)) bc (RdL.arg hr0_0) rfl (aW aG hg6.1 (av hg6.2 rfl) rfl)) (qY rfl (yMS rfl) (qY rfl (yMI rfl) ?_))
    obtain ⟨hg7,h⟩:=gOs h
    refine qY rfl (yI d9 (by decide) hg7.1 hg7.2 (RdL.arg hr1_0) (eL aG rfl) rfl rfl) ?_
    refine qY rfl (yR (A:=Ac) (j:=(Int.toNat s3.2 * 1)) (v:=vI (rdL p1 s3.2)) bc (RdL.arg hr1_0) rfl (aW aG hg7.1 (av hg7.2 rfl) rfl)) (qY rfl (eo rfl rfl) (dE (oN (eT ?_))))
    rcases iOs h with ⟨hp8,h⟩ | ⟨hp8,h⟩
    ·refine cT (vB hp8) (cS (cR (oY rfl (yAB rfl) (oN (eT (am (al (aa ?_))))))))
     obtain rfl:=sI h
     exact aA ⟨rfl,_,rfl,(kp4 rfl)⟩
    ·refine cF (vB hp8) (cK (az (eT (cR (oY rfl (yMI rfl) (oY rfl (be rfl rfl) (oY rfl (yAI rfl) (oN ?_))))))))
     obtain rfl:=sI h
     exact eN ⟨_,rfl,(kp4 rfl)⟩
   ·refine cF (vB hp5) (aH (ai ?_))
    obtain rfl:=sI h
    exact aA ⟨rfl,_,rfl,(kp4 rfl)⟩
  ·intro e L tm hJ
   rcases u4 with u10 | u11
   ·dsimp only at h hJ
    obtain ⟨rfl,tm0_u10,rfl,rfl⟩:=hJ
    refine ⟨(by intro hc; cases hc),?_⟩
    refine al (aa ?_)
    obtain rfl:=sI h
    exact ao (.inl rfl) rfl (rVt (v:=.bool u10.1) rfl) (fun W2 hW2 => ⟨rfl,hW2.none⟩)
   ·dsimp only at h hJ
    obtain ⟨rfl,tm0_u11,rfl,rfl⟩:=hJ
    refine ⟨(by intro hc; cases hc),?_⟩
    refine ag (eT (cS (cR (oY rfl (yAB rfl) (oN (eT (am ?_)))))))
    obtain rfl:=sI h
    exact ao (.inl rfl) rfl (rVt (v:=.bool true) rfl) (fun W2 hW2 => ⟨rfl,hW2.none⟩)
end Go.Proofs.YthndghnkebboaabGreat
set_option maxHeartbeats 4000000
set_option maxRecDepth 100000
namespace Go.Proofs.YthndghnkebboaabGreat
open Go.RowKit (Below)
attribute [local irreducible] OX QX CX EX OpY Calls CallsIn
theorem gd (p0:(List TO)) (p1:TO → Option Bool) (res:Int) (h:cz p0 p1 = some res) (W:World) (Aa:Option Addr) (n0_0 ca : Nat) (hn0_0:n0_0 = p0.length) (hr0_0:Rd W Aa n0_0 ca (encL ay p0)) (fid1:Nat) (fst1 caps1 : List Value) (hgo1:bA Tryz.prog fid1 = true) (hof1:∀ W2,Below W.heap.size W W2 → ∀ x,∀ y,p1 x = some y → Calls Tryz.prog fid1 (fst1 ++ (([.agg #[vI x.fID,vI x.fH.fLo,vI x.fH.fHi,vI x.fD,vI x.fW]] : List Value) ++ caps1)).toArray W2 fun e W3 => e = .returned (.bool y) ∧ Ext W2 W3 []) :
  Calls Tryz.prog 120 [.slice Aa n0_0 ca,.func (.func fid1) fst1.toArray caps1.toArray].toArray W fun e W2 => e = .returned (vI res) ∧ Ext W W2 []:=by
 subst hn0_0
 unfold cz at h
 refine ac (m:=19) Tryz.func120 rfl rfl (nB rfl) (cS (cR (oY rfl (yAI rfl) (oN (eT (cS (cS (cR (oY rfl (yMS rfl) (oY rfl (bu (us:=[]) kz rfl) (oY rfl (yMI rfl) (oN (eT (cB ?_))))))))))))))
 obtain ⟨u3,hl9,h⟩:=bOs h
 refine bT (fun (s:(Int × Int)) L tm => ∃ (tm0:Nat → Value),L = [] ∧ tm = (upd (upd (upd (upd (upd tm0 0 (.slice Aa p0.length ca)) 1 (.func (.func fid1) fst1.toArray caps1.toArray)) 4 (vI s.1)) 7 (vI (p0.length:Int))) 8 (vI s.2))) 0 hl9 ⟨_,rfl,(kp4 (kp rfl))⟩ ?_ ?_
 ·rintro s2 L tm st ⟨tm0_s2,rfl,rfl⟩ h
  unfold dA at h
  refine cS (cR (oY rfl (bB rfl rfl) (oN (eT (cS ?_)))))
  rcases iOs h with ⟨hp4,h⟩ | ⟨hp4,h⟩
  ·refine cT (vB hp4) (cK (eT (cS (cB (cS (cR (oY rfl (yMI rfl) (oY rfl (yAI rfl) (oN (eT (cS (cR (oY rfl (bF (v:=.func (.func fid1) fst1.toArray caps1.toArray) rfl) (oY rfl (yMS rfl) (oY rfl (yMI rfl) ?_)))))))))))))))
   obtain ⟨hg5,h⟩:=gOs h
   refine oY rfl (yI jW (by decide) hg5.1 hg5.2 (RdL.arg hr0_0) (eL ap rfl) rfl rfl) ?_
   refine oY rfl (yM (A:=Aa) (j:=(Int.toNat s2.2 * 5)) [vI ((rdL p0 s2.2).fID),vI ((rdL p0 s2.2).fH.fLo),vI ((rdL p0 s2.2).fH.fHi),vI ((rdL p0 s2.2).fD),vI ((rdL p0 s2.2).fW)] pP (Nat.succ_pos _) (RdL.arg hr0_0) rfl (bh ap hg5.1 (av hg5.2 rfl))) ?_
   obtain ⟨y6,hy7,h⟩:=bOs h
   refine oY rfl (gm [.agg #[vI ((rdL p0 s2.2).fID),vI ((rdL p0 s2.2).fH.fLo),vI ((rdL p0 s2.2).fH.fHi),vI ((rdL p0 s2.2).fD),vI ((rdL p0 s2.2).fW)]] hgo1 rfl rfl (fun W2 hW2 => hof1 W2 hW2.below (TO.mk ((rdL p0 s2.2).fID) (TSpan.mk ((rdL p0 s2.2).fH.fLo) ((rdL p0 s2.2).fH.fHi)) ((rdL p0 s2.2).fD) ((rdL p0 s2.2).fW)) y6 hy7)) (oN (eT ?_))
   rcases iOs h with ⟨hp8,h⟩ | ⟨hp8,h⟩
   ·refine cT (vB hp8) (cS (cR (oY rfl (yMI rfl) (oY rfl (yAI rfl) (oN (eT (am (al (aa ?_)))))))))
    obtain rfl:=sI h
    exact aA ⟨rfl,_,rfl,(kp4 (kp rfl))⟩
   ·refine cF (vB hp8) (cK (az (eT (cR (oY rfl (be rfl rfl) (oY rfl (yMI rfl) (oN ?_)))))))
    obtain rfl:=sI h
    exact eN ⟨_,rfl,(kp4 (kp rfl))⟩
  ·refine cF (vB hp4) (aH (ai ?_))
   obtain rfl:=sI h
   exact aA ⟨rfl,_,rfl,(kp4 (kp rfl))⟩
 ·intro e L tm hJ
  rcases u3 with u10 | u11
  ·dsimp only at h hJ
   obtain ⟨rfl,tm0_u10,rfl,rfl⟩:=hJ
   refine ⟨(by intro hc; cases hc),?_⟩
   refine al (aa ?_)
   obtain rfl:=sI h
   exact ao (.inl rfl) rfl (rVt (v:=vI u10.1) rfl) (fun W2 hW2 => ⟨rfl,hW2.none⟩)
  ·dsimp only at h hJ
   obtain ⟨rfl,tm0_u11,rfl,rfl⟩:=hJ
   refine ⟨(by intro hc; cases hc),?_⟩
   refine ag (eT (cS (cR (oY rfl (yAI rfl) (oN (eT (am ?_)))))))
   obtain rfl:=sI h
   exact ao (.inl rfl) rfl (rVt (v:=vI (-1)) rfl) (fun W2 hW2 => ⟨rfl,hW2.none⟩)
theorem gH (p0:(List TO)) (p1:TO → Option Bool) (res:Int) (h:di p0 p1 = some res) (W:World) (Aa:Option Addr) (n0_0 ca : Nat) (hn0_0:n0_0 = p0.length) (hr0_0:Rd W Aa n0_0 ca (encL ay p0)) (fid1:Nat) (fst1 caps1 : List Value) (hgo1:bA Tryz.prog fid1 = true) (hof1:∀ W2,Below W.heap.size W W2 → ∀ x,∀ y,p1 x = some y → Calls Tryz.prog fid1 (fst1 ++ (([.agg #[vI x.fID,vI x.fH.fLo,vI x.fH.fHi,vI x.fD,vI x.fW]] : List Value) ++ caps1)).toArray W2 fun e W3 => e = .returned (.bool y) ∧ Ext W2 W3 []) :
  Calls Tryz.prog 88 [.slice Aa n0_0 ca,.func (.func fid1) fst1.toArray caps1.toArray].toArray W fun e W2 => e = .returned (vI res) ∧ Ext W W2 []:=by
 subst hn0_0
 unfold di at h
 refine ac (m:=8) Tryz.func88 rfl rfl (nB rfl) (cS (cR (oY rfl (yAI rfl) (oN (eT (cS (cR (oY rfl (yMS rfl) (oY rfl (bF (v:=.func (.func fid1) fst1.toArray caps1.toArray) rfl) ?_)))))))))
 obtain ⟨y1,hy2,h⟩:=bOs h
 refine oY rfl (yC [.slice Aa p0.length ca,.func (.func fid1) fst1.toArray caps1.toArray] go_120 rfl (fun W2 hW2 => gd p0 p1 y1 hy2 W2 Aa p0.length ca rfl ((RdL.arg hr0_0) W2 hW2) fid1 fst1 caps1 hgo1 (fun W3 hb => hof1 W3 (fu hW2.below hb))) rfl) (oY rfl (yAI rfl) (oN (eT (am ?_))))
 obtain rfl:=sI h
 exact ao (.inl rfl) rfl (rVt (v:=vI y1) rfl) (fun W2 hW2 => ⟨rfl,hW2.none⟩)
theorem mM (p0:TO) (cap0:Int) (res:Bool) (h:iB p0 cap0 = some res) (W:World) (bc0:Nat) (hcap0:Rd W (some ⟨bc0,0,none⟩) 1 1 (cI cap0)) :
  Calls Tryz.prog 89 [.agg #[vI p0.fID,vI p0.fH.fLo,vI p0.fH.fHi,vI p0.fD,vI p0.fW],.pointer (some ⟨bc0,0,none⟩)].toArray W fun e W2 => e = .returned (.bool res) ∧ Ext W W2 []:=by
 unfold iB at h
 refine ac (m:=8) Tryz.func89 rfl rfl (nB rfl) (cS (cR ?_))
 refine aZ [vI p0.fID,vI p0.fH.fLo,vI p0.fH.fHi,vI p0.fD,vI p0.fW] rfl rfl rfl (fun b1 => ?_)
 refine oY rfl (yAB rfl) (oN (eT (cS (cR (oY rfl (yFA jw rfl) (oY rfl (yL 0 bc rfl rfl rfl) (oY rfl (yR (A:=(some ⟨bc0,0,none⟩)) (j:=0) (v:=vI cap0) bc (RdL.arg hcap0) rfl rfl) (oY rfl (cJ rfl rfl) (oY rfl (yAB rfl) (oN (eT (am ?_))))))))))))
 obtain rfl:=sI h
 exact ao (.inl rfl) rfl (rVt (v:=.bool (p0.fID == cap0)) rfl) (fun W2 hW2 => ⟨rfl,hW2.none⟩)
theorem jf (p0:TY) (p1:Int) (res:Int) (h:iU p0 p1 = some res) (W:World) (Aa:Option Addr) (n0_0 ca : Nat) (hn0_0:n0_0 = p0.fB.length) (hr0_0:Rd W Aa n0_0 ca (encL aC p0.fB)) (Ab:Option Addr) (n0_1 cb : Nat) (hn0_1:n0_1 = p0.fOrders.length) (hr0_1:Rd W Ab n0_1 cb (encL ay p0.fOrders)) :
  Calls Tryz.prog 60 [.agg #[.slice Aa n0_0 ca,.slice Ab n0_1 cb],vI p1].toArray W fun e W2 => e = .returned (vI res) ∧ Ext W W2 []:=by
 subst hn0_0
 subst hn0_1
 unfold iU at h
 refine ac (m:=9) Tryz.func60 rfl rfl (nB rfl) (cS (cR ?_))
 refine aZ [.slice Aa p0.fB.length ca,.slice Ab p0.fOrders.length cb] rfl rfl rfl (fun b1 => ?_)
 refine aZ [vI p1] rfl rfl rfl (fun b2 => ?_)
 refine oY rfl (yAI rfl) (oN (eT (cS (cR (oY rfl (yFA cm rfl) (oY rfl (yL 0 gq rfl rfl rfl) (oY rfl (ct [.pointer (some ⟨b2,0,none⟩)] rfl rfl) ?_)))))))
 obtain ⟨y4,hy5,h⟩:=bOs h
 refine oY rfl (yC [.slice Ab p0.fOrders.length cb,.func (.func 89) #[] #[.pointer (some ⟨b2,0,none⟩)]] go_88 rfl (fun W2 hW2 => gH p0.fOrders (fun x3 => iB x3 p1) y4 hy5 W2 Ab p0.fOrders.length cb rfl ((RdL.arg hr0_1) W2 hW2) 89 [] [.pointer (some ⟨b2,0,none⟩)] go_89 (fun W3 hb x y hxy => mM  x p1 y hxy W3 b2 (((RdL.cells 1 rfl) W2 hW2).later hb))) rfl) (oY rfl (yAI rfl) (oN (eT (am ?_))))
 obtain rfl:=sI h
 exact ao (.inl rfl) rfl (rVt (v:=vI y4) rfl) (fun W2 hW2 => ⟨rfl,hW2.none⟩)
theorem ii (p0:(List TBay)) (p1:TBay → Option Bool) (res:Int) (h:dD p0 p1 = some res) (W:World) (Aa:Option Addr) (n0_0 ca : Nat) (hn0_0:n0_0 = p0.length) (hr0_0:Rd W Aa n0_0 ca (encL aC p0)) (fid1:Nat) (fst1 caps1 : List Value) (hgo1:bA Tryz.prog fid1 = true) (hof1:∀ W2,Below W.heap.size W W2 → ∀ x,∀ y,p1 x = some y → Calls Tryz.prog fid1 (fst1 ++ (([.agg #[vI x.fID,vI x.fHour,vI x.fD]] : List Value) ++ caps1)).toArray W2 fun e W3 => e = .returned (.bool y) ∧ Ext W2 W3 []) :
  Calls Tryz.prog 121 [.slice Aa n0_0 ca,.func (.func fid1) fst1.toArray caps1.toArray].toArray W fun e W2 => e = .returned (vI res) ∧ Ext W W2 []:=by
 subst hn0_0
 unfold dD at h
 refine ac (m:=19) Tryz.func121 rfl rfl (nB rfl) (cS (cR (oY rfl (yAI rfl) (oN (eT (cS (cS (cR (oY rfl (yMS rfl) (oY rfl (bu (us:=[]) jt rfl) (oY rfl (yMI rfl) (oN (eT (cB ?_))))))))))))))
 obtain ⟨u3,hl9,h⟩:=bOs h
 refine bT (fun (s:(Int × Int)) L tm => ∃ (tm0:Nat → Value),L = [] ∧ tm = (upd (upd (upd (upd (upd tm0 0 (.slice Aa p0.length ca)) 1 (.func (.func fid1) fst1.toArray caps1.toArray)) 4 (vI s.1)) 7 (vI (p0.length:Int))) 8 (vI s.2))) 0 hl9 ⟨_,rfl,(kp4 (kp rfl))⟩ ?_ ?_
 ·rintro s2 L tm st ⟨tm0_s2,rfl,rfl⟩ h
  unfold eA at h
  refine cS (cR (oY rfl (bB rfl rfl) (oN (eT (cS ?_)))))
  rcases iOs h with ⟨hp4,h⟩ | ⟨hp4,h⟩
  ·refine cT (vB hp4) (cK (eT (cS (cB (cS (cR (oY rfl (yMI rfl) (oY rfl (yAI rfl) (oN (eT (cS (cR (oY rfl (bF (v:=.func (.func fid1) fst1.toArray caps1.toArray) rfl) (oY rfl (yMS rfl) (oY rfl (yMI rfl) ?_)))))))))))))))
   obtain ⟨hg5,h⟩:=gOs h
   refine oY rfl (yI lL (by decide) hg5.1 hg5.2 (RdL.arg hr0_0) (eL aL rfl) rfl rfl) ?_
   refine oY rfl (yM (A:=Aa) (j:=(Int.toNat s2.2 * 3)) [vI ((rdL p0 s2.2).fID),vI ((rdL p0 s2.2).fHour),vI ((rdL p0 s2.2).fD)] tI (Nat.succ_pos _) (RdL.arg hr0_0) rfl (bh aL hg5.1 (av hg5.2 rfl))) ?_
   obtain ⟨y6,hy7,h⟩:=bOs h
   refine oY rfl (gm [.agg #[vI ((rdL p0 s2.2).fID),vI ((rdL p0 s2.2).fHour),vI ((rdL p0 s2.2).fD)]] hgo1 rfl rfl (fun W2 hW2 => hof1 W2 hW2.below (TBay.mk ((rdL p0 s2.2).fID) ((rdL p0 s2.2).fHour) ((rdL p0 s2.2).fD)) y6 hy7)) (oN (eT ?_))
   rcases iOs h with ⟨hp8,h⟩ | ⟨hp8,h⟩
   ·refine cT (vB hp8) (cS (cR (oY rfl (yMI rfl) (oY rfl (yAI rfl) (oN (eT (am (al (aa ?_)))))))))
    obtain rfl:=sI h
    exact aA ⟨rfl,_,rfl,(kp4 (kp rfl))⟩
   ·refine cF (vB hp8) (cK (az (eT (cR (oY rfl (be rfl rfl) (oY rfl (yMI rfl) (oN ?_)))))))
    obtain rfl:=sI h
    exact eN ⟨_,rfl,(kp4 (kp rfl))⟩
  ·refine cF (vB hp4) (aH (ai ?_))
   obtain rfl:=sI h
   exact aA ⟨rfl,_,rfl,(kp4 (kp rfl))⟩
 ·intro e L tm hJ
  rcases u3 with u10 | u11
  ·dsimp only at h hJ
   obtain ⟨rfl,tm0_u10,rfl,rfl⟩:=hJ
   refine ⟨(by intro hc; cases hc),?_⟩
   refine al (aa ?_)
   obtain rfl:=sI h
   exact ao (.inl rfl) rfl (rVt (v:=vI u10.1) rfl) (fun W2 hW2 => ⟨rfl,hW2.none⟩)
  ·dsimp only at h hJ
   obtain ⟨rfl,tm0_u11,rfl,rfl⟩:=hJ
   refine ⟨(by intro hc; cases hc),?_⟩
   refine ag (eT (cS (cR (oY rfl (yAI rfl) (oN (eT (am ?_)))))))
   obtain rfl:=sI h
   exact ao (.inl rfl) rfl (rVt (v:=vI (-1)) rfl) (fun W2 hW2 => ⟨rfl,hW2.none⟩)
theorem im (p0:(List TBay)) (p1:TBay → Option Bool) (res:Int) (h:dO p0 p1 = some res) (W:World) (Aa:Option Addr) (n0_0 ca : Nat) (hn0_0:n0_0 = p0.length) (hr0_0:Rd W Aa n0_0 ca (encL aC p0)) (fid1:Nat) (fst1 caps1 : List Value) (hgo1:bA Tryz.prog fid1 = true) (hof1:∀ W2,Below W.heap.size W W2 → ∀ x,∀ y,p1 x = some y → Calls Tryz.prog fid1 (fst1 ++ (([.agg #[vI x.fID,vI x.fHour,vI x.fD]] : List Value) ++ caps1)).toArray W2 fun e W3 => e = .returned (.bool y) ∧ Ext W2 W3 []) :
  Calls Tryz.prog 93 [.slice Aa n0_0 ca,.func (.func fid1) fst1.toArray caps1.toArray].toArray W fun e W2 => e = .returned (vI res) ∧ Ext W W2 []:=by
 subst hn0_0
 unfold dO at h
 refine ac (m:=8) Tryz.func93 rfl rfl (nB rfl) (cS (cR (oY rfl (yAI rfl) (oN (eT (cS (cR (oY rfl (yMS rfl) (oY rfl (bF (v:=.func (.func fid1) fst1.toArray caps1.toArray) rfl) ?_)))))))))
 obtain ⟨y1,hy2,h⟩:=bOs h
 refine oY rfl (yC [.slice Aa p0.length ca,.func (.func fid1) fst1.toArray caps1.toArray] go_121 rfl (fun W2 hW2 => ii p0 p1 y1 hy2 W2 Aa p0.length ca rfl ((RdL.arg hr0_0) W2 hW2) fid1 fst1 caps1 hgo1 (fun W3 hb => hof1 W3 (fu hW2.below hb))) rfl) (oY rfl (yAI rfl) (oN (eT (am ?_))))
 obtain rfl:=sI h
 exact ao (.inl rfl) rfl (rVt (v:=vI y1) rfl) (fun W2 hW2 => ⟨rfl,hW2.none⟩)
theorem oS (p0:TBay) (cap0:Int) (res:Bool) (h:j5 p0 cap0 = some res) (W:World) (bc0:Nat) (hcap0:Rd W (some ⟨bc0,0,none⟩) 1 1 (cI cap0)) :
  Calls Tryz.prog 94 [.agg #[vI p0.fID,vI p0.fHour,vI p0.fD],.pointer (some ⟨bc0,0,none⟩)].toArray W fun e W2 => e = .returned (.bool res) ∧ Ext W W2 []:=by
 unfold j5 at h
 refine ac (m:=8) Tryz.func94 rfl rfl (nB rfl) (cS (cR ?_))
 refine aZ [vI p0.fID,vI p0.fHour,vI p0.fD] rfl rfl rfl (fun b1 => ?_)
 refine oY rfl (yAB rfl) (oN (eT (cS (cR (oY rfl (yFA jA rfl) (oY rfl (yL 0 bc rfl rfl rfl) (oY rfl (yR (A:=(some ⟨bc0,0,none⟩)) (j:=0) (v:=vI cap0) bc (RdL.arg hcap0) rfl rfl) (oY rfl (cJ rfl rfl) (oY rfl (yAB rfl) (oN (eT (am ?_))))))))))))
 obtain rfl:=sI h
 exact ao (.inl rfl) rfl (rVt (v:=.bool (p0.fID == cap0)) rfl) (fun W2 hW2 => ⟨rfl,hW2.none⟩)
theorem mN (p0:TY) (p1:Int) (res:Int) (h:mE p0 p1 = some res) (W:World) (Aa:Option Addr) (n0_0 ca : Nat) (hn0_0:n0_0 = p0.fB.length) (hr0_0:Rd W Aa n0_0 ca (encL aC p0.fB)) (Ab:Option Addr) (n0_1 cb : Nat) (hn0_1:n0_1 = p0.fOrders.length) (hr0_1:Rd W Ab n0_1 cb (encL ay p0.fOrders)) :
  Calls Tryz.prog 64 [.agg #[.slice Aa n0_0 ca,.slice Ab n0_1 cb],vI p1].toArray W fun e W2 => e = .returned (vI res) ∧ Ext W W2 []:=by
 subst hn0_0
 subst hn0_1
 unfold mE at h
 refine ac (m:=9) Tryz.func64 rfl rfl (nB rfl) (cS (cR ?_))
 refine aZ [.slice Aa p0.fB.length ca,.slice Ab p0.fOrders.length cb] rfl rfl rfl (fun b1 => ?_)
 refine aZ [vI p1] rfl rfl rfl (fun b2 => ?_)
 refine oY rfl (yAI rfl) (oN (eT (cS (cR (oY rfl (yFA ei rfl) (oY rfl (yL 0 jY rfl rfl rfl) (oY rfl (ct [.pointer (some ⟨b2,0,none⟩)] rfl rfl) ?_)))))))
 obtain ⟨y4,hy5,h⟩:=bOs h
 refine oY rfl (yC [.slice Aa p0.fB.length ca,.func (.func 94) #[] #[.pointer (some ⟨b2,0,none⟩)]] go_93 rfl (fun W2 hW2 => im p0.fB (fun x3 => j5 x3 p1) y4 hy5 W2 Aa p0.fB.length ca rfl ((RdL.arg hr0_0) W2 hW2) 94 [] [.pointer (some ⟨b2,0,none⟩)] go_94 (fun W3 hb x y hxy => oS  x p1 y hxy W3 b2 (((RdL.cells 1 rfl) W2 hW2).later hb))) rfl) (oY rfl (yAI rfl) (oN (eT (am ?_))))
 obtain rfl:=sI h
 exact ao (.inl rfl) rfl (rVt (v:=vI y4) rfl) (fun W2 hW2 => ⟨rfl,hW2.none⟩)
theorem dx (p0:TY) (res:Int) (h:df p0 = some res) (W:World) (Aa:Option Addr) (n0_0 ca : Nat) (hn0_0:n0_0 = p0.fB.length) (hr0_0:Rd W Aa n0_0 ca (encL aC p0.fB)) (Ab:Option Addr) (n0_1 cb : Nat) (hn0_1:n0_1 = p0.fOrders.length) (hr0_1:Rd W Ab n0_1 cb (encL ay p0.fOrders)) :
  Calls Tryz.prog 53 [.agg #[.slice Aa n0_0 ca,.slice Ab n0_1 cb]].toArray W fun e W2 => e = .returned (vI res) ∧ Ext W W2 []:=by
 subst hn0_0
 subst hn0_1
 unfold df at h
 refine ac (m:=102) Tryz.func53 rfl rfl (nB rfl) (cS (cR ?_))
 refine aZ [.slice Aa p0.fB.length ca,.slice Ab p0.fOrders.length cb] rfl rfl rfl (fun b1 => ?_)
 refine oY rfl (yAI rfl) (oN (eT (cS (cS (cR (oY rfl (yFA ei rfl) (oY rfl (yL 0 jY rfl rfl rfl) (oY rfl (bu (us:=[]) jt rfl) (oY rfl (ie rfl rfl) (oY rfl (yMB rfl) ?_))))))))))
 refine oJ 5 (fun tm0 => (upd (upd (upd tm0 1 (.pointer (some ⟨b1,0,none⟩))) 2 (vI 0)) 16 (.bool ((decide (24 < (p0.fB.length:Int))) || (decide (24 < (p0.fOrders.length:Int))))))) (fun tm0 => ?_) (fun key => ?_)
 ·refine oN (eT ?_)
  rcases iOs h with ⟨hp3,h⟩ | ⟨hp3,h⟩
  ·refine cT (vB hp3) (cS (cR (oY rfl (yAI rfl) (oN (eT (am (aa ?_)))))))
   obtain rfl:=sI h
   exact ao (.inl rfl) rfl (rVt (v:=vI 2) rfl) (fun W2 hW2 => ⟨rfl,hW2.none⟩)
  ·refine cF (vB hp3) (cK (eT (cS (cS (cR (oY rfl (yFA ei rfl) (oY rfl (yL 0 jY rfl rfl rfl) (oY rfl (bu (us:=[]) jt rfl) (oY rfl (yMI rfl) (oN (eT (cB ?_))))))))))))
   obtain ⟨u6,hl26,h⟩:=bOs h
   refine bT (fun (s:(Int × Int)) L tm => ∃ (tm0:Nat → Value),L = [ah b1 57 [.slice Aa p0.fB.length ca,.slice Ab p0.fOrders.length cb]] ∧ tm = (upd (upd (upd (upd (upd tm0 1 (.pointer (some ⟨b1,0,none⟩))) 2 (vI s.1)) 18 (.slice Aa p0.fB.length ca)) 19 (vI (p0.fB.length:Int))) 20 (vI s.2))) 0 hl26 ⟨_,rfl,(kp4 (kp rfl))⟩ ?_ ?_
   ·rintro s5 L tm st ⟨tm0_s5,rfl,rfl⟩ h
    unfold iW at h
    refine cS (cR (oY rfl (bB rfl rfl) (oN (eT (cS ?_)))))
    rcases iOs h with ⟨hp7,h⟩ | ⟨hp7,h⟩
    ·refine cT (vB hp7) (cK (eT (cS (cB (cS (cR (oY rfl (yMI rfl) ?_)))))))
     obtain ⟨hg8,h⟩:=gOs h
     refine oY rfl (yI lL (by decide) hg8.1 hg8.2 (RdL.arg hr0_0) (eL aL rfl) rfl rfl) ?_
     refine oY rfl (yM (A:=Aa) (j:=(Int.toNat s5.2 * 3)) [vI ((rdL p0.fB s5.2).fID),vI ((rdL p0.fB s5.2).fHour),vI ((rdL p0.fB s5.2).fD)] tI (Nat.succ_pos _) (RdL.arg hr0_0) rfl (bh aL hg8.1 (av hg8.2 rfl))) ?_
     refine aB nP rfl (fun b9 => ?_)
     refine oY rfl (yAI rfl) (ck rfl (yS 1 [vI ((rdL p0.fB s5.2).fID),vI ((rdL p0.fB s5.2).fHour),vI ((rdL p0.fB s5.2).fD)] sz_94 rfl (nB rfl) rfl rfl rfl) (oN (eT (cS (cS (cR (oY rfl (yFA jA rfl) (oY rfl (yL 1 bc rfl rfl rfl) ?_))))))))
     obtain ⟨y10,hy11,h⟩:=bOs h
     refine oY rfl (yC [vI ((rdL p0.fB s5.2).fID),vI 1,vI 1099511627776] km rfl (fun W2 hW2 => ba ((rdL p0.fB s5.2).fID) 1 1099511627776 y10 hy11 W2 ) rfl) (oY rfl (cr rfl) (oY rfl (yMB rfl) ?_))
     obtain ⟨b13,hb14,h⟩:=bOs h
     refine oJ 5 (fun tm0 => (upd (upd (upd (upd (upd (upd (upd (upd (upd tm0 1 (.pointer (some ⟨b1,0,none⟩))) 2 (vI s5.1)) 18 (.slice Aa p0.fB.length ca)) 19 (vI (p0.fB.length:Int))) 20 (vI s5.2)) 21 (.bool (decide (s5.2 < (p0.fB.length:Int))))) 4 (.pointer (some ⟨b9,0,none⟩))) 3 (vI s5.2)) 34 (.bool b13))) (fun tm0 => ?_) (fun key => ?_)
     ·refine oY rfl (yMB rfl) ?_
      obtain ⟨b16,hb17,h⟩:=bOs h
      refine oJ 5 (fun tm0 => (upd (upd (upd (upd (upd (upd (upd (upd (upd tm0 1 (.pointer (some ⟨b1,0,none⟩))) 2 (vI s5.1)) 18 (.slice Aa p0.fB.length ca)) 19 (vI (p0.fB.length:Int))) 20 (vI s5.2)) 21 (.bool (decide (s5.2 < (p0.fB.length:Int))))) 4 (.pointer (some ⟨b9,0,none⟩))) 3 (vI s5.2)) 40 (.bool b16))) (fun tm0 => ?_) (fun key => ?_)
      ·refine oN (eT ?_)
       rcases iOs h with ⟨hp18,h⟩ | ⟨hp18,h⟩
       ·refine cT (vB hp18) (cS (cR (oY rfl (yAI rfl) (oN (eT (am (aa (al (aa (aY 1 ?_))))))))))
        obtain rfl:=sI h
        exact aA ⟨rfl,_,rfl,(kp4 (kp rfl))⟩
       ·refine cF (vB hp18) (cK (eT (cS (cR (oY rfl (yN 0 [.slice Aa p0.fB.length ca,.slice Ab p0.fOrders.length cb] dp rfl rfl rfl) (oY rfl (yFA jA rfl) (oY rfl (yL 1 bc rfl rfl rfl) ?_)))))))
        obtain ⟨y19,hy20,h⟩:=bOs h
        refine oY rfl (yC [.agg #[.slice Aa p0.fB.length ca,.slice Ab p0.fOrders.length cb],vI ((rdL p0.fB s5.2).fID)] go_64 rfl (fun W2 hW2 => mN p0 ((rdL p0.fB s5.2).fID) y19 hy20 W2 Aa p0.fB.length ca rfl ((RdL.arg hr0_0) W2 hW2) Ab p0.fOrders.length cb rfl ((RdL.arg hr0_1) W2 hW2)) rfl) (oY rfl (yMI rfl) (oY rfl (bB rfl rfl) (oN (eT ?_))))
        rcases iOs h with ⟨hp21,h⟩ | ⟨hp21,h⟩
        ·refine cT (vB hp21) (cS (cR (oY rfl (yAI rfl) (oN (eT (am (al (aa (aY 1 ?_)))))))))
         obtain rfl:=sI h
         exact aA ⟨rfl,_,rfl,(kp4 (kp rfl))⟩
        ·refine cF (vB hp21) (cK (az (eT (cR (oY rfl (be rfl rfl) (oY rfl (yMI rfl) (oN (aY 1 ?_))))))))
         obtain rfl:=sI h
         exact eN ⟨_,rfl,(kp4 (kp rfl))⟩
      ·clear h; rcases iOs hb17 with ⟨hp15,h⟩ | ⟨hp15,h⟩
       ·refine oSk (sF rfl rfl rfl rfl hp15) (oSk (sF rfl rfl rfl rfl hp15) (oSk (sF rfl rfl rfl rfl hp15) (oSk (sF rfl rfl rfl rfl hp15) (oY rfl (ad (vB hp15) rfl) ?_))))
        obtain rfl:=sI h
        exact key _ _ (kp4 (kp4 (kp rfl)))
       ·refine oY (sT rfl rfl rfl rfl hp15) (yFA oU rfl) (oY (sT rfl rfl rfl rfl hp15) (yL 1 bc rfl rfl rfl) ?_)
        obtain ⟨y22,hy23,h⟩:=bOs h
        refine oY (sT rfl rfl rfl rfl hp15) (yC [vI ((rdL p0.fB s5.2).fD),vI 0,vI 9] km rfl (fun W2 hW2 => ba ((rdL p0.fB s5.2).fD) 0 9 y22 hy23 W2 ) rfl) (oY (sT rfl rfl rfl rfl hp15) (cr rfl) (oY rfl (ae (vB hp15) rfl) ?_))
        obtain rfl:=sI h
        exact key _ _ (kp4 (kp4 (kp rfl)))
     ·clear h; rcases iOs hb14 with ⟨hp12,h⟩ | ⟨hp12,h⟩
      ·refine oSk (sF rfl rfl rfl rfl hp12) (oSk (sF rfl rfl rfl rfl hp12) (oSk (sF rfl rfl rfl rfl hp12) (oSk (sF rfl rfl rfl rfl hp12) (oY rfl (ad (vB hp12) rfl) ?_))))
       obtain rfl:=sI h
       exact key _ _ (kp4 (kp4 (kp rfl)))
      ·refine oY (sT rfl rfl rfl rfl hp12) (yFA oI rfl) (oY (sT rfl rfl rfl rfl hp12) (yL 1 bc rfl rfl rfl) ?_)
       obtain ⟨y24,hy25,h⟩:=bOs h
       refine oY (sT rfl rfl rfl rfl hp12) (yC [vI ((rdL p0.fB s5.2).fHour)] o0 rfl (fun W2 hW2 => dc ((rdL p0.fB s5.2).fHour) y24 hy25 W2 ) rfl) (oY (sT rfl rfl rfl rfl hp12) (cr rfl) (oY rfl (ae (vB hp12) rfl) ?_))
       obtain rfl:=sI h
       exact key _ _ (kp4 (kp4 (kp rfl)))
    ·refine cF (vB hp7) (aH (ai ?_))
     obtain rfl:=sI h
     exact aA ⟨rfl,_,rfl,(kp4 (kp rfl))⟩
   ·intro e L tm hJ
    rcases u6 with u27 | u28
    ·dsimp only at h hJ
     obtain ⟨rfl,tm0_u27,rfl,rfl⟩:=hJ
     refine ⟨(by intro hc; cases hc),?_⟩
     refine al (aa ?_)
     obtain rfl:=sI h
     exact ao (.inl rfl) rfl (rVt (v:=vI u27.1) rfl) (fun W2 hW2 => ⟨rfl,hW2.none⟩)
    ·dsimp only at h hJ
     obtain ⟨rfl,tm0_u28,rfl,rfl⟩:=hJ
     refine ⟨(by intro hc; cases hc),?_⟩
     refine ag (eT (cS (cS (cR (oY rfl (yFA cm rfl) (oY rfl (yL 0 gq rfl rfl rfl) (oY rfl (bu (us:=[]) kz rfl) (oY rfl (yMI rfl) (oN (eT (cB ?_)))))))))))
     obtain ⟨u31,hl62,h⟩:=bOs h
     refine bT (fun (s:(Int × Int)) L tm => ∃ (tm0:Nat → Value),L = [ah b1 57 [.slice Aa p0.fB.length ca,.slice Ab p0.fOrders.length cb]] ∧ tm = (upd (upd (upd (upd (upd tm0 1 (.pointer (some ⟨b1,0,none⟩))) 2 (vI s.1)) 49 (.slice Ab p0.fOrders.length cb)) 50 (vI (p0.fOrders.length:Int))) 51 (vI s.2))) 2 hl62 ⟨_,rfl,(kp4 (kp rfl))⟩ ?_ ?_
     ·rintro s30 L tm st ⟨tm0_s30,rfl,rfl⟩ h
      unfold iM at h
      refine cS (cR (oY rfl (bB rfl rfl) (oN (eT (cS ?_)))))
      rcases iOs h with ⟨hp32,h⟩ | ⟨hp32,h⟩
      ·refine cT (vB hp32) (cK (eT (cS (cB (cS (cR (oY rfl (yMI rfl) ?_)))))))
       obtain ⟨hg33,h⟩:=gOs h
       refine oY rfl (yI jW (by decide) hg33.1 hg33.2 (RdL.arg hr0_1) (eL ap rfl) rfl rfl) ?_
       refine oY rfl (yM (A:=Ab) (j:=(Int.toNat s30.2 * 5)) [vI ((rdL p0.fOrders s30.2).fID),vI ((rdL p0.fOrders s30.2).fH.fLo),vI ((rdL p0.fOrders s30.2).fH.fHi),vI ((rdL p0.fOrders s30.2).fD),vI ((rdL p0.fOrders s30.2).fW)] pP (Nat.succ_pos _) (RdL.arg hr0_1) rfl (bh ap hg33.1 (av hg33.2 rfl))) ?_
       refine aB nF rfl (fun b34 => ?_)
       refine oY rfl (yAI rfl) (ck rfl (yS 1 [vI ((rdL p0.fOrders s30.2).fID),vI ((rdL p0.fOrders s30.2).fH.fLo),vI ((rdL p0.fOrders s30.2).fH.fHi),vI ((rdL p0.fOrders s30.2).fD),vI ((rdL p0.fOrders s30.2).fW)] sz_96 rfl (nB rfl) rfl rfl rfl) (oN (eT (cS (cS (cR (oY rfl (yFA jw rfl) (oY rfl (yL 1 bc rfl rfl rfl) ?_))))))))
       obtain ⟨y35,hy36,h⟩:=bOs h
       refine oY rfl (yC [vI ((rdL p0.fOrders s30.2).fID),vI 1,vI 1099511627776] km rfl (fun W2 hW2 => ba ((rdL p0.fOrders s30.2).fID) 1 1099511627776 y35 hy36 W2 ) rfl) (oY rfl (cr rfl) (oY rfl (yMB rfl) ?_))
       obtain ⟨b38,hb39,h⟩:=bOs h
       refine oJ 6 (fun tm0 => (upd (upd (upd (upd (upd (upd (upd (upd (upd tm0 1 (.pointer (some ⟨b1,0,none⟩))) 2 (vI s30.1)) 49 (.slice Ab p0.fOrders.length cb)) 50 (vI (p0.fOrders.length:Int))) 51 (vI s30.2)) 52 (.bool (decide (s30.2 < (p0.fOrders.length:Int))))) 6 (.pointer (some ⟨b34,0,none⟩))) 5 (vI s30.2)) 66 (.bool b38))) (fun tm0 => ?_) (fun key => ?_)
       ·refine oY rfl (yMB rfl) ?_
        obtain ⟨b41,hb42,h⟩:=bOs h
        refine oJ 6 (fun tm0 => (upd (upd (upd (upd (upd (upd (upd (upd (upd tm0 1 (.pointer (some ⟨b1,0,none⟩))) 2 (vI s30.1)) 49 (.slice Ab p0.fOrders.length cb)) 50 (vI (p0.fOrders.length:Int))) 51 (vI s30.2)) 52 (.bool (decide (s30.2 < (p0.fOrders.length:Int))))) 6 (.pointer (some ⟨b34,0,none⟩))) 5 (vI s30.2)) 73 (.bool b41))) (fun tm0 => ?_) (fun key => ?_)
        ·refine oY rfl (yMB rfl) ?_
         refine oJ 8 (fun tm0 => (upd (upd (upd (upd (upd (upd (upd (upd (upd tm0 1 (.pointer (some ⟨b1,0,none⟩))) 2 (vI s30.1)) 49 (.slice Ab p0.fOrders.length cb)) 50 (vI (p0.fOrders.length:Int))) 51 (vI s30.2)) 52 (.bool (decide (s30.2 < (p0.fOrders.length:Int))))) 6 (.pointer (some ⟨b34,0,none⟩))) 5 (vI s30.2)) 82 (.bool (b41 || (decide ((rdL p0.fOrders s30.2).fH.fHi < (rdL p0.fOrders s30.2).fH.fLo)))))) (fun tm0 => ?_) (fun key => ?_)
         ·refine oY rfl (yMB rfl) ?_
          obtain ⟨b45,hb46,h⟩:=bOs h
          refine oJ 5 (fun tm0 => (upd (upd (upd (upd (upd (upd (upd (upd (upd tm0 1 (.pointer (some ⟨b1,0,none⟩))) 2 (vI s30.1)) 49 (.slice Ab p0.fOrders.length cb)) 50 (vI (p0.fOrders.length:Int))) 51 (vI s30.2)) 52 (.bool (decide (s30.2 < (p0.fOrders.length:Int))))) 6 (.pointer (some ⟨b34,0,none⟩))) 5 (vI s30.2)) 88 (.bool b45))) (fun tm0 => ?_) (fun key => ?_)
          ·refine oY rfl (yMB rfl) ?_
           obtain ⟨b48,hb49,h⟩:=bOs h
           refine oJ 5 (fun tm0 => (upd (upd (upd (upd (upd (upd (upd (upd (upd tm0 1 (.pointer (some ⟨b1,0,none⟩))) 2 (vI s30.1)) 49 (.slice Ab p0.fOrders.length cb)) 50 (vI (p0.fOrders.length:Int))) 51 (vI s30.2)) 52 (.bool (decide (s30.2 < (p0.fOrders.length:Int))))) 6 (.pointer (some ⟨b34,0,none⟩))) 5 (vI s30.2)) 94 (.bool b48))) (fun tm0 => ?_) (fun key => ?_)
           ·refine oN (eT ?_)
            rcases iOs h with ⟨hp50,h⟩ | ⟨hp50,h⟩
            ·refine cT (vB hp50) (cS (cR (oY rfl (yAI rfl) (oN (eT (am (aa (al (aa (aY 1 ?_))))))))))
             obtain rfl:=sI h
             exact aA ⟨rfl,_,rfl,(kp4 (kp rfl))⟩
            ·refine cF (vB hp50) (cK (eT (cS (cR (oY rfl (yN 0 [.slice Aa p0.fB.length ca,.slice Ab p0.fOrders.length cb] dp rfl rfl rfl) (oY rfl (yFA jw rfl) (oY rfl (yL 1 bc rfl rfl rfl) ?_)))))))
             obtain ⟨y51,hy52,h⟩:=bOs h
             refine oY rfl (yC [.agg #[.slice Aa p0.fB.length ca,.slice Ab p0.fOrders.length cb],vI ((rdL p0.fOrders s30.2).fID)] go_60 rfl (fun W2 hW2 => jf p0 ((rdL p0.fOrders s30.2).fID) y51 hy52 W2 Aa p0.fB.length ca rfl ((RdL.arg hr0_0) W2 hW2) Ab p0.fOrders.length cb rfl ((RdL.arg hr0_1) W2 hW2)) rfl) (oY rfl (yMI rfl) (oY rfl (bB rfl rfl) (oN (eT ?_))))
             rcases iOs h with ⟨hp53,h⟩ | ⟨hp53,h⟩
             ·refine cT (vB hp53) (cS (cR (oY rfl (yAI rfl) (oN (eT (am (al (aa (aY 1 ?_)))))))))
              obtain rfl:=sI h
              exact aA ⟨rfl,_,rfl,(kp4 (kp rfl))⟩
             ·refine cF (vB hp53) (cK (az (eT (cR (oY rfl (be rfl rfl) (oY rfl (yMI rfl) (oN (aY 1 ?_))))))))
              obtain rfl:=sI h
              exact eN ⟨_,rfl,(kp4 (kp rfl))⟩
           ·clear h; rcases iOs hb49 with ⟨hp47,h⟩ | ⟨hp47,h⟩
            ·refine oSk (sF rfl rfl rfl rfl hp47) (oSk (sF rfl rfl rfl rfl hp47) (oSk (sF rfl rfl rfl rfl hp47) (oSk (sF rfl rfl rfl rfl hp47) (oY rfl (ad (vB hp47) rfl) ?_))))
             obtain rfl:=sI h
             exact key _ _ (kp4 (kp4 (kp rfl)))
            ·refine oY (sT rfl rfl rfl rfl hp47) (yFA iH rfl) (oY (sT rfl rfl rfl rfl hp47) (yL 1 bc rfl rfl rfl) ?_)
             obtain ⟨y54,hy55,h⟩:=bOs h
             refine oY (sT rfl rfl rfl rfl hp47) (yC [vI ((rdL p0.fOrders s30.2).fW),vI 1,vI 1000] km rfl (fun W2 hW2 => ba ((rdL p0.fOrders s30.2).fW) 1 1000 y54 hy55 W2 ) rfl) (oY (sT rfl rfl rfl rfl hp47) (cr rfl) (oY rfl (ae (vB hp47) rfl) ?_))
             obtain rfl:=sI h
             exact key _ _ (kp4 (kp4 (kp rfl)))
          ·clear h; rcases iOs hb46 with ⟨hp44,h⟩ | ⟨hp44,h⟩
           ·refine oSk (sF rfl rfl rfl rfl hp44) (oSk (sF rfl rfl rfl rfl hp44) (oSk (sF rfl rfl rfl rfl hp44) (oSk (sF rfl rfl rfl rfl hp44) (oY rfl (ad (vB hp44) rfl) ?_))))
            obtain rfl:=sI h
            exact key _ _ (kp4 (kp4 (kp rfl)))
           ·refine oY (sT rfl rfl rfl rfl hp44) (yFA o8 rfl) (oY (sT rfl rfl rfl rfl hp44) (yL 1 bc rfl rfl rfl) ?_)
            obtain ⟨y56,hy57,h⟩:=bOs h
            refine oY (sT rfl rfl rfl rfl hp44) (yC [vI ((rdL p0.fOrders s30.2).fD),vI 0,vI 9] km rfl (fun W2 hW2 => ba ((rdL p0.fOrders s30.2).fD) 0 9 y56 hy57 W2 ) rfl) (oY (sT rfl rfl rfl rfl hp44) (cr rfl) (oY rfl (ae (vB hp44) rfl) ?_))
            obtain rfl:=sI h
            exact key _ _ (kp4 (kp4 (kp rfl)))
         ·rcases aq b41 with hp43 | hp43
          ·refine oSk (sF rfl rfl rfl rfl hp43) (oSk (sF rfl rfl rfl rfl hp43) (oSk (sF rfl rfl rfl rfl hp43) (oSk (sF rfl rfl rfl rfl hp43) (oSk (sF rfl rfl rfl rfl hp43) (oSk (sF rfl rfl rfl rfl hp43) (oSk (sF rfl rfl rfl rfl hp43) (oY rfl (ad (vB hp43) rfl) ?_)))))))
           exact key _ _ (keep (keep (keep (keep (keep (keep (keep (keep (keep rfl rfl) rfl) rfl) rfl) rfl) rfl) rfl) rfl) (vB (kg hp43)))
          ·refine oY (sT rfl rfl rfl rfl hp43) (yFA gB rfl) (oY (sT rfl rfl rfl rfl hp43) (yFA fV rfl) (oY (sT rfl rfl rfl rfl hp43) (yL 1 bc rfl rfl rfl) (oY (sT rfl rfl rfl rfl hp43) (yFA gB rfl) (oY (sT rfl rfl rfl rfl hp43) (yFA eu rfl) (oY (sT rfl rfl rfl rfl hp43) (yL 1 bc rfl rfl rfl) (oY (sT rfl rfl rfl rfl hp43) (ie rfl rfl) (oY rfl (ae (vB hp43) rfl) ?_)))))))
           exact key _ _ (keep (keep (keep (keep (keep (keep (keep (keep (keep rfl rfl) rfl) rfl) rfl) rfl) rfl) rfl) rfl) (vB (j9 hp43)))
        ·clear h; rcases iOs hb42 with ⟨hp40,h⟩ | ⟨hp40,h⟩
         ·refine oSk (sF rfl rfl rfl rfl hp40) (oSk (sF rfl rfl rfl rfl hp40) (oSk (sF rfl rfl rfl rfl hp40) (oSk (sF rfl rfl rfl rfl hp40) (oSk (sF rfl rfl rfl rfl hp40) (oY rfl (ad (vB hp40) rfl) ?_)))))
          obtain rfl:=sI h
          exact key _ _ (kp4 (kp4 (kp rfl)))
         ·refine oY (sT rfl rfl rfl rfl hp40) (yFA gB rfl) (oY (sT rfl rfl rfl rfl hp40) (yFA eu rfl) (oY (sT rfl rfl rfl rfl hp40) (yL 1 bc rfl rfl rfl) ?_))
          obtain ⟨y58,hy59,h⟩:=bOs h
          refine oY (sT rfl rfl rfl rfl hp40) (yC [vI ((rdL p0.fOrders s30.2).fH.fHi)] o0 rfl (fun W2 hW2 => dc ((rdL p0.fOrders s30.2).fH.fHi) y58 hy59 W2 ) rfl) (oY (sT rfl rfl rfl rfl hp40) (cr rfl) (oY rfl (ae (vB hp40) rfl) ?_))
          obtain rfl:=sI h
          exact key _ _ (kp4 (kp4 (kp rfl)))
       ·clear h; rcases iOs hb39 with ⟨hp37,h⟩ | ⟨hp37,h⟩
        ·refine oSk (sF rfl rfl rfl rfl hp37) (oSk (sF rfl rfl rfl rfl hp37) (oSk (sF rfl rfl rfl rfl hp37) (oSk (sF rfl rfl rfl rfl hp37) (oSk (sF rfl rfl rfl rfl hp37) (oY rfl (ad (vB hp37) rfl) ?_)))))
         obtain rfl:=sI h
         exact key _ _ (kp4 (kp4 (kp rfl)))
        ·refine oY (sT rfl rfl rfl rfl hp37) (yFA gB rfl) (oY (sT rfl rfl rfl rfl hp37) (yFA fV rfl) (oY (sT rfl rfl rfl rfl hp37) (yL 1 bc rfl rfl rfl) ?_))
         obtain ⟨y60,hy61,h⟩:=bOs h
         refine oY (sT rfl rfl rfl rfl hp37) (yC [vI ((rdL p0.fOrders s30.2).fH.fLo)] o0 rfl (fun W2 hW2 => dc ((rdL p0.fOrders s30.2).fH.fLo) y60 hy61 W2 ) rfl) (oY (sT rfl rfl rfl rfl hp37) (cr rfl) (oY rfl (ae (vB hp37) rfl) ?_))
         obtain rfl:=sI h
         exact key _ _ (kp4 (kp4 (kp rfl)))
      ·refine cF (vB hp32) (aH (ai ?_))
       obtain rfl:=sI h
       exact aA ⟨rfl,_,rfl,(kp4 (kp rfl))⟩
     ·intro e L tm hJ
      rcases u31 with u63 | u64
      ·dsimp only at h hJ
       obtain ⟨rfl,tm0_u63,rfl,rfl⟩:=hJ
       refine ⟨(by intro hc; cases hc),?_⟩
       refine al (aa ?_)
       obtain rfl:=sI h
       exact ao (.inl rfl) rfl (rVt (v:=vI u63.1) rfl) (fun W2 hW2 => ⟨rfl,hW2.none⟩)
      ·dsimp only at h hJ
       obtain ⟨rfl,tm0_u64,rfl,rfl⟩:=hJ
       refine ⟨(by intro hc; cases hc),?_⟩
       refine ag (eT (cS (cR (oY rfl (yAI rfl) (oN (eT (am ?_)))))))
       obtain rfl:=sI h
       exact ao (.inl rfl) rfl (rVt (v:=vI 0) rfl) (fun W2 hW2 => ⟨rfl,hW2.none⟩)
 ·rcases aq (decide (24 < (p0.fB.length:Int))) with hp2 | hp2
  ·refine oSk (sF rfl rfl rfl rfl hp2) (oSk (sF rfl rfl rfl rfl hp2) (oSk (sF rfl rfl rfl rfl hp2) (oSk (sF rfl rfl rfl rfl hp2) (oY rfl (ad (vB hp2) rfl) ?_))))
   exact key _ _ (keep (keep (keep rfl rfl) rfl) (vB (kg hp2)))
  ·refine oY (sT rfl rfl rfl rfl hp2) (yFA cm rfl) (oY (sT rfl rfl rfl rfl hp2) (yL 0 gq rfl rfl rfl) (oY (sT rfl rfl rfl rfl hp2) (bu (us:=[]) kz rfl) (oY (sT rfl rfl rfl rfl hp2) (ie rfl rfl) (oY rfl (ae (vB hp2) rfl) ?_))))
   exact key _ _ (keep (keep (keep rfl rfl) rfl) (vB (j9 hp2)))
theorem fy (p0:(List Int)) (p1:Int) (p2:Int) (p3:Int → Int → Option Int) (res:(List Int)) (h:bX p0 p1 p2 p3 = some res) (W:World) (w0:World) (R:Res) (Aa:Option Addr) (n0_0 ca : Nat) (hn0_0:n0_0 = p0.length) (fid3:Nat) (fst3 caps3 : List Value) (hgo3:bA Tryz.prog fid3 = true) (hof3:∀ W2,Below w0.heap.size w0 W2 → R.holds W2 → ∀ x0 x1,∀ y,p3 x0 x1 = some y → Calls Tryz.prog fid3 (fst3 ++ (([vI x0,vI x1] : List Value) ++ caps3)).toArray W2 fun e W3 => e = .returned (vI y) ∧ Ext W2 W3 []) (hW:Ext w0 W [R,aJ Aa ca 3 1 n0_0 (encL cI p0)]) :
  Calls Tryz.prog 135 [.slice Aa n0_0 ca,vI p1,vI p2,.func (.func fid3) fst3.toArray caps3.toArray].toArray W fun e W2 => e = .returned (.tuple #[]) ∧ n0_0 = res.length ∧ Ext w0 W2 [R,aJ Aa ca 3 1 n0_0 (encL cI res)]:=by
 subst hn0_0
 unfold bX at h
 refine aM (m:=53) Tryz.func135 rfl rfl (nB rfl) hW (cS (cR (oY rfl (yMI rfl) (oY rfl (be rfl rfl) (oY rfl (yAI rfl) (oN (eT (cB ?_))))))))
 obtain ⟨u4,hl24,h⟩:=bOs h
 refine bm (fun (s:(Int × (List Int))) L tm => ∃ (tm0:Nat → Value),p0.length = s.2.length ∧ L = [R,aJ Aa ca 3 1 p0.length (encL cI s.2)] ∧ tm = (upd (upd (upd (upd (upd tm0 0 (.slice Aa p0.length ca)) 1 (vI p1)) 2 (vI p2)) 3 (.func (.func fid3) fst3.toArray caps3.toArray)) 8 (vI s.1))) 0 hl24 ⟨_,rfl,rfl,(kp4 (kp rfl))⟩ ?_ ?_
 ·rintro s3 L tm st ⟨tm0_s3,hn1_s3,rfl,rfl⟩ h
  unfold cV at h
  refine cS (cS (cR (oY rfl (yMI rfl) (oY rfl (yMI rfl) (oY rfl (bB rfl rfl) (oN (eT ?_)))))))
  rcases iOs h with ⟨hp5,h⟩ | ⟨hp5,h⟩
  ·refine cT (vB hp5) (cK (eT (cS (cB (cS (cR (oY rfl (yMI rfl) (oY rfl (yAI rfl) (oN (eT (cB ?_)))))))))))
   obtain ⟨u9,hl23,h⟩:=bOs h
   refine bm (fun (s:(Int × (List Int))) L tm => ∃ (tm0:Nat → Value),p0.length = s.2.length ∧ L = [R,aJ Aa ca 3 1 p0.length (encL cI s.2)] ∧ tm = (upd (upd (upd (upd (upd (upd (upd tm0 0 (.slice Aa p0.length ca)) 1 (vI p1)) 2 (vI p2)) 3 (.func (.func fid3) fst3.toArray caps3.toArray)) 8 (vI s3.1)) 14 (.bool (decide (s3.1 < p2)))) 9 (vI s.1))) 2 hl23 ⟨_,hn1_s3,rfl,(kp4 (kp (kp (kp rfl))))⟩ ?_ ?_
   ·rintro s8 L tm st ⟨tm0_s8,hn1_s8,rfl,rfl⟩ h
    unfold cU at h
    refine cS (cS ?_)
    refine bI 17 cQ (by kernel_rfl) (by kernel_rfl) ?_
    refine qY rfl (yMI rfl) (qY rfl (yMI rfl) (qY rfl (ie rfl rfl) (qY rfl (yMB rfl) ?_)))
    obtain ⟨b11,hb12,h⟩:=bOs h
    refine qJ 13 (fun tm0 => (upd (upd (upd (upd (upd (upd (upd (upd tm0 0 (.slice Aa p0.length ca)) 1 (vI p1)) 2 (vI p2)) 3 (.func (.func fid3) fst3.toArray caps3.toArray)) 8 (vI s3.1)) 14 (.bool (decide (s3.1 < p2)))) 9 (vI s8.1)) 34 (.bool b11))) (fun tm0 => ?_) (fun key => ?_)
    ·refine dE (oN (eT ?_))
     rcases iOs h with ⟨hp13,h⟩ | ⟨hp13,h⟩
     ·refine cT (vB hp13) (cK (eT (cS (cB ?_))))
      obtain ⟨hg15,h⟩:=gOs h
      obtain ⟨hg16,h⟩:=gOs h
      obtain ⟨hg17,h⟩:=gOs h
      obtain ⟨hg18,h⟩:=gOs h
      refine cO [[],[],[],[],[3],[],[],[6],[5,6,7],[5,6,7,8],[],[],[10,11],[10,11,12],[0,1,5,6,7,8,9,10,11,12,13],[0,1,5,6,7,8,9,10,11,12,13,14],[0,1,2,3,4,5,6,7,8,9,10,11,12,13,14,15],[0,1,2,3,4,5,6,7,8,9,10,11,12,13,14,15,16]] [(none,0,[true,true]),(none,0,[true,true]),(none,0,[true,false]),(none,0,[true,false]),(none,0,[true,false]),(none,0,[true,true]),(none,0,[true,true]),(none,0,[true,true]),(none,0,[true,true]),(none,0,[true,true]),(none,0,[true,true]),(none,0,[true,true]),(none,0,[true,true]),(none,0,[true,true]),(none,0,[true,true]),(some 1,0,[true,true]),(none,0,[true,true]),(some 1,0,[true,true])] [⟨fun _ => .slice Aa p0.length ca,fun _ => noR,fun _ => []⟩,⟨fun _ => vI s8.1,fun _ => noR,fun _ => []⟩,⟨fun _ => .slice Aa p0.length ca,fun _ => noR,fun _ => []⟩,⟨fun _ => vI s8.1,fun _ => noR,fun _ => []⟩,⟨fun _ => vI (w64 (s8.1 - 1)),fun _ => noR,fun _ => []⟩,⟨fun _ => .slice Aa p0.length ca,fun _ => noR,fun _ => []⟩,⟨fun _ => vI s8.1,fun _ => noR,fun _ => []⟩,⟨fun _ => vI (w64 (s8.1 - 1)),fun _ => noR,fun _ => []⟩,⟨fun _ => slA Aa (Int.toNat (w64 (s8.1 - 1)) * 1),fun _ => noR,fun _ => []⟩,⟨fun _ => vI (rdL s8.2 (w64 (s8.1 - 1))),fun _ => noR,fun _ => []⟩,⟨fun _ => .slice Aa p0.length ca,fun _ => noR,fun _ => []⟩,⟨fun _ => vI s8.1,fun _ => noR,fun _ => []⟩,⟨fun _ => slA Aa (Int.toNat s8.1 * 1),fun _ => noR,fun _ => []⟩,⟨fun _ => vI (rdL s8.2 s8.1),fun _ => noR,fun _ => []⟩,⟨fun _ => slA Aa (Int.toNat s8.1 * 1),fun _ => noR,fun _ => []⟩,⟨fun _ => undef,fun _ => aJ Aa ca 3 1 p0.length (encL cI (s8.2.set (Int.toNat s8.1) (rdL s8.2 (w64 (s8.1 - 1))))),fun _ => []⟩,⟨fun _ => slA Aa (Int.toNat (w64 (s8.1 - 1)) * 1),fun _ => noR,fun _ => []⟩,⟨fun _ => undef,fun _ => aJ Aa ca 3 1 p0.length (encL cI ((s8.2.set (Int.toNat s8.1) (rdL s8.2 (w64 (s8.1 - 1)))).set (Int.toNat (w64 (s8.1 - 1))) (rdL s8.2 s8.1))),fun _ => []⟩] 2 cQ (by kernel_rfl) (by kernel_rfl) ⟨⟨fun ξ14 ξ14' h => ⟨rfl,rfl,rfl⟩,fun _ => rfl⟩,⟨fun ξ14 ξ14' h => ⟨rfl,rfl,rfl⟩,fun _ => rfl⟩,⟨fun ξ14 ξ14' h => ⟨rfl,rfl,rfl⟩,fun _ => rfl⟩,⟨fun ξ14 ξ14' h => ⟨rfl,rfl,rfl⟩,fun _ => rfl⟩,⟨fun ξ14 ξ14' h => ⟨rfl,rfl,rfl⟩,fun _ => rfl⟩,⟨fun ξ14 ξ14' h => ⟨rfl,rfl,rfl⟩,fun _ => rfl⟩,⟨fun ξ14 ξ14' h => ⟨rfl,rfl,rfl⟩,fun _ => rfl⟩,⟨fun ξ14 ξ14' h => ⟨rfl,rfl,rfl⟩,fun _ => rfl⟩,⟨fun ξ14 ξ14' h => ⟨rfl,rfl,rfl⟩,fun _ => rfl⟩,⟨fun ξ14 ξ14' h => ⟨rfl,rfl,rfl⟩,fun _ => rfl⟩,⟨fun ξ14 ξ14' h => ⟨rfl,rfl,rfl⟩,fun _ => rfl⟩,⟨fun ξ14 ξ14' h => ⟨rfl,rfl,rfl⟩,fun _ => rfl⟩,⟨fun ξ14 ξ14' h => ⟨rfl,rfl,rfl⟩,fun _ => rfl⟩,⟨fun ξ14 ξ14' h => ⟨rfl,rfl,rfl⟩,fun _ => rfl⟩,⟨fun ξ14 ξ14' h => ⟨rfl,rfl,rfl⟩,fun _ => rfl⟩,⟨fun ξ14 ξ14' h => ⟨rfl,rfl,rfl⟩,fun _ => rfl⟩,⟨fun ξ14 ξ14' h => ⟨rfl,rfl,rfl⟩,fun _ => rfl⟩,⟨fun ξ14 ξ14' h => ⟨rfl,rfl,rfl⟩,fun _ => rfl⟩,trivial⟩ rfl (fun ξ14 => ?_)
      refine bj rfl (fun L2 => ?_) ?_
      ·dsimp only [ar,lca,lna]
       refine oY rfl (yMS rfl) (oN ?_)
       exact ab (fun _ => (none,0,0,[],noR)) rfl (List.append_nil _)
      dsimp only [aV,lsz,lss,lna,lca,List.append_nil]
      refine bj rfl (fun L2 => ?_) ?_
      ·dsimp only [ar,lca,lna]
       refine oY rfl (yMI rfl) (oN ?_)
       exact ab (fun _ => (none,0,0,[],noR)) rfl (List.append_nil _)
      dsimp only [aV,lsz,lss,lna,lca,List.append_nil]
      refine bj rfl (fun L2 => ?_) ?_
      ·dsimp only [ar,lca,lna]
       refine oY rfl (yMS rfl) (oN ?_)
       exact ab (fun _ => (none,0,0,[],noR)) rfl (List.append_nil _)
      dsimp only [aV,lsz,lss,lna,lca,List.append_nil]
      refine bj rfl (fun L2 => ?_) ?_
      ·dsimp only [ar,lca,lna]
       refine oY rfl (yMI rfl) (oN ?_)
       exact ab (fun _ => (none,0,0,[],noR)) rfl (List.append_nil _)
      dsimp only [aV,lsz,lss,lna,lca,List.append_nil]
      refine bj rfl (fun L2 => ?_) ?_
      ·dsimp only [ar,lca,lna]
       refine oY rfl (eM rfl rfl) (oN ?_)
       exact ab (fun _ => (none,0,0,[],noR)) rfl (List.append_nil _)
      dsimp only [aV,lsz,lss,lna,lca,List.append_nil]
      refine bj rfl (fun L2 => ?_) ?_
      ·dsimp only [ar,lca,lna]
       refine oY rfl (yMS rfl) (oN ?_)
       exact ab (fun _ => (none,0,0,[],noR)) rfl (List.append_nil _)
      dsimp only [aV,lsz,lss,lna,lca,List.append_nil]
      refine bj rfl (fun L2 => ?_) ?_
      ·dsimp only [ar,lca,lna]
       refine oY rfl (yMI rfl) (oN ?_)
       exact ab (fun _ => (none,0,0,[],noR)) rfl (List.append_nil _)
      dsimp only [aV,lsz,lss,lna,lca,List.append_nil]
      refine bj rfl (fun L2 => ?_) ?_
      ·dsimp only [ar,lca,lna]
       refine oY rfl (eM rfl rfl) (oN ?_)
       exact ab (fun _ => (none,0,0,[],noR)) rfl (List.append_nil _)
      dsimp only [aV,lsz,lss,lna,lca,List.append_nil]
      refine bj rfl (fun L2 => ?_) ?_
      ·dsimp only [ar,lca,lna]
       refine oY rfl (yI d9 (by decide) hg15.1 hg15.2 (RdL.row 1 rfl) (eL aG hn1_s8) rfl rfl) ?_
       refine oN ?_
       exact ab (fun _ => (none,0,0,[],noR)) rfl (List.append_nil _)
      dsimp only [aV,lsz,lss,lna,lca,List.append_nil]
      refine bj rfl (fun L2 => ?_) ?_
      ·dsimp only [ar,lca,lna]
       refine oY rfl (yR (A:=Aa) (j:=(Int.toNat (w64 (s8.1 - 1)) * 1)) (v:=vI (rdL s8.2 (w64 (s8.1 - 1)))) bc (RdL.row 1 rfl) rfl (aW aG hg15.1 (av hg15.2 hn1_s8) rfl)) (oN ?_)
       exact ab (fun _ => (none,0,0,[],noR)) rfl (List.append_nil _)
      dsimp only [aV,lsz,lss,lna,lca,List.append_nil]
      refine bj rfl (fun L2 => ?_) ?_
      ·dsimp only [ar,lca,lna]
       refine oY rfl (yMS rfl) (oN ?_)
       exact ab (fun _ => (none,0,0,[],noR)) rfl (List.append_nil _)
      dsimp only [aV,lsz,lss,lna,lca,List.append_nil]
      refine bj rfl (fun L2 => ?_) ?_
      ·dsimp only [ar,lca,lna]
       refine oY rfl (yMI rfl) (oN ?_)
       exact ab (fun _ => (none,0,0,[],noR)) rfl (List.append_nil _)
      dsimp only [aV,lsz,lss,lna,lca,List.append_nil]
      refine bj rfl (fun L2 => ?_) ?_
      ·dsimp only [ar,lca,lna]
       refine oY rfl (yI d9 (by decide) hg16.1 hg16.2 (RdL.row 1 rfl) (eL aG hn1_s8) rfl rfl) ?_
       refine oN ?_
       exact ab (fun _ => (none,0,0,[],noR)) rfl (List.append_nil _)
      dsimp only [aV,lsz,lss,lna,lca,List.append_nil]
      refine bj rfl (fun L2 => ?_) ?_
      ·dsimp only [ar,lca,lna]
       refine oY rfl (yR (A:=Aa) (j:=(Int.toNat s8.1 * 1)) (v:=vI (rdL s8.2 s8.1)) bc (RdL.row 1 rfl) rfl (aW aG hg16.1 (av hg16.2 hn1_s8) rfl)) (oN ?_)
       exact ab (fun _ => (none,0,0,[],noR)) rfl (List.append_nil _)
      dsimp only [aV,lsz,lss,lna,lca,List.append_nil]
      refine bj rfl (fun L2 => ?_) ?_
      ·dsimp only [ar,lca,lna]
       refine oY rfl (yI d9 (by decide) hg17.1 hg17.2 (RdL.row 1 rfl) (eL aG hn1_s8) rfl rfl) ?_
       refine oN ?_
       exact ab (fun _ => (none,0,0,[],noR)) rfl (List.append_nil _)
      dsimp only [aV,lsz,lss,lna,lca,List.append_nil]
      refine pw rfl (fun L2 => ?_) ?_
      ·dsimp only [ar,lca,lna]
       refine ck rfl (iV 1 (xs:=s8.2) aG (rdL s8.2 (w64 (s8.1 - 1))) pZ rfl hg17.1 (av hg17.2 hn1_s8) rfl rfl rfl rfl) (oN ?_)
       first | exact bf (fun _ => (none,0,0,[],noR)) rfl | exact bf (fun _ => (none,0,0,[],noR)) (List.append_nil _)
      dsimp only [aV,lsz,lss,lna,lca,List.append_nil]
      refine bj rfl (fun L2 => ?_) ?_
      ·dsimp only [ar,lca,lna]
       refine oY rfl (yI d9 (by decide) hg18.1 hg18.2 (RdL.row 1 rfl) (eL aG (c3 hn1_s8)) rfl rfl) ?_
       refine oN ?_
       exact ab (fun _ => (none,0,0,[],noR)) rfl (List.append_nil _)
      dsimp only [aV,lsz,lss,lna,lca,List.append_nil]
      refine pw rfl (fun L2 => ?_) ?_
      ·dsimp only [ar,lca,lna]
       refine ck rfl (iV 1 (xs:=(s8.2.set (Int.toNat s8.1) (rdL s8.2 (w64 (s8.1 - 1))))) aG (rdL s8.2 s8.1) pZ rfl hg18.1 (av hg18.2 (c3 hn1_s8)) rfl rfl rfl rfl) (oN ?_)
       first | exact bf (fun _ => (none,0,0,[],noR)) rfl | exact bf (fun _ => (none,0,0,[],noR)) (List.append_nil _)
      dsimp only [aV,lsz,lss,lna,lca,List.append_nil]
      refine g9 (az (eT (cR (oY rfl (yMI rfl) (oY rfl (eM rfl rfl) (oY rfl (yAI rfl) (oN ?_)))))))
      obtain rfl:=sI h
      exact eN ⟨_,(c3 (c3 hn1_s8)),rfl,(kp4 (kp (kp (kp rfl))))⟩
     ·refine cF (vB hp13) (aH (ai ?_))
      obtain rfl:=sI h
      exact aA ⟨rfl,_,hn1_s8,rfl,(kp4 (kp (kp (kp rfl))))⟩
    ·clear h; rcases iOs hb12 with ⟨hp10,h⟩ | ⟨hp10,h⟩
     ·refine qY (sT rfl rfl rfl rfl hp10) (bF (v:=.func (.func fid3) fst3.toArray caps3.toArray) rfl) (qY (sT rfl rfl rfl rfl hp10) (yMS rfl) (qY (sT rfl rfl rfl rfl hp10) (yMI rfl) ?_))
      obtain ⟨hg19,h⟩:=gOs h
      refine qY (sT rfl rfl rfl rfl hp10) (yI d9 (by decide) hg19.1 hg19.2 (RdL.row 1 rfl) (eL aG hn1_s8) rfl rfl) ?_
      refine qY (sT rfl rfl rfl rfl hp10) (yR (A:=Aa) (j:=(Int.toNat s8.1 * 1)) (v:=vI (rdL s8.2 s8.1)) bc (RdL.row 1 rfl) rfl (aW aG hg19.1 (av hg19.2 hn1_s8) rfl)) (qY (sT rfl rfl rfl rfl hp10) (yMS rfl) (qY (sT rfl rfl rfl rfl hp10) (yMI rfl) (qY (sT rfl rfl rfl rfl hp10) (eM rfl rfl) ?_)))
      obtain ⟨hg20,h⟩:=gOs h
      refine qY (sT rfl rfl rfl rfl hp10) (yI d9 (by decide) hg20.1 hg20.2 (RdL.row 1 rfl) (eL aG hn1_s8) rfl rfl) ?_
      refine qY (sT rfl rfl rfl rfl hp10) (yR (A:=Aa) (j:=(Int.toNat (w64 (s8.1 - 1)) * 1)) (v:=vI (rdL s8.2 (w64 (s8.1 - 1)))) bc (RdL.row 1 rfl) rfl (aW aG hg20.1 (av hg20.2 hn1_s8) rfl)) ?_
      obtain ⟨y21,hy22,h⟩:=bOs h
      refine qY (sT rfl rfl rfl rfl hp10) (gm [vI (rdL s8.2 s8.1),vI (rdL s8.2 (w64 (s8.1 - 1)))] hgo3 rfl rfl (fun W2 hW2 => hof3 W2 hW2.below (hW2.mem (i:=0) rfl) (rdL s8.2 s8.1) (rdL s8.2 (w64 (s8.1 - 1))) y21 hy22)) (qY (sT rfl rfl rfl rfl hp10) (bB rfl rfl) (qY rfl (ad (vB hp10) rfl) ?_))
      obtain rfl:=sI h
      exact key _ _ (kp4 (kp4 rfl))
     ·refine aF (sF rfl rfl rfl rfl hp10) (aF (sF rfl rfl rfl rfl hp10) (aF (sF rfl rfl rfl rfl hp10) (aF (sF rfl rfl rfl rfl hp10) (aF (sF rfl rfl rfl rfl hp10) (aF (sF rfl rfl rfl rfl hp10) (aF (sF rfl rfl rfl rfl hp10) (aF (sF rfl rfl rfl rfl hp10) (aF (sF rfl rfl rfl rfl hp10) (aF (sF rfl rfl rfl rfl hp10) (aF (sF rfl rfl rfl rfl hp10) (aF (sF rfl rfl rfl rfl hp10) (qY rfl (ae (vB hp10) rfl) ?_))))))))))))
      obtain rfl:=sI h
      exact key _ _ (kp4 (kp4 rfl))
   ·intro e L tm hJ
    obtain ⟨rfl,tm0_u9,hn1_u9,rfl,rfl⟩:=hJ
    refine ⟨(by intro hc; cases hc),?_⟩
    refine ag (az (eT (cR (oY rfl (yMI rfl) (oY rfl (be rfl rfl) (oY rfl (yAI rfl) (oN ?_)))))))
    obtain rfl:=sI h
    exact eN ⟨_,hn1_u9,rfl,(kp4 (kp rfl))⟩
  ·refine cF (vB hp5) (aH (ai ?_))
   obtain rfl:=sI h
   exact aA ⟨rfl,_,hn1_s3,rfl,(kp4 (kp rfl))⟩
 ·intro e L tm hJ
  obtain ⟨rfl,tm0_u4,hn1_u4,rfl,rfl⟩:=hJ
  refine ⟨(by intro hc; cases hc),?_⟩
  refine ag ?_
  obtain rfl:=sI h
  exact bO (.inr rfl) rfl  (fun W2 hW2 => ⟨rfl,hn1_u4,hW2.take 2⟩)
theorem ig (p0:(List Int)) (p1:Int) (p2:Int → Int → Option Int) (res:(List Int)) (h:dv p0 p1 p2 = some res) (W:World) (w0:World) (R:Res) (Aa:Option Addr) (n0_0 ca : Nat) (hn0_0:n0_0 = p0.length) (fid2:Nat) (fst2 caps2 : List Value) (hgo2:bA Tryz.prog fid2 = true) (hof2:∀ W2,Below w0.heap.size w0 W2 → R.holds W2 → ∀ x0 x1,∀ y,p2 x0 x1 = some y → Calls Tryz.prog fid2 (fst2 ++ (([vI x0,vI x1] : List Value) ++ caps2)).toArray W2 fun e W3 => e = .returned (vI y) ∧ Ext W2 W3 []) (hW:Ext w0 W [R,aJ Aa ca 3 1 n0_0 (encL cI p0)]) :
  Calls Tryz.prog 116 [.slice Aa n0_0 ca,vI p1,.func (.func fid2) fst2.toArray caps2.toArray].toArray W fun e W2 => e = .returned (.tuple #[]) ∧ n0_0 = res.length ∧ Ext w0 W2 [R,aJ Aa ca 3 1 n0_0 (encL cI res)]:=by
 subst hn0_0
 unfold dv at h
 refine aM (m:=63) Tryz.func116 rfl rfl (nB rfl) hW (cS (cR (oY rfl (yAI rfl) (oN (eT (cS (cR (oY rfl (yMI rfl) (oY rfl (yAI rfl) (oY rfl (yAI rfl) (oN (eT (cS (cB ?_))))))))))))))
 obtain ⟨u3,hl5,h⟩:=bOs h
 refine bm (fun (s:(Int × Int)) L tm => ∃ (tm0:Nat → Value),L = [R,aJ Aa ca 3 1 p0.length (encL cI p0)] ∧ tm = (upd (upd (upd (upd (upd (upd tm0 0 (.slice Aa p0.length ca)) 1 (vI p1)) 2 (.func (.func fid2) fst2.toArray caps2.toArray)) 6 (vI 20)) 7 (vI s.1)) 8 (vI s.2))) 0 hl5 ⟨_,rfl,(kp4 (kp (kp rfl)))⟩ ?_ ?_
 ·rintro s2 L tm st ⟨tm0_s2,rfl,rfl⟩ h
  unfold eD at h
  refine cS (cS (cR (oY rfl (yMI rfl) (oY rfl (yMI rfl) (oY rfl (kn rfl rfl) (oN (eT ?_)))))))
  obtain ⟨hp4,h⟩:=gOs h
  refine cF (vB hp4) (aH (ai ?_))
  obtain rfl:=sI h
  exact aA ⟨rfl,_,rfl,(kp4 (kp (kp rfl)))⟩
 ·intro e L tm hJ
  obtain ⟨rfl,tm0_u3,rfl,rfl⟩:=hJ
  refine ⟨(by intro hc; cases hc),?_⟩
  refine ag (eT (cS (cR (oY rfl (yMS rfl) (oY rfl (yMI rfl) (oY rfl (yMI rfl) (oY rfl (bF (v:=.func (.func fid2) fst2.toArray caps2.toArray) rfl) ?_)))))))
  obtain ⟨y6,hy7,h⟩:=bOs h
  refine dL 1 [.slice Aa p0.length ca,vI u3.1,vI p1,.func (.func fid2) fst2.toArray caps2.toArray] (fun (_:Unit) => p0.length = y6.length) (fun _ => .tuple #[]) (fun _ => aJ Aa ca 3 1 p0.length (encL cI y6)) (fun _ => []) rfl rfl go_135 rfl (fun W2 hW2 => (fy p0 u3.1 p1 p2 y6 hy7 W2 _ (cA [R,aJ Aa ca 3 1 p0.length (encL cI p0)] [1]) Aa p0.length ca rfl fid2 fst2 caps2 hgo2 (fun W3 hb hR => hof2 W3 hb (hR.1 0 _ (by decide) rfl)) hW2).mono (fun e W3 h3 => ⟨(),h3.2.1,h3.1,h3.2.2⟩)) ?_
  rintro - hn8
  try dsimp only [lsz,lss,List.append_nil]
  refine oN (eT (cB ?_))
  obtain ⟨u11,hl13,h⟩:=bOs h
  refine bm (fun (s:(Int × Int × Int)) L tm => ∃ (tm0:Nat → Value),L = [R,aJ Aa ca 3 1 p0.length (encL cI y6)] ∧ tm = (upd (upd (upd (upd (upd (upd tm0 0 (.slice Aa p0.length ca)) 1 (vI p1)) 2 (.func (.func fid2) fst2.toArray caps2.toArray)) 6 (vI s.1)) 7 (vI s.2.1)) 8 (vI s.2.2))) 2 hl13 ⟨_,rfl,(kp4 (kp (kp rfl)))⟩ ?_ ?_
  ·rintro s10 L tm st ⟨tm0_s10,rfl,rfl⟩ h
   unfold ef at h
   refine cS (cS (cR (oY rfl (yMI rfl) (oY rfl (yMI rfl) (oY rfl (bB rfl rfl) (oN (eT ?_)))))))
   obtain ⟨hp12,h⟩:=gOs h
   refine cF (vB hp12) (aH (ai ?_))
   obtain rfl:=sI h
   exact aA ⟨rfl,_,rfl,(kp4 (kp (kp rfl)))⟩
  ·intro e L tm hJ
   obtain ⟨rfl,tm0_u11,rfl,rfl⟩:=hJ
   refine ⟨(by intro hc; cases hc),?_⟩
   refine ag ?_
   obtain rfl:=sI h
   exact bO (.inr rfl) rfl  (fun W2 hW2 => ⟨rfl,hn8,hW2.take 2⟩)
theorem fZ (p0:(List Int)) (p1:Int → Int → Option Int) (res:(List Int)) (h:cx p0 p1 = some res) (W:World) (w0:World) (R:Res) (Aa:Option Addr) (n0_0 ca : Nat) (hn0_0:n0_0 = p0.length) (fid1:Nat) (fst1 caps1 : List Value) (hgo1:bA Tryz.prog fid1 = true) (hof1:∀ W2,Below w0.heap.size w0 W2 → R.holds W2 → ∀ x0 x1,∀ y,p1 x0 x1 = some y → Calls Tryz.prog fid1 (fst1 ++ (([vI x0,vI x1] : List Value) ++ caps1)).toArray W2 fun e W3 => e = .returned (vI y) ∧ Ext W2 W3 []) (hW:Ext w0 W [R,aJ Aa ca 3 1 n0_0 (encL cI p0)]) :
  Calls Tryz.prog 82 [.slice Aa n0_0 ca,.func (.func fid1) fst1.toArray caps1.toArray].toArray W fun e W2 => e = .returned (.tuple #[]) ∧ n0_0 = res.length ∧ Ext w0 W2 [R,aJ Aa ca 3 1 n0_0 (encL cI res)]:=by
 subst hn0_0
 unfold cx at h
 refine aM (m:=9) Tryz.func82 rfl rfl (nB rfl) hW (cR (oY rfl (yMS rfl) (oY rfl (yMS rfl) (oY rfl (bu (us:=[]) dH rfl) (oY rfl (bF (v:=.func (.func fid1) fst1.toArray caps1.toArray) rfl) ?_)))))
 obtain ⟨y1,hy2,h⟩:=bOs h
 refine dL 1 [.slice Aa p0.length ca,vI (p0.length:Int),.func (.func fid1) fst1.toArray caps1.toArray] (fun (_:Unit) => p0.length = y1.length) (fun _ => .tuple #[]) (fun _ => aJ Aa ca 3 1 p0.length (encL cI y1)) (fun _ => []) rfl rfl go_116 rfl (fun W2 hW2 => (ig p0 (p0.length:Int) p1 y1 hy2 W2 _ (cA [R,aJ Aa ca 3 1 p0.length (encL cI p0)] [1]) Aa p0.length ca rfl fid1 fst1 caps1 hgo1 (fun W3 hb hR => hof1 W3 hb (hR.1 0 _ (by decide) rfl)) hW2).mono (fun e W3 h3 => ⟨(),h3.2.1,h3.1,h3.2.2⟩)) ?_
 rintro - hn3
 try dsimp only [lsz,lss,List.append_nil]
 refine oN ?_
 obtain rfl:=sI h
 exact bO (.inr rfl) rfl  (fun W2 hW2 => ⟨rfl,hn3,hW2.take 2⟩)
theorem kL (p0:Int) (p1:Int) (res:Int) (h:il p0 p1 = some res) (W:World)  :
  Calls Tryz.prog 84 [vI p0,vI p1].toArray W fun e W2 => e = .returned (vI res) ∧ Ext W W2 []:=by
 unfold il at h
 refine ac (m:=20) Tryz.func84 rfl rfl (nB rfl) (cS (cR (oY rfl (yAI rfl) (oN (eT (cS (cR (oY rfl (yMI rfl) ?_))))))))
 obtain ⟨y1,hy2,h⟩:=bOs h
 refine oY rfl (yC [vI p0] qG rfl (fun W2 hW2 => eX p0 y1 hy2 W2 ) rfl) (oY rfl (yAB rfl) (oN (eT (cS (cR (oY rfl (yMI rfl) ?_))))))
 obtain ⟨y3,hy4,h⟩:=bOs h
 refine oY rfl (yC [vI p1] qG rfl (fun W2 hW2 => eX p1 y3 hy4 W2 ) rfl) (oY rfl (yAB rfl) (oN (eT (cS (cS (cR (oY rfl (yMB rfl) (oN (eT ?_)))))))))
 rcases iOs h with ⟨hp5,h⟩ | ⟨hp5,h⟩
 ·refine cT (vB hp5) (cS (cS (cR (oY rfl (yMB rfl) (oN (eT ?_))))))
  rcases iOs h with ⟨hp6,h⟩ | ⟨hp6,h⟩
  ·refine cT (vB hp6) (cS (cR (oY rfl (yAI rfl) (oN (eT (am (aa (aa ?_))))))))
   obtain rfl:=sI h
   exact ao (.inl rfl) rfl (rVt (v:=vI 0) rfl) (fun W2 hW2 => ⟨rfl,hW2.none⟩)
  ·refine cF (vB hp6) (cK (eT (cS (cR (oY rfl (yAI rfl) (oN (eT (am (aa ?_)))))))))
   obtain rfl:=sI h
   exact ao (.inl rfl) rfl (rVt (v:=vI (-1)) rfl) (fun W2 hW2 => ⟨rfl,hW2.none⟩)
 ·refine cF (vB hp5) (cK (eT (cS (cS (cR (oY rfl (yMB rfl) (oN (eT ?_))))))))
  rcases iOs h with ⟨hp7,h⟩ | ⟨hp7,h⟩
  ·refine cT (vB hp7) (cS (cR (oY rfl (yAI rfl) (oN (eT (am (aa ?_)))))))
   obtain rfl:=sI h
   exact ao (.inl rfl) rfl (rVt (v:=vI 1) rfl) (fun W2 hW2 => ⟨rfl,hW2.none⟩)
  ·refine cF (vB hp7) (cK (eT (cS (cS (cR (oY rfl (yMI rfl) (oY rfl (yMI rfl) (oY rfl (bB rfl rfl) (oN (eT ?_))))))))))
   rcases iOs h with ⟨hp8,h⟩ | ⟨hp8,h⟩
   ·refine cT (vB hp8) (cS (cR (oY rfl (yAI rfl) (oN (eT (am (aa ?_)))))))
    obtain rfl:=sI h
    exact ao (.inl rfl) rfl (rVt (v:=vI (-1)) rfl) (fun W2 hW2 => ⟨rfl,hW2.none⟩)
   ·refine cF (vB hp8) (cK (eT (cS (cS (cR (oY rfl (yMI rfl) (oY rfl (yMI rfl) (oY rfl (ie rfl rfl) (oN (eT ?_))))))))))
    rcases iOs h with ⟨hp9,h⟩ | ⟨hp9,h⟩
    ·refine cT (vB hp9) (cS (cR (oY rfl (yAI rfl) (oN (eT (am (aa ?_)))))))
     obtain rfl:=sI h
     exact ao (.inl rfl) rfl (rVt (v:=vI 1) rfl) (fun W2 hW2 => ⟨rfl,hW2.none⟩)
    ·refine cF (vB hp9) (cK (eT (cS (cR (oY rfl (yAI rfl) (oN (eT (am ?_))))))))
     obtain rfl:=sI h
     exact ao (.inl rfl) rfl (rVt (v:=vI 0) rfl) (fun W2 hW2 => ⟨rfl,hW2.none⟩)
theorem m6 (p0:Int) (p1:Int) (cap0:TY) (res:Int) (h:iA p0 p1 cap0 = some res) (W:World) (bc0:Nat) (A100_0:Option Addr) (n100_0 c100_0 : Nat) (hn100_0:n100_0 = cap0.fB.length) (hr100_0:Rd W A100_0 n100_0 c100_0 (encL aC cap0.fB)) (A100_1:Option Addr) (n100_1 c100_1 : Nat) (hn100_1:n100_1 = cap0.fOrders.length) (hr100_1:Rd W A100_1 n100_1 c100_1 (encL ay cap0.fOrders)) (hcap0:Rd W (some ⟨bc0,0,none⟩) 1 1 [.slice A100_0 n100_0 c100_0,.slice A100_1 n100_1 c100_1]) :
  Calls Tryz.prog 83 [vI p0,vI p1,.pointer (some ⟨bc0,0,none⟩)].toArray W fun e W2 => e = .returned (vI res) ∧ Ext W W2 []:=by
 subst hn100_0
 subst hn100_1
 unfold iA at h
 refine ac (m:=19) Tryz.func83 rfl rfl (nB rfl) (cS (cR (oY rfl (yAI rfl) (oN (eT (cS ?_))))))
 refine bI 14 cQ (by kernel_rfl) (by kernel_rfl) ?_
 refine qY rfl (yFR (A:=(some ⟨bc0,0,none⟩)) (j:=0) cm rfl) (qY rfl (yR (A:=(some ⟨bc0,0,none⟩)) (j:=(0 + 1)) (v:=.slice A100_1 cap0.fOrders.length c100_1) gq (RdL.arg hcap0) rfl rfl) (qY rfl (yMI rfl) ?_))
 obtain ⟨hg1,h⟩:=gOs h
 refine qY rfl (yI jW (by decide) hg1.1 hg1.2 (RdL.arg hr100_1) (eL ap rfl) rfl rfl) ?_
 refine qY rfl (yFR (A:=A100_1) (j:=(Int.toNat p1 * 5)) iH rfl) (qY rfl (yR (A:=A100_1) (j:=((Int.toNat p1 * 5) + 4)) (v:=vI ((rdL cap0.fOrders p1).fW)) bc (RdL.arg hr100_1) rfl (eG ap hg1.1 (av hg1.2 rfl) rfl)) (qY rfl (yFR (A:=(some ⟨bc0,0,none⟩)) (j:=0) cm rfl) (qY rfl (yR (A:=(some ⟨bc0,0,none⟩)) (j:=(0 + 1)) (v:=.slice A100_1 cap0.fOrders.length c100_1) gq (RdL.arg hcap0) rfl rfl) (qY rfl (yMI rfl) ?_))))
 obtain ⟨hg2,h⟩:=gOs h
 refine qY rfl (yI jW (by decide) hg2.1 hg2.2 (RdL.arg hr100_1) (eL ap rfl) rfl rfl) ?_
 refine qY rfl (yFR (A:=A100_1) (j:=(Int.toNat p0 * 5)) iH rfl) (qY rfl (yR (A:=A100_1) (j:=((Int.toNat p0 * 5) + 4)) (v:=vI ((rdL cap0.fOrders p0).fW)) bc (RdL.arg hr100_1) rfl (eG ap hg2.1 (av hg2.2 rfl) rfl)) ?_)
 obtain ⟨y3,hy4,h⟩:=bOs h
 refine qY rfl (yC [vI ((rdL cap0.fOrders p1).fW),vI ((rdL cap0.fOrders p0).fW)] go_84 rfl (fun W2 hW2 => kL ((rdL cap0.fOrders p1).fW) ((rdL cap0.fOrders p0).fW) y3 hy4 W2 ) rfl) (qY rfl (yAI rfl) (dE (oN (eT (am ?_)))))
 obtain rfl:=sI h
 exact ao (.inl rfl) rfl (rVt (v:=vI y3) rfl) (fun W2 hW2 => ⟨rfl,hW2.none⟩)
theorem pd (p0:TO) (p1:TBay) (res:Bool) (h:iJ p0 p1 = some res) (W:World)  :
  Calls Tryz.prog 119 [.agg #[vI p0.fID,vI p0.fH.fLo,vI p0.fH.fHi,vI p0.fD,vI p0.fW],.agg #[vI p1.fID,vI p1.fHour,vI p1.fD]].toArray W fun e W2 => e = .returned (.bool res) ∧ Ext W W2 []:=by
 unfold iJ at h
 refine ac (m:=21) Tryz.func119 rfl rfl (nB rfl) (cS (cR ?_))
 refine aZ [vI p0.fID,vI p0.fH.fLo,vI p0.fH.fHi,vI p0.fD,vI p0.fW] rfl rfl rfl (fun b1 => ?_)
 refine aZ [vI p1.fID,vI p1.fHour,vI p1.fD] rfl rfl rfl (fun b2 => ?_)
 refine oY rfl (yAB rfl) (oN (eT (cS (cR (oY rfl (yFA oI rfl) (oY rfl (yL 1 bc rfl rfl rfl) (oY rfl (yFA gB rfl) (oY rfl (yFA fV rfl) (oY rfl (yL 0 bc rfl rfl rfl) (oY rfl (yFA gB rfl) (oY rfl (yFA eu rfl) (oY rfl (yL 0 bc rfl rfl rfl) ?_))))))))))))
 obtain ⟨y3,hy4,h⟩:=bOs h
 refine oY rfl (yC [vI p1.fHour,vI p0.fH.fLo,vI p0.fH.fHi] km rfl (fun W2 hW2 => ba p1.fHour p0.fH.fLo p0.fH.fHi y3 hy4 W2 ) rfl) (oY rfl (yMB rfl) ?_)
 refine oJ 6 (fun tm0 => (upd (upd tm0 4 (.bool false)) 20 (.bool (y3 && (decide (p0.fD ≤ p1.fD)))))) (fun tm0 => ?_) (fun key => ?_)
 ·refine oY rfl (yAB rfl) (oN (eT (am ?_)))
  obtain rfl:=sI h
  exact ao (.inl rfl) rfl (rVt (v:=.bool (y3 && (decide (p0.fD ≤ p1.fD)))) rfl) (fun W2 hW2 => ⟨rfl,hW2.none⟩)
 ·rcases aq y3 with hp5 | hp5
  ·refine oY (sT rfl rfl rfl rfl hp5) (yFA oU rfl) (oY (sT rfl rfl rfl rfl hp5) (yL 1 bc rfl rfl rfl) (oY (sT rfl rfl rfl rfl hp5) (yFA o8 rfl) (oY (sT rfl rfl rfl rfl hp5) (yL 0 bc rfl rfl rfl) (oY (sT rfl rfl rfl rfl hp5) (pg rfl rfl) (oY rfl (ad (vB hp5) rfl) ?_)))))
   exact key _ _ (keep (keep rfl rfl) (vB (ge hp5)))
  ·refine oSk (sF rfl rfl rfl rfl hp5) (oSk (sF rfl rfl rfl rfl hp5) (oSk (sF rfl rfl rfl rfl hp5) (oSk (sF rfl rfl rfl rfl hp5) (oSk (sF rfl rfl rfl rfl hp5) (oY rfl (ae (vB hp5) rfl) ?_)))))
   exact key _ _ (keep (keep rfl rfl) (vB (gc hp5)))
theorem ki : ∀ (fuel:Nat) (p0:Int) (cap0:TY) (cap1:(List (Int × Bool))) (cap2:(List (Int × Int))) (res:(Bool × (List (Int × Bool)) × (List (Int × Int)))) (h:bo fuel p0 cap0 cap1 cap2 = some res) (W:World) (w0:World) (R:Res) (bmc1:Nat) (bmc2:Nat) (bc0:Nat) (A100_0:Option Addr) (n100_0 c100_0 : Nat) (hn100_0:n100_0 = cap0.fB.length) (hr100_0:∀ W2,Below w0.heap.size w0 W2 → R.holds W2 → Rd W2 A100_0 n100_0 c100_0 (encL aC cap0.fB)) (A100_1:Option Addr) (n100_1 c100_1 : Nat) (hn100_1:n100_1 = cap0.fOrders.length) (hr100_1:∀ W2,Below w0.heap.size w0 W2 → R.holds W2 → Rd W2 A100_1 n100_1 c100_1 (encL ay cap0.fOrders)) (hcap0:∀ W2,Below w0.heap.size w0 W2 → R.holds W2 → Rd W2 (some ⟨bc0,0,none⟩) 1 1 [.slice A100_0 n100_0 c100_0,.slice A100_1 n100_1 c100_1]) (bc1:Nat) (hcap1:∀ W2,Below w0.heap.size w0 W2 → R.holds W2 → Rd W2 (some ⟨bc1,0,none⟩) 1 1 [.map (some bmc1)]) (bc2:Nat) (hcap2:∀ W2,Below w0.heap.size w0 W2 → R.holds W2 → Rd W2 (some ⟨bc2,0,none⟩) 1 1 [.map (some bmc2)]) (bc3:Nat) (hcap3:∀ W2,Below w0.heap.size w0 W2 → R.holds W2 → Rd W2 (some ⟨bc3,0,none⟩) 1 1 [.func (.func 118) #[] #[.pointer (some ⟨bc0,0,none⟩),.pointer (some ⟨bc1,0,none⟩),.pointer (some ⟨bc2,0,none⟩),.pointer (some ⟨bc3,0,none⟩)]]) (hW:Ext w0 W [R,mapV Tryz.prog 3 kI dW kB false bmc1 cap1,mapV Tryz.prog 3 kI dW kI 0 bmc2 cap2]),
  Calls Tryz.prog 118 [vI p0,.pointer (some ⟨bc0,0,none⟩),.pointer (some ⟨bc1,0,none⟩),.pointer (some ⟨bc2,0,none⟩),.pointer (some ⟨bc3,0,none⟩)].toArray W fun e W2 => ∃ x : Unit,True ∧ e = .returned (.bool res.1) ∧ Ext w0 W2 [R,mapV Tryz.prog 3 kI dW kB false bmc1 res.2.1,mapV Tryz.prog 3 kI dW kI 0 bmc2 res.2.2]:=by
 intro fuel
 induction fuel with
 | zero => intro p0 cap0 cap1 cap2 res h W w0 R bmc1 bmc2 bc0 A100_0 n100_0 c100_0 hn100_0 hr100_0 A100_1 n100_1 c100_1 hn100_1 hr100_1 hcap0 bc1 hcap1 bc2 hcap2 bc3 hcap3 hW; exact absurd h (by unfold bo; exact fun h => by cases h)
 | succ fuel ih =>
  intro p0 cap0 cap1 cap2 res h W w0 R bmc1 bmc2 bc0 A100_0 n100_0 c100_0 hn100_0 hr100_0 A100_1 n100_1 c100_1 hn100_1 hr100_1 hcap0 bc1 hcap1 bc2 hcap2 bc3 hcap3 hW
  subst hn100_0
  subst hn100_1
  change dP (bo fuel) p0 cap0 cap1 cap2 = some res at h
  unfold dP at h
  refine aM (m:=51) Tryz.func118 rfl rfl (nB rfl) hW (cS (cR (oY rfl (yAB rfl) (oN (eT (cx_scope (cS (cx_label (eT (cS (cS (cR (oY rfl (yFR (A:=(some ⟨bc0,0,none⟩)) (j:=0) ei rfl) (oY rfl (yR (A:=(some ⟨bc0,0,none⟩)) (j:=(0 + 0)) (v:=.slice A100_0 cap0.fB.length c100_0) jY (RdL.under hcap0) rfl rfl) (oY rfl (bu (us:=[]) jt rfl) (oY rfl (yMI rfl) (oN (eT (cB ?_)))))))))))))))))))
  obtain ⟨u4,hl24,h⟩:=bOs h
  refine bT (fun (s:(Bool × Int × (List (Int × Bool)) × (List (Int × Int)))) L tm => ∃ (tm0:Nat → Value),L = [R,mapV Tryz.prog 3 kI dW kB false bmc1 s.2.2.1,mapV Tryz.prog 3 kI dW kI 0 bmc2 s.2.2.2] ∧ tm = (upd (upd (upd (upd (upd (upd (upd (upd (upd tm0 0 (vI p0)) 1 (slA (some ⟨bc0,0,none⟩) 0)) 2 (slA (some ⟨bc1,0,none⟩) 0)) 3 (slA (some ⟨bc2,0,none⟩) 0)) 4 (slA (some ⟨bc3,0,none⟩) 0)) 6 (.bool s.1)) 12 (.slice A100_0 cap0.fB.length c100_0)) 13 (vI (cap0.fB.length:Int))) 14 (vI s.2.1))) 0 hl24 ⟨_,rfl,(kp4 (kp4 (kp rfl)))⟩ ?_ ?_
  ·rintro s3 L tm st ⟨tm0_s3,rfl,rfl⟩ h
   unfold bQ at h
   refine cS (cR (oY rfl (bB rfl rfl) (oN (eT (cS ?_)))))
   rcases iOs h with ⟨hp5,h⟩ | ⟨hp5,h⟩
   ·refine cT (vB hp5) (cK (eT (cS (cB (cS (cR (oY rfl (yMI rfl) ?_)))))))
    obtain ⟨hg6,h⟩:=gOs h
    refine oY rfl (yI lL (by decide) hg6.1 hg6.2 (RdL.under hr100_0) (eL aL rfl) rfl rfl) ?_
    refine oY rfl (yM (A:=A100_0) (j:=(Int.toNat s3.2.1 * 3)) [vI ((rdL cap0.fB s3.2.1).fID),vI ((rdL cap0.fB s3.2.1).fHour),vI ((rdL cap0.fB s3.2.1).fD)] tI (Nat.succ_pos _) (RdL.under hr100_0) rfl (bh aL hg6.1 (av hg6.2 rfl))) ?_
    refine aB nP rfl (fun b7 => ?_)
    refine oY rfl (yAI rfl) (ck rfl (yS 3 [vI ((rdL cap0.fB s3.2.1).fID),vI ((rdL cap0.fB s3.2.1).fHour),vI ((rdL cap0.fB s3.2.1).fD)] sz_94 rfl (nB rfl) rfl rfl rfl) (oN (eT (cS (cS ?_)))))
    refine bI 13 cQ (by kernel_rfl) (by kernel_rfl) ?_
    refine qY rfl (yR (A:=(some ⟨bc1,0,none⟩)) (j:=0) (v:=.map (some bmc1)) sc_179 (RdL.under hcap1) rfl rfl) (qY rfl (yMI rfl) ?_)
    obtain ⟨hg8,h⟩:=gOs h
    refine qY rfl (jx (k:=s3.2.1) (MpL.own 1 rfl) ke_3 um_179 ze_4 rfl rfl hg8) (qY rfl (yMB rfl) ?_)
    obtain ⟨b10,hb11,h⟩:=bOs h
    refine qJ 9 (fun tm0 => (upd (upd (upd (upd (upd (upd (upd (upd (upd (upd (upd (upd (upd tm0 0 (vI p0)) 1 (slA (some ⟨bc0,0,none⟩) 0)) 2 (slA (some ⟨bc1,0,none⟩) 0)) 3 (slA (some ⟨bc2,0,none⟩) 0)) 4 (slA (some ⟨bc3,0,none⟩) 0)) 6 (.bool s3.1)) 12 (.slice A100_0 cap0.fB.length c100_0)) 13 (vI (cap0.fB.length:Int))) 14 (vI s3.2.1)) 15 (.bool (decide (s3.2.1 < (cap0.fB.length:Int))))) 8 (.pointer (some ⟨b7,0,none⟩))) 7 (vI s3.2.1)) 31 (.bool b10))) (fun tm0 => ?_) (fun key => ?_)
    ·refine dE (oN (eT ?_))
     rcases iOs h with ⟨hp12,h⟩ | ⟨hp12,h⟩
     ·refine cT (vB hp12) (aH (ai (ag (eT (cR (oY rfl (be rfl rfl) (oY rfl (yMI rfl) (oN (aY 3 ?_)))))))))
      obtain rfl:=sI h
      exact eN ⟨_,rfl,(kp4 (kp4 (kp rfl)))⟩
     ·refine cF (vB hp12) (cK (eT (cS (cR (oY rfl (yR (A:=(some ⟨bc1,0,none⟩)) (j:=0) (v:=.map (some bmc1)) sc_179 (RdL.under hcap1) rfl rfl) (oY rfl (yMI rfl) ?_))))))
      obtain ⟨hg13,h⟩:=gOs h
      refine ck rfl (jS 1 (k:=s3.2.1) (v:=true) rfl ke_3 um_179 rfl rfl rfl hg13) (oN (eT (cS (cR (oY rfl (yR (A:=(some ⟨bc2,0,none⟩)) (j:=0) (v:=.map (some bmc2)) rn (RdL.under hcap2) rfl rfl) (oY rfl (yMI rfl) ?_))))))
      obtain ⟨hg14,h⟩:=gOs h
      refine oY rfl (lG (k:=s3.2.1) (MpL.own 2 rfl) ke_3 pm lX rfl rfl hg14) (oY rfl (aI rfl) (oY rfl (yE rfl rfl) (oY rfl (yE rfl rfl) (oY rfl (yAI rfl) (oY rfl (yAB rfl) (oN (eT (cS (cR (oY rfl (yMB rfl) (oY rfl (cr rfl) (oY rfl (yMB rfl) ?_))))))))))))
      rcases iOs h with ⟨hp15,h⟩ | ⟨hp15,h⟩
      ·refine oSk (sF rfl rfl rfl rfl hp15) (oSk (sF rfl rfl rfl rfl hp15) (oSk (sF rfl rfl rfl rfl hp15) (oY rfl (ad (vB hp15) rfl) (oN (eT (cT rfl (cS (cR (oY rfl (yR (A:=(some ⟨bc2,0,none⟩)) (j:=0) (v:=.map (some bmc2)) rn (RdL.under hcap2) rfl rfl) (oY rfl (yMI rfl) (oY rfl (yMI rfl) ?_)))))))))))
       obtain ⟨hg16,h⟩:=gOs h
       refine ck rfl (jS 2 (k:=s3.2.1) (v:=p0) rfl ke_3 pm rfl rfl rfl hg16) (oN (eT (cS (cR (oY rfl (yAB rfl) (oN (eT (am (al (aa (aY 3 ?_)))))))))))
       obtain rfl:=sI h
       exact aA ⟨rfl,_,rfl,(kp4 (kp4 (kp rfl)))⟩
      ·refine oY (sT rfl rfl rfl rfl hp15) (yR (A:=(some ⟨bc3,0,none⟩)) (j:=0) (v:=.func (.func 118) #[] #[.pointer (some ⟨bc0,0,none⟩),.pointer (some ⟨bc1,0,none⟩),.pointer (some ⟨bc2,0,none⟩),.pointer (some ⟨bc3,0,none⟩)]) sc_81 (RdL.under hcap3) rfl rfl) (oY (sT rfl rfl rfl rfl hp15) (yMI rfl) ?_)
       obtain ⟨y17,hy18,h⟩:=bOs h
       refine fQ [1,2] [] [vI (aw 0 s3.2.2.2 s3.2.1)] [.pointer (some ⟨bc0,0,none⟩),.pointer (some ⟨bc1,0,none⟩),.pointer (some ⟨bc2,0,none⟩),.pointer (some ⟨bc3,0,none⟩)] (fun (_:Unit) => True) (fun _ => .bool y17.1) (fun _ => [mapV Tryz.prog 3 kI dW kB false bmc1 y17.2.1,mapV Tryz.prog 3 kI dW kI 0 bmc2 y17.2.2]) (fun _ => []) (Foc.c2 rfl rfl) (by decide) (sT rfl rfl rfl rfl hp15) go_118 rfl rfl (fun _ => rfl) (fun W2 hW2 => ih (aw 0 s3.2.2.2 s3.2.1) cap0 ((s3.2.1,true) :: s3.2.2.1) s3.2.2.2 y17 hy18 W2 _ (cA [R,mapV Tryz.prog 3 kI dW kB false bmc1 ((s3.2.1,true) :: s3.2.2.1),mapV Tryz.prog 3 kI dW kI 0 bmc2 s3.2.2.2,ah b7 94 [vI ((rdL cap0.fB s3.2.1).fID),vI ((rdL cap0.fB s3.2.1).fHour),vI ((rdL cap0.fB s3.2.1).fD)]] [1,2]) bmc1 bmc2 bc0 A100_0 cap0.fB.length c100_0 rfl (fun W3 hb hR => (RdL.under hr100_0) W3 (hW2.restL hb hR)) A100_1 cap0.fOrders.length c100_1 rfl (fun W3 hb hR => (RdL.under hr100_1) W3 (hW2.restL hb hR)) (fun W3 hb hR => (RdL.under hcap0) W3 (hW2.restL hb hR)) bc1 (fun W3 hb hR => (RdL.under hcap1) W3 (hW2.restL hb hR)) bc2 (fun W3 hb hR => (RdL.under hcap2) W3 (hW2.restL hb hR)) bc3 (fun W3 hb hR => (RdL.under hcap3) W3 (hW2.restL hb hR)) hW2) ?_
       rintro - -
       try dsimp only [kJ,lsz,lss,List.append_nil]
       refine oY rfl (ae (vB hp15) rfl) (oN (eT ?_))
       rcases iOs h with ⟨hp19,h⟩ | ⟨hp19,h⟩
       ·refine cT (vB hp19) (cS (cR (oY rfl (yR (A:=(some ⟨bc2,0,none⟩)) (j:=0) (v:=.map (some bmc2)) rn (RdL.under hcap2) rfl rfl) (oY rfl (yMI rfl) (oY rfl (yMI rfl) ?_)))))
        obtain ⟨hg20,h⟩:=gOs h
        refine ck rfl (jS 2 (k:=s3.2.1) (v:=p0) rfl ke_3 pm rfl rfl rfl hg20) (oN (eT (cS (cR (oY rfl (yAB rfl) (oN (eT (am (al (aa (aY 3 ?_)))))))))))
        obtain rfl:=sI h
        exact aA ⟨rfl,_,rfl,(kp4 (kp4 (kp rfl)))⟩
       ·refine cF (vB hp19) (cK (az (eT (cR (oY rfl (be rfl rfl) (oY rfl (yMI rfl) (oN (aY 3 ?_))))))))
        obtain rfl:=sI h
        exact eN ⟨_,rfl,(kp4 (kp4 (kp rfl)))⟩
    ·clear h; rcases iOs hb11 with ⟨hp9,h⟩ | ⟨hp9,h⟩
     ·refine aF (sF rfl rfl rfl rfl hp9) (aF (sF rfl rfl rfl rfl hp9) (aF (sF rfl rfl rfl rfl hp9) (aF (sF rfl rfl rfl rfl hp9) (aF (sF rfl rfl rfl rfl hp9) (aF (sF rfl rfl rfl rfl hp9) (aF (sF rfl rfl rfl rfl hp9) (aF (sF rfl rfl rfl rfl hp9) (qY rfl (ad (vB hp9) rfl) ?_))))))))
      obtain rfl:=sI h
      exact key _ _ (kp4 (kp4 (kp4 (kp rfl))))
     ·refine qY (sT rfl rfl rfl rfl hp9) (yFR (A:=(some ⟨bc0,0,none⟩)) (j:=0) cm rfl) (qY (sT rfl rfl rfl rfl hp9) (yR (A:=(some ⟨bc0,0,none⟩)) (j:=(0 + 1)) (v:=.slice A100_1 cap0.fOrders.length c100_1) gq (RdL.under hcap0) rfl rfl) (qY (sT rfl rfl rfl rfl hp9) (yMI rfl) ?_))
      obtain ⟨hg21,h⟩:=gOs h
      refine qY (sT rfl rfl rfl rfl hp9) (yI jW (by decide) hg21.1 hg21.2 (RdL.under hr100_1) (eL ap rfl) rfl rfl) ?_
      refine qY (sT rfl rfl rfl rfl hp9) (yM (A:=A100_1) (j:=(Int.toNat p0 * 5)) [vI ((rdL cap0.fOrders p0).fID),vI ((rdL cap0.fOrders p0).fH.fLo),vI ((rdL cap0.fOrders p0).fH.fHi),vI ((rdL cap0.fOrders p0).fD),vI ((rdL cap0.fOrders p0).fW)] pP (Nat.succ_pos _) (RdL.under hr100_1) rfl (bh ap hg21.1 (av hg21.2 rfl))) (qY (sT rfl rfl rfl rfl hp9) (yN 3 [vI ((rdL cap0.fB s3.2.1).fID),vI ((rdL cap0.fB s3.2.1).fHour),vI ((rdL cap0.fB s3.2.1).fD)] tI rfl rfl rfl) ?_)
      obtain ⟨y22,hy23,h⟩:=bOs h
      refine qY (sT rfl rfl rfl rfl hp9) (yC [.agg #[vI ((rdL cap0.fOrders p0).fID),vI ((rdL cap0.fOrders p0).fH.fLo),vI ((rdL cap0.fOrders p0).fH.fHi),vI ((rdL cap0.fOrders p0).fD),vI ((rdL cap0.fOrders p0).fW)],.agg #[vI ((rdL cap0.fB s3.2.1).fID),vI ((rdL cap0.fB s3.2.1).fHour),vI ((rdL cap0.fB s3.2.1).fD)]] go_119 rfl (fun W2 hW2 => pd (TO.mk ((rdL cap0.fOrders p0).fID) (TSpan.mk ((rdL cap0.fOrders p0).fH.fLo) ((rdL cap0.fOrders p0).fH.fHi)) ((rdL cap0.fOrders p0).fD) ((rdL cap0.fOrders p0).fW)) (TBay.mk ((rdL cap0.fB s3.2.1).fID) ((rdL cap0.fB s3.2.1).fHour) ((rdL cap0.fB s3.2.1).fD)) y22 hy23 W2 ) rfl) (qY (sT rfl rfl rfl rfl hp9) (cr rfl) (qY rfl (ae (vB hp9) rfl) ?_))
      obtain rfl:=sI h
      exact key _ _ (kp4 (kp4 (kp4 (kp rfl))))
   ·refine cF (vB hp5) (aH (ai ?_))
    obtain rfl:=sI h
    exact aA ⟨rfl,_,rfl,(kp4 (kp4 (kp rfl)))⟩
  ·intro e L tm hJ
   rcases u4 with u25 | u26
   ·dsimp only at h hJ
    obtain ⟨rfl,tm0_u25,rfl,rfl⟩:=hJ
    refine ⟨(by intro hc; cases hc),?_⟩
    refine al (aa (l6 ?_))
    obtain rfl:=sI h
    exact ao (.inl rfl) rfl (rVt (v:=.bool u25.1) rfl) (fun W2 hW2 => ⟨(),trivial,rfl,hW2.take 3⟩)
   ·dsimp only at h hJ
    obtain ⟨rfl,tm0_u26,rfl,rfl⟩:=hJ
    refine ⟨(by intro hc; cases hc),?_⟩
    refine ag (eT (cS (cR (oY rfl (yAB rfl) (oN (eT (am (l6 ?_))))))))
    obtain rfl:=sI h
    exact ao (.inl rfl) rfl (rVt (v:=.bool false) rfl) (fun W2 hW2 => ⟨(),trivial,rfl,hW2.take 3⟩)
theorem iv (p0:(List (Int × Int))) (p1:TY) (p2:Int) (res:(Bool × (List (Int × Int)))) (h:fC p0 p1 p2 = some res) (W:World) (w0:World) (R:Res) (bm0:Nat) (Ac:Option Addr) (n1_0 cc : Nat) (hn1_0:n1_0 = p1.fB.length) (hr1_0:∀ W2,Below w0.heap.size w0 W2 → R.holds W2 → Rd W2 Ac n1_0 cc (encL aC p1.fB)) (A1_1:Option Addr) (n1_1 c1_1 : Nat) (hn1_1:n1_1 = p1.fOrders.length) (hr1_1:∀ W2,Below w0.heap.size w0 W2 → R.holds W2 → Rd W2 A1_1 n1_1 c1_1 (encL ay p1.fOrders)) (hW:Ext w0 W [R,mapV Tryz.prog 3 kI dW kI 0 bm0 p0]) :
  Calls Tryz.prog 85 [.map (some bm0),.agg #[.slice Ac n1_0 cc,.slice A1_1 n1_1 c1_1],vI p2].toArray W fun e W2 => ∃ x : Unit,True ∧ e = .returned (.bool res.1) ∧ Ext w0 W2 [R,mapV Tryz.prog 3 kI dW kI 0 bm0 res.2]:=by
 subst hn1_0
 subst hn1_1
 unfold fC at h
 refine aM (m:=14) Tryz.func85 rfl rfl (nB rfl) hW (cS (cR ?_))
 refine aZ [.map (some bm0)] rfl rfl rfl (fun b1 => ?_)
 refine aZ [.slice Ac p1.fB.length cc,.slice A1_1 p1.fOrders.length c1_1] rfl rfl rfl (fun b2 => ?_)
 refine oY rfl (yAB rfl) (oN (eT (cS (cR ?_))))
 refine iZ 3 kI dW kB false rfl (fun b3 => ?_)
 refine aB ze_179 rfl (fun b4 => ?_)
 try dsimp only [lna,lca,lsz,lss]
 refine ck rfl (dt 5 (v:=.map (some b3)) sz_179 rfl (Nat.lt_of_lt_of_le (Nat.lt_succ_self _) (nB rfl)) rfl rfl rfl) (oN (eT (cS (cR ?_))))
 refine aB ze_81 rfl (fun b5 => ?_)
 try dsimp only [lna,lca,lsz,lss]
 refine oN (eT (cS (cR (oY rfl (ct [.pointer (some ⟨b2,0,none⟩),.pointer (some ⟨b4,0,none⟩),.pointer (some ⟨b1,0,none⟩),.pointer (some ⟨b5,0,none⟩)] rfl rfl) (ck rfl (dt 6 (v:=.func (.func 118) #[] #[.pointer (some ⟨b2,0,none⟩),.pointer (some ⟨b4,0,none⟩),.pointer (some ⟨b1,0,none⟩),.pointer (some ⟨b5,0,none⟩)]) sz_81 rfl (Nat.lt_of_lt_of_le (Nat.lt_succ_self _) (nB rfl)) rfl rfl rfl) (oN (eT (cS (cR (oY rfl (yL 6 sc_81 rfl rfl rfl) (oY rfl (yMI rfl) ?_)))))))))))
 obtain ⟨y6,hy7,h⟩:=bOs h
 refine fQ [4,1] [] [vI p2] [.pointer (some ⟨b2,0,none⟩),.pointer (some ⟨b4,0,none⟩),.pointer (some ⟨b1,0,none⟩),.pointer (some ⟨b5,0,none⟩)] (fun (_:Unit) => True) (fun _ => .bool y6.1) (fun _ => [mapV Tryz.prog 3 kI dW kB false b3 y6.2.1,mapV Tryz.prog 3 kI dW kI 0 bm0 y6.2.2]) (fun _ => []) (Foc.c2 rfl rfl) (by decide) rfl go_118 rfl rfl (fun _ => rfl) (fun W2 hW2 => ki (p1.fB.length + 2) p2 p1 [] p0 y6 hy7 W2 _ (cA [R,mapV Tryz.prog 3 kI dW kI 0 bm0 p0,ah b1 107 [.map (some bm0)],ah b2 57 [.slice Ac p1.fB.length cc,.slice A1_1 p1.fOrders.length c1_1],mapV Tryz.prog 3 kI dW kB false b3 [],ah b4 179 [.map (some b3)],ah b5 81 [.func (.func 118) #[] #[.pointer (some ⟨b2,0,none⟩),.pointer (some ⟨b4,0,none⟩),.pointer (some ⟨b1,0,none⟩),.pointer (some ⟨b5,0,none⟩)]]] [4,1]) b3 bm0 b2 Ac p1.fB.length cc rfl (fun W3 hb hR => (RdL.under hr1_0) W3 (hW2.restL hb hR)) A1_1 p1.fOrders.length c1_1 rfl (fun W3 hb hR => (RdL.under hr1_1) W3 (hW2.restL hb hR)) (fun W3 hb hR => (RdL.cells 3 rfl) W3 (hW2.restL hb hR)) b4 (fun W3 hb hR => (RdL.cells 5 rfl) W3 (hW2.restL hb hR)) b1 (fun W3 hb hR => (RdL.cells 2 rfl) W3 (hW2.restL hb hR)) b5 (fun W3 hb hR => (RdL.cells 6 rfl) W3 (hW2.restL hb hR)) hW2) ?_
 rintro - -
 try dsimp only [kJ,lsz,lss,List.append_nil]
 refine oY rfl (yAB rfl) (oN (eT (am ?_)))
 obtain rfl:=sI h
 exact ao (.inl rfl) rfl (rVt (v:=.bool y6.1) rfl) (fun W2 hW2 => ⟨(),trivial,rfl,hW2.take 2⟩)
end Go.Proofs.YthndghnkebboaabGreat
