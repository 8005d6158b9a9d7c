import Derived.Test.YthndghnkebboaabGreatF
import Derived.Test.YthndghnkebboaabGreatGD
import Derived.Test.YthndghnkebboaabGreatC5
import Derived.Test.YthndghnkebboaabGreatC0
import Derived.Test.YthndghnkebboaabGreatC3
import Derived.Test.YthndghnkebboaabGreatC8
set_option maxHeartbeats 4000000
set_option maxRecDepth 100000
set_option linter.unusedVariables false
namespace Go.Proofs.YthndghnkebboaabGreat
open Go.RowKit (Below)
attribute [local irreducible] OX QX CX EX OpY Calls CallsIn
theorem jZ (p0:(List TSpan)) (res:Bool) (h:fj p0 = some res) (W:World) (Aa:Option Addr) (n0_0 ca : Nat) (hn0_0:n0_0 = p0.length) (hr0_0:Rd W Aa n0_0 ca (encL TSpan_cells p0)) :
  Calls Tryz.prog 40 [.slice Aa n0_0 ca].toArray W fun e W2 => e = .returned (.bool res) ∧ Ext W W2 []:=by
 subst hn0_0
 unfold fj at h
 refine ad (m:=66) Tryz.func40 rfl rfl (nB rfl) (cS (cR (oY rfl (yAB rfl) (oN (eT (cS (cS (cR (oY rfl (yMS rfl) (oY rfl (bd (us:=[]) eg rfl) (oY rfl (eI rfl rfl) (oN (eT ?_)))))))))))))
 rcases iOs h with ⟨hp1,h⟩ | ⟨hp1,h⟩
 ·refine cT (vB hp1) (cS (cR (oY rfl (yAB rfl) (oN (eT (al (aa ?_)))))))
  obtain rfl:=sI h
  exact ap (.inl rfl) rfl (rVt (v:=.bool false) rfl) (fun W2 hW2 => ⟨rfl,hW2.none⟩)
 ·refine cF (vB hp1) (cK (eT (cS (cS (cR (oY rfl (yAI rfl) (oN (eT (cB ?_)))))))))
  obtain ⟨u4,hl27,h⟩:=bOs h
  refine bB (fun (s:(Bool × Int)) L tm => ∃ (tm0:Nat → Value),L = [] ∧ tm = (upd (upd (upd tm0 0 (.slice Aa p0.length ca)) 2 (.bool s.1)) 3 (vI s.2))) 0 hl27 ⟨_,rfl,(kp (kp (kp rfl)))⟩ ?_ ?_
  ·rintro s3 L tm st ⟨tm0_s3,rfl,rfl⟩ h
   unfold di at h
   refine cS (cS (cR (oY rfl (yMI rfl) (oY rfl (yMS rfl) (oY rfl (bd (us:=[]) eg rfl) (oY rfl (bm rfl rfl) (oN (eT ?_))))))))
   rcases iOs h with ⟨hp5,h⟩ | ⟨hp5,h⟩
   ·refine cT (vB hp5) (cK (eT (cS (cB (cS (cR (oY rfl (yMS rfl) (oY rfl (yMI rfl) ?_))))))))
    obtain ⟨hg6,h⟩:=gOs h
    refine oY rfl (yI fc (by decide) hg6.1 hg6.2 (RdL.arg hr0_0) (eL ab rfl) rfl rfl) ?_
    refine oY rfl (yFR (A:=Aa) (j:=(Int.toNat s3.2 * 2)) co rfl) (oY rfl (yR (A:=Aa) (j:=((Int.toNat s3.2 * 2) + 0)) (v:=vI ((rdL p0 s3.2).fLo)) aV (RdL.arg hr0_0) rfl (eG ab hg6.1 (av hg6.2 rfl) rfl)) ?_)
    obtain ⟨y7,hy8,h⟩:=bOs h
    refine oY rfl (yC [vI ((rdL p0 s3.2).fLo)] oP rfl (fun W2 hW2 => cC ((rdL p0 s3.2).fLo) y7 hy8 W2 ) rfl) (oY rfl (yAB rfl) (oN (eT (cS (cR (oY rfl (yMS rfl) (oY rfl (yMI rfl) ?_)))))))
    obtain ⟨hg9,h⟩:=gOs h
    refine oY rfl (yI fc (by decide) hg9.1 hg9.2 (RdL.arg hr0_0) (eL ab rfl) rfl rfl) ?_
    refine oY rfl (yFR (A:=Aa) (j:=(Int.toNat s3.2 * 2)) bL rfl) (oY rfl (yR (A:=Aa) (j:=((Int.toNat s3.2 * 2) + 1)) (v:=vI ((rdL p0 s3.2).fHi)) aV (RdL.arg hr0_0) rfl (eG ab hg9.1 (av hg9.2 rfl) rfl)) ?_)
    obtain ⟨y10,hy11,h⟩:=bOs h
    refine oY rfl (yC [vI ((rdL p0 s3.2).fHi)] oP rfl (fun W2 hW2 => cC ((rdL p0 s3.2).fHi) y10 hy11 W2 ) rfl) (oY rfl (yAB rfl) (oN (eT (cS ?_))))
    refine ba 39 cm (by kernel_rfl) (by kernel_rfl) ?_
    refine qY rfl (yMB rfl) (qY rfl (bM rfl) (qY rfl (yMB rfl) ?_))
    refine qJ 3 (fun tm0 => (upd (upd (upd (upd (upd (upd (upd tm0 0 (.slice Aa p0.length ca)) 2 (.bool s3.1)) 3 (vI s3.2)) 12 (.bool (decide (s3.2 < (p0.length:Int))))) 4 (.bool y7)) 5 (.bool y10)) 32 (.bool ((!y7) || (!y10))))) (fun tm0 => ?_) (fun key => ?_)
    ·refine qY rfl (yMB rfl) ?_
     obtain ⟨b14,hb15,h⟩:=bOs h
     refine qJ 12 (fun tm0 => (upd (upd (upd (upd (upd (upd (upd tm0 0 (.slice Aa p0.length ca)) 2 (.bool s3.1)) 3 (vI s3.2)) 12 (.bool (decide (s3.2 < (p0.length:Int))))) 4 (.bool y7)) 5 (.bool y10)) 45 (.bool b14))) (fun tm0 => ?_) (fun key => ?_)
     ·refine qY rfl (yMB rfl) ?_
      obtain ⟨b17,hb18,h⟩:=bOs h
      refine qJ 19 (fun tm0 => (upd (upd (upd (upd (upd (upd (upd tm0 0 (.slice Aa p0.length ca)) 2 (.bool s3.1)) 3 (vI s3.2)) 12 (.bool (decide (s3.2 < (p0.length:Int))))) 4 (.bool y7)) 5 (.bool y10)) 65 (.bool b17))) (fun tm0 => ?_) (fun key => ?_)
      ·refine bX (oN (eT ?_))
       rcases iOs h with ⟨hp19,h⟩ | ⟨hp19,h⟩
       ·refine cT (vB hp19) (cS (cR (oY rfl (yAB rfl) (oN (eT (al (ai (aa ?_))))))))
        obtain rfl:=sI h
        exact ax ⟨rfl,_,rfl,(kp (kp (kp rfl)))⟩
       ·refine cF (vB hp19) (cK (aw (eT (cR (oY rfl (yMI rfl) (oY rfl (aX rfl rfl) (oY rfl (yAI rfl) (oN ?_))))))))
        obtain rfl:=sI h
        exact eN ⟨_,rfl,(kp (kp (kp rfl)))⟩
      ·clear h; rcases iOs hb18 with ⟨hp16,h⟩ | ⟨hp16,h⟩
       ·refine am (sF rfl rfl rfl rfl hp16) (am (sF rfl rfl rfl rfl hp16) (am (sF rfl rfl rfl rfl hp16) (am rfl (am rfl (am rfl (am rfl (am rfl (am rfl (am rfl (am rfl (am rfl (am rfl (am rfl (am rfl (am rfl (am rfl (am (sF rfl rfl rfl rfl hp16) (qY rfl (ae (vB hp16) rfl) ?_))))))))))))))))))
        obtain rfl:=sI h
        exact key _ _ (kp4 (kp (kp (kp rfl))))
       ·refine qY (sT rfl rfl rfl rfl hp16) (yMI rfl) (qY (sT rfl rfl rfl rfl hp16) (eI rfl rfl) (qY (sT rfl rfl rfl rfl hp16) (yMB rfl) ?_))
        obtain ⟨b21,hb22,h⟩:=bOs h
        refine qJ 15 (fun tm0 => (upd (upd (upd (upd (upd (upd (upd (upd tm0 0 (.slice Aa p0.length ca)) 2 (.bool s3.1)) 3 (vI s3.2)) 12 (.bool (decide (s3.2 < (p0.length:Int))))) 4 (.bool y7)) 5 (.bool y10)) 46 (.bool b14)) 64 (.bool b21))) (fun tm0 => ?_) (fun key => ?_)
        ·refine qY rfl (ag (vB hp16) rfl) ?_
         obtain rfl:=sI h
         exact key _ _ (kp4 (kp (kp (kp rfl))))
        ·clear h; rcases iOs hb22 with ⟨hp20,h⟩ | ⟨hp20,h⟩
         ·refine qY (sT rfl rfl rfl rfl hp20) (yMS rfl) (qY (sT rfl rfl rfl rfl hp20) (yMI rfl) ?_)
          obtain ⟨hg23,h⟩:=gOs h
          refine qY (sT rfl rfl rfl rfl hp20) (yI fc (by decide) hg23.1 hg23.2 (RdL.arg hr0_0) (eL ab rfl) rfl rfl) ?_
          refine qY (sT rfl rfl rfl rfl hp20) (yFR (A:=Aa) (j:=(Int.toNat s3.2 * 2)) co rfl) (qY (sT rfl rfl rfl rfl hp20) (yR (A:=Aa) (j:=((Int.toNat s3.2 * 2) + 0)) (v:=vI ((rdL p0 s3.2).fLo)) aV (RdL.arg hr0_0) rfl (eG ab hg23.1 (av hg23.2 rfl) rfl)) (qY (sT rfl rfl rfl rfl hp20) (yMS rfl) (qY (sT rfl rfl rfl rfl hp20) (yMI rfl) (qY (sT rfl rfl rfl rfl hp20) (dV rfl rfl) (qY (sT rfl rfl rfl rfl hp20) (y_max rfl rfl) ?_)))))
          obtain ⟨hg24,h⟩:=gOs h
          refine qY (sT rfl rfl rfl rfl hp20) (yI fc (by decide) hg24.1 hg24.2 (RdL.arg hr0_0) (eL ab rfl) rfl rfl) ?_
          refine qY (sT rfl rfl rfl rfl hp20) (yFR (A:=Aa) (j:=(Int.toNat (max 0 (w64 (s3.2 - 1))) * 2)) bL rfl) (qY (sT rfl rfl rfl rfl hp20) (yR (A:=Aa) (j:=((Int.toNat (max 0 (w64 (s3.2 - 1))) * 2) + 1)) (v:=vI ((rdL p0 (max 0 (w64 (s3.2 - 1)))).fHi)) aV (RdL.arg hr0_0) rfl (eG ab hg24.1 (av hg24.2 rfl) rfl)) (qY (sT rfl rfl rfl rfl hp20) (aX rfl rfl) (qY (sT rfl rfl rfl rfl hp20) (bm rfl rfl) (qY (sT rfl rfl rfl rfl hp16) (ae (vB hp20) rfl) ?_))))
          obtain rfl:=sI h
          exact key _ _ (kp4 (kp4 rfl))
         ·refine am (sF rfl rfl rfl rfl hp20) (am (sF rfl rfl rfl rfl hp20) (am (sF rfl rfl rfl rfl hp20) (am (sF rfl rfl rfl rfl hp20) (am (sF rfl rfl rfl rfl hp20) (am (sF rfl rfl rfl rfl hp20) (am (sF rfl rfl rfl rfl hp20) (am (sF rfl rfl rfl rfl hp20) (am (sF rfl rfl rfl rfl hp20) (am (sF rfl rfl rfl rfl hp20) (am (sF rfl rfl rfl rfl hp20) (am (sF rfl rfl rfl rfl hp20) (am (sF rfl rfl rfl rfl hp20) (am (sF rfl rfl rfl rfl hp20) (qY (sT rfl rfl rfl rfl hp16) (ag (vB hp20) rfl) ?_))))))))))))))
          obtain rfl:=sI h
          exact key _ _ (kp4 (kp4 rfl))
     ·clear h; rcases iOs hb15 with ⟨hp13,h⟩ | ⟨hp13,h⟩
      ·refine am (sF rfl rfl rfl rfl hp13) (am (sF rfl rfl rfl rfl hp13) (am (sF rfl rfl rfl rfl hp13) (am (sF rfl rfl rfl rfl hp13) (am (sF rfl rfl rfl rfl hp13) (am (sF rfl rfl rfl rfl hp13) (am (sF rfl rfl rfl rfl hp13) (am (sF rfl rfl rfl rfl hp13) (am (sF rfl rfl rfl rfl hp13) (am (sF rfl rfl rfl rfl hp13) (am (sF rfl rfl rfl rfl hp13) (qY rfl (ae (vB hp13) rfl) ?_)))))))))))
       obtain rfl:=sI h
       exact key _ _ (kp4 (kp (kp (kp rfl))))
      ·refine qY (sT rfl rfl rfl rfl hp13) (yMS rfl) (qY (sT rfl rfl rfl rfl hp13) (yMI rfl) ?_)
       obtain ⟨hg25,h⟩:=gOs h
       refine qY (sT rfl rfl rfl rfl hp13) (yI fc (by decide) hg25.1 hg25.2 (RdL.arg hr0_0) (eL ab rfl) rfl rfl) ?_
       refine qY (sT rfl rfl rfl rfl hp13) (yFR (A:=Aa) (j:=(Int.toNat s3.2 * 2)) co rfl) (qY (sT rfl rfl rfl rfl hp13) (yR (A:=Aa) (j:=((Int.toNat s3.2 * 2) + 0)) (v:=vI ((rdL p0 s3.2).fLo)) aV (RdL.arg hr0_0) rfl (eG ab hg25.1 (av hg25.2 rfl) rfl)) (qY (sT rfl rfl rfl rfl hp13) (yMS rfl) (qY (sT rfl rfl rfl rfl hp13) (yMI rfl) ?_)))
       obtain ⟨hg26,h⟩:=gOs h
       refine qY (sT rfl rfl rfl rfl hp13) (yI fc (by decide) hg26.1 hg26.2 (RdL.arg hr0_0) (eL ab rfl) rfl rfl) ?_
       refine qY (sT rfl rfl rfl rfl hp13) (yFR (A:=Aa) (j:=(Int.toNat s3.2 * 2)) bL rfl) (qY (sT rfl rfl rfl rfl hp13) (yR (A:=Aa) (j:=((Int.toNat s3.2 * 2) + 1)) (v:=vI ((rdL p0 s3.2).fHi)) aV (RdL.arg hr0_0) rfl (eG ab hg26.1 (av hg26.2 rfl) rfl)) (qY (sT rfl rfl rfl rfl hp13) (eI rfl rfl) (qY rfl (ag (vB hp13) rfl) ?_)))
       obtain rfl:=sI h
       exact key _ _ (kp4 (kp (kp (kp rfl))))
    ·rcases aq (!y7) with hp12 | hp12
     ·refine am (sF rfl rfl rfl rfl hp12) (am (sF rfl rfl rfl rfl hp12) (qY rfl (ae (vB hp12) rfl) ?_))
      exact key _ _ (keep (keep (keep (keep (keep (keep (keep rfl rfl) rfl) rfl) rfl) rfl) rfl) (vB (iI hp12)))
     ·refine qY (sT rfl rfl rfl rfl hp12) (yMB rfl) (qY (sT rfl rfl rfl rfl hp12) (bM rfl) (qY rfl (ag (vB hp12) rfl) ?_))
      exact key _ _ (keep (keep (keep (keep (keep (keep (keep rfl rfl) rfl) rfl) rfl) rfl) rfl) (vB (iH hp12)))
   ·refine cF (vB hp5) (aH (ah ?_))
    obtain rfl:=sI h
    exact ax ⟨rfl,_,rfl,(kp (kp (kp rfl)))⟩
  ·intro e L tm hJ
   rcases u4 with u28 | u29
   ·dsimp only at h hJ
    obtain ⟨rfl,tm0_u28,rfl,rfl⟩:=hJ
    refine ⟨(by intro hc; cases hc),?_⟩
    refine ai (aa ?_)
    obtain rfl:=sI h
    exact ap (.inl rfl) rfl (rVt (v:=.bool u28.1) rfl) (fun W2 hW2 => ⟨rfl,hW2.none⟩)
   ·dsimp only at h hJ
    obtain ⟨rfl,tm0_u29,rfl,rfl⟩:=hJ
    refine ⟨(by intro hc; cases hc),?_⟩
    refine ac (eT (cS (cR (oY rfl (yAB rfl) (oN (eT (al ?_)))))))
    obtain rfl:=sI h
    exact ap (.inl rfl) rfl (rVt (v:=.bool true) rfl) (fun W2 hW2 => ⟨rfl,hW2.none⟩)
theorem nT (p0:TT) (p1:Int) (res:Int) (h:g8 p0 p1 = some res) (W:World) (A0_5:Option Addr) (n0_5 c0_5 : Nat) (hn0_5:n0_5 = p0.fK.length) (hr0_5:Rd W A0_5 n0_5 c0_5 (encL TSpan_cells p0.fK)) :
  Calls Tryz.prog 42 [.agg #[vI p0.fID,vI p0.fFrom,vI p0.fTo,vI p0.fLong,vI p0.fToll,.slice A0_5 n0_5 c0_5],vI p1].toArray W fun e W2 => e = .returned (vI res) ∧ Ext W W2 []:=by
 subst hn0_5
 unfold g8 at h
 refine ad (m:=44) Tryz.func42 rfl rfl (nB rfl) (cS (cR ?_))
 refine aO [vI p0.fID,vI p0.fFrom,vI p0.fTo,vI p0.fLong,vI p0.fToll,.slice A0_5 p0.fK.length c0_5] rfl rfl rfl (fun b1 => ?_)
 refine oY rfl (yAI rfl) (oN (eT (cS (cR (oY rfl (yMI rfl) (oY rfl (yAI rfl) (oN (eT (cS (cS (cR (oY rfl (yAI rfl) (oN (eT (cB ?_)))))))))))))))
 obtain ⟨u4,hl12,h⟩:=bOs h
 refine bc (fun (s:(Int × Int)) L tm => ∃ (tm0:Nat → Value),L = [aj b1 39 [vI p0.fID,vI p0.fFrom,vI p0.fTo,vI p0.fLong,vI p0.fToll,.slice A0_5 p0.fK.length c0_5]] ∧ tm = (upd (upd (upd (upd tm0 2 (.pointer (some ⟨b1,0,none⟩))) 4 (vI 0)) 5 (vI s.1)) 6 (vI s.2))) 0 hl12 ⟨_,rfl,(kp4 rfl)⟩ ?_ ?_
 ·rintro s3 L tm st ⟨tm0_s3,rfl,rfl⟩ h
  unfold dN at h
  refine cS (cS (cR (oY rfl (yMI rfl) (oY rfl (yFA cg rfl) (oY rfl (yL 0 io rfl rfl rfl) (oY rfl (bd (us:=[]) eg rfl) (oY rfl (bm rfl rfl) (oN (eT ?_)))))))))
  rcases iOs h with ⟨hp5,h⟩ | ⟨hp5,h⟩
  ·refine cT (vB hp5) (cK (eT (cS (cB (cS ?_)))))
   refine ba 15 cm (by kernel_rfl) (by kernel_rfl) ?_
   refine qY rfl (yMI rfl) (qY rfl (yFA cg rfl) (qY rfl (yL 0 io rfl rfl rfl) (qY rfl (yMI rfl) ?_)))
   obtain ⟨hg6,h⟩:=gOs h
   refine qY rfl (yI fc (by decide) hg6.1 hg6.2 (RdL.arg hr0_5) (eL ab rfl) rfl rfl) ?_
   refine qY rfl (yFR (A:=A0_5) (j:=(Int.toNat s3.2 * 2)) co rfl) (qY rfl (yR (A:=A0_5) (j:=((Int.toNat s3.2 * 2) + 0)) (v:=vI ((rdL p0.fK s3.2).fLo)) aV (RdL.arg hr0_5) rfl (eG ab hg6.1 (av hg6.2 rfl) rfl)) (qY rfl (yFA cg rfl) (qY rfl (yL 0 io rfl rfl rfl) (qY rfl (yMI rfl) ?_))))
   obtain ⟨hg7,h⟩:=gOs h
   refine qY rfl (yI fc (by decide) hg7.1 hg7.2 (RdL.arg hr0_5) (eL ab rfl) rfl rfl) ?_
   refine qY rfl (yFR (A:=A0_5) (j:=(Int.toNat s3.2 * 2)) bL rfl) (qY rfl (yR (A:=A0_5) (j:=((Int.toNat s3.2 * 2) + 1)) (v:=vI ((rdL p0.fK s3.2).fHi)) aV (RdL.arg hr0_5) rfl (eG ab hg7.1 (av hg7.2 rfl) rfl)) ?_)
   obtain ⟨y8,hy9,h⟩:=bOs h
   refine qY rfl (yC [vI s3.1,vI ((rdL p0.fK s3.2).fLo),vI ((rdL p0.fK s3.2).fHi)] lc rfl (fun W2 hW2 => bb s3.1 ((rdL p0.fK s3.2).fLo) ((rdL p0.fK s3.2).fHi) y8 hy9 W2 ) rfl) (qY rfl (yAB rfl) (bX (oN (eT (cS (cR (oY rfl (yMB rfl) (oN (eT ?_)))))))))
   rcases iOs h with ⟨hp10,h⟩ | ⟨hp10,h⟩
   ·refine cT (vB hp10) (cR (oY rfl (yFA cg rfl) (oY rfl (yL 0 io rfl rfl rfl) (oY rfl (yMI rfl) ?_))))
    obtain ⟨hg11,h⟩:=gOs h
    refine oY rfl (yI fc (by decide) hg11.1 hg11.2 (RdL.arg hr0_5) (eL ab rfl) rfl rfl) ?_
    refine oY rfl (yFR (A:=A0_5) (j:=(Int.toNat s3.2 * 2)) bL rfl) (oY rfl (yR (A:=A0_5) (j:=((Int.toNat s3.2 * 2) + 1)) (v:=vI ((rdL p0.fK s3.2).fHi)) aV (RdL.arg hr0_5) rfl (eG ab hg11.1 (av hg11.2 rfl) rfl)) (oY rfl (aX rfl rfl) (oY rfl (yAI rfl) (oN (aw (eT (cR (oY rfl (yMI rfl) (oY rfl (aX rfl rfl) (oY rfl (yAI rfl) (oN ?_)))))))))))
    obtain rfl:=sI h
    exact eN ⟨_,rfl,(kp4 rfl)⟩
   ·refine cF (vB hp10) (cK (aw (eT (cR (oY rfl (yMI rfl) (oY rfl (aX rfl rfl) (oY rfl (yAI rfl) (oN ?_))))))))
    obtain rfl:=sI h
    exact eN ⟨_,rfl,(kp4 rfl)⟩
  ·refine cF (vB hp5) (aH (ah ?_))
   obtain rfl:=sI h
   exact ax ⟨rfl,_,rfl,(kp4 rfl)⟩
 ·intro e L tm hJ
  obtain ⟨rfl,tm0_u4,rfl,rfl⟩:=hJ
  refine ⟨(by intro hc; cases hc),?_⟩
  refine ac (eT (cS (cR (oY rfl (yMI rfl) ?_))))
  obtain ⟨y13,hy14,h⟩:=bOs h
  refine oY rfl (yC [vI u4.1] oP rfl (fun W2 hW2 => cC u4.1 y13 hy14 W2 ) rfl) (oY rfl (yAB rfl) (oN (eT (cS (cS (cR (oY rfl (yMB rfl) (oY rfl (bM rfl) (oN (eT ?_))))))))))
  rcases iOs h with ⟨hp15,h⟩ | ⟨hp15,h⟩
  ·refine cT (vB hp15) (cS (cR (oY rfl (yAI rfl) (oN (eT (al (aa ?_)))))))
   obtain rfl:=sI h
   exact ap (.inl rfl) rfl (rVt (v:=vI (-1)) rfl) (fun W2 hW2 => ⟨rfl,hW2.none⟩)
  ·refine cF (vB hp15) (cK (eT (cS (cR (oY rfl (yMI rfl) (oY rfl (yAI rfl) (oN (eT (al ?_)))))))))
   obtain rfl:=sI h
   exact ap (.inl rfl) rfl (rVt (v:=vI u4.1) rfl) (fun W2 hW2 => ⟨rfl,hW2.none⟩)
theorem nQ (p0:TT) (p1:Int) (res:(Int × Int)) (h:ie p0 p1 = some res) (W:World) (A0_5:Option Addr) (n0_5 c0_5 : Nat) (hn0_5:n0_5 = p0.fK.length) (hr0_5:Rd W A0_5 n0_5 c0_5 (encL TSpan_cells p0.fK)) :
  Calls Tryz.prog 12 [.agg #[vI p0.fID,vI p0.fFrom,vI p0.fTo,vI p0.fLong,vI p0.fToll,.slice A0_5 n0_5 c0_5],vI p1].toArray W fun e W2 => e = .returned (.tuple #[vI res.1,vI res.2]) ∧ Ext W W2 []:=by
 subst hn0_5
 unfold ie at h
 refine ad (m:=26) Tryz.func12 rfl rfl (nB rfl) (cS (cR ?_))
 refine aO [vI p0.fID,vI p0.fFrom,vI p0.fTo,vI p0.fLong,vI p0.fToll,.slice A0_5 p0.fK.length c0_5] rfl rfl rfl (fun b1 => ?_)
 refine oY rfl (yAI rfl) (oY rfl (yAI rfl) (oN (eT (cS (cR (oY rfl (yFA cg rfl) (oY rfl (yL 0 io rfl rfl rfl) ?_)))))))
 obtain ⟨y2,hy3,h⟩:=bOs h
 refine oY rfl (yC [.slice A0_5 p0.fK.length c0_5] go_40 rfl (fun W2 hW2 => jZ p0.fK y2 hy3 W2 A0_5 p0.fK.length c0_5 rfl ((RdL.arg hr0_5) W2 hW2)) rfl) (oY rfl (yAB rfl) (oN (eT (cS (cR (oY rfl (yMI rfl) ?_))))))
 obtain ⟨y4,hy5,h⟩:=bOs h
 refine oY rfl (yC [vI p1] oP rfl (fun W2 hW2 => cC p1 y4 hy5 W2 ) rfl) (oY rfl (yAB rfl) (oN (eT (cS (cS (cR (oY rfl (yMB rfl) (oY rfl (bM rfl) (oY rfl (yMB rfl) ?_)))))))))
 refine oJ 3 (fun tm0 => (upd (upd (upd (upd (upd tm0 1 (vI p1)) 2 (.pointer (some ⟨b1,0,none⟩))) 4 (vI 0)) 5 (vI 0)) 19 (.bool ((!y2) || (!y4))))) (fun tm0 => ?_) (fun key => ?_)
 ·refine oN (eT ?_)
  rcases iOs h with ⟨hp7,h⟩ | ⟨hp7,h⟩
  ·refine cT (vB hp7) (cS (cR (oY rfl (yAI rfl) (oY rfl (yAI rfl) (oN (eT (al (aa ?_))))))))
   obtain rfl:=sI h
   exact bp (.inl rfl) rfl (rVt (v:=vI 0) rfl) (rVt (v:=vI 1) rfl) (fun W2 hW2 => ⟨rfl,hW2.none⟩)
  ·refine cF (vB hp7) (cK (eT (cS (cR (oY rfl (yN 0 [vI p0.fID,vI p0.fFrom,vI p0.fTo,vI p0.fLong,vI p0.fToll,.slice A0_5 p0.fK.length c0_5] jJ rfl rfl rfl) (oY rfl (yMI rfl) ?_))))))
   obtain ⟨y8,hy9,h⟩:=bOs h
   refine oY rfl (yC [.agg #[vI p0.fID,vI p0.fFrom,vI p0.fTo,vI p0.fLong,vI p0.fToll,.slice A0_5 p0.fK.length c0_5],vI p1] go_42 rfl (fun W2 hW2 => nT p0 p1 y8 hy9 W2 A0_5 p0.fK.length c0_5 rfl ((RdL.arg hr0_5) W2 hW2)) rfl) (oY rfl (yAI rfl) (oN (eT (cS (cS (cR (oY rfl (yMI rfl) (oY rfl (bm rfl rfl) (oN (eT ?_))))))))))
   rcases iOs h with ⟨hp10,h⟩ | ⟨hp10,h⟩
   ·refine cT (vB hp10) (cS (cR (oY rfl (yAI rfl) (oY rfl (yAI rfl) (oN (eT (al (aa ?_))))))))
    obtain rfl:=sI h
    exact bp (.inl rfl) rfl (rVt (v:=vI 0) rfl) (rVt (v:=vI 5) rfl) (fun W2 hW2 => ⟨rfl,hW2.none⟩)
   ·refine cF (vB hp10) (cK (eT (cS (cR (oY rfl (yMI rfl) (oY rfl (yAI rfl) (oY rfl (yAI rfl) (oN (eT (al ?_))))))))))
    obtain rfl:=sI h
    exact bp (.inl rfl) rfl (rVt (v:=vI y8) rfl) (rVt (v:=vI 0) rfl) (fun W2 hW2 => ⟨rfl,hW2.none⟩)
 ·rcases aq (!y2) with hp6 | hp6
  ·refine oSk (sF rfl rfl rfl rfl hp6) (oSk (sF rfl rfl rfl rfl hp6) (oY rfl (ae (vB hp6) rfl) ?_))
   exact key _ _ (keep (keep (keep (keep (keep rfl rfl) rfl) rfl) rfl) (vB (iI hp6)))
  ·refine oY (sT rfl rfl rfl rfl hp6) (yMB rfl) (oY (sT rfl rfl rfl rfl hp6) (bM rfl) (oY rfl (ag (vB hp6) rfl) ?_))
   exact key _ _ (keep (keep (keep (keep (keep rfl rfl) rfl) rfl) rfl) (vB (iH hp6)))
theorem nR (p0:TR) (p1:TT) (res:Bool) (h:ia p0 p1 = some res) (W:World) (Ab:Option Addr) (n0_1 cb : Nat) (ys0_1:List (Hd × TT)) (hn0_1:n0_1 = p0.fT.length) (hr0_1:Rd W Ab n0_1 cb (encL TTrack_cells2 ys0_1)) (hN0_1:NestW W (fun z : TT => z.fK) TSpan_cells ys0_1 p0.fT) (A1_5:Option Addr) (n1_5 c1_5 : Nat) (hn1_5:n1_5 = p1.fK.length) (hr1_5:Rd W A1_5 n1_5 c1_5 (encL TSpan_cells p1.fK)) :
  Calls Tryz.prog 47 [.agg #[vI p0.fL,.slice Ab n0_1 cb],.agg #[vI p1.fID,vI p1.fFrom,vI p1.fTo,vI p1.fLong,vI p1.fToll,.slice A1_5 n1_5 c1_5]].toArray W fun e W2 => e = .returned (.bool res) ∧ Ext W W2 []:=by
 subst hn0_1
 subst hn1_5
 unfold ia at h
 refine ad (m:=58) Tryz.func47 rfl rfl (nB rfl) (cS (cR ?_))
 refine aO [vI p0.fL,.slice Ab p0.fT.length cb] rfl rfl rfl (fun b1 => ?_)
 refine aO [vI p1.fID,vI p1.fFrom,vI p1.fTo,vI p1.fLong,vI p1.fToll,.slice A1_5 p1.fK.length c1_5] rfl rfl rfl (fun b2 => ?_)
 refine oY rfl (yAB rfl) (oN (eT (cS (cR (oY rfl (yFA ii rfl) (oY rfl (yL 1 aV rfl rfl rfl) ?_))))))
 obtain ⟨y3,hy4,h⟩:=bOs h
 refine oY rfl (yC [vI p1.fID,vI 1,vI 1099511627776] lc rfl (fun W2 hW2 => bb p1.fID 1 1099511627776 y3 hy4 W2 ) rfl) (oY rfl (yAB rfl) (oN (eT (cS (cR (oY rfl (yFA kR rfl) (oY rfl (yL 1 aV rfl rfl rfl) (oY rfl (yFA eE rfl) (oY rfl (yL 0 aV rfl rfl rfl) (oY rfl (dV rfl rfl) ?_))))))))))
 obtain ⟨y5,hy6,h⟩:=bOs h
 refine oY rfl (yC [vI p1.fFrom,vI 0,vI (w64 (p0.fL - 1))] lc rfl (fun W2 hW2 => bb p1.fFrom 0 (w64 (p0.fL - 1)) y5 hy6 W2 ) rfl) (oY rfl (yAB rfl) (oN (eT (cS (cR (oY rfl (yFA kM rfl) (oY rfl (yL 1 aV rfl rfl rfl) (oY rfl (yFA eE rfl) (oY rfl (yL 0 aV rfl rfl rfl) (oY rfl (dV rfl rfl) ?_))))))))))
 obtain ⟨y7,hy8,h⟩:=bOs h
 refine oY rfl (yC [vI p1.fTo,vI 0,vI (w64 (p0.fL - 1))] lc rfl (fun W2 hW2 => bb p1.fTo 0 (w64 (p0.fL - 1)) y7 hy8 W2 ) rfl) (oY rfl (yAB rfl) (oN (eT (cS (cR (oY rfl (yFA j5 rfl) (oY rfl (yL 1 aV rfl rfl rfl) ?_)))))))
 obtain ⟨y9,hy10,h⟩:=bOs h
 refine oY rfl (yC [vI p1.fLong,vI 1,vI 72] lc rfl (fun W2 hW2 => bb p1.fLong 1 72 y9 hy10 W2 ) rfl) (oY rfl (yAB rfl) (oN (eT (cS (cR (oY rfl (yFA mP rfl) (oY rfl (yL 1 aV rfl rfl rfl) ?_)))))))
 obtain ⟨y11,hy12,h⟩:=bOs h
 refine oY rfl (yC [vI p1.fToll,vI 0,vI 40] lc rfl (fun W2 hW2 => bb p1.fToll 0 40 y11 hy12 W2 ) rfl) (oY rfl (yAB rfl) (oN (eT (cS (cR (oY rfl (yFA cg rfl) (oY rfl (yL 1 io rfl rfl rfl) ?_)))))))
 obtain ⟨y13,hy14,h⟩:=bOs h
 refine oY rfl (yC [.slice A1_5 p1.fK.length c1_5] go_40 rfl (fun W2 hW2 => jZ p1.fK y13 hy14 W2 A1_5 p1.fK.length c1_5 rfl ((RdL.arg hr1_5) W2 hW2)) rfl) (oY rfl (yAB rfl) (oN (eT (cS (cR (oY rfl (yMB rfl) (oY rfl (yMB rfl) ?_)))))))
 refine oJ 2 (fun tm0 => (upd (upd (upd (upd (upd (upd (upd tm0 3 (.pointer (some ⟨b2,0,none⟩))) 4 (.bool false)) 7 (.bool y7)) 8 (.bool y9)) 9 (.bool y11)) 10 (.bool y13)) 38 (.bool (y3 && y5)))) (fun tm0 => ?_) (fun key => ?_)
 ·refine oY rfl (yMB rfl) ?_
  refine oJ 2 (fun tm0 => (upd (upd (upd (upd (upd (upd tm0 3 (.pointer (some ⟨b2,0,none⟩))) 4 (.bool false)) 8 (.bool y9)) 9 (.bool y11)) 10 (.bool y13)) 41 (.bool ((y3 && y5) && y7)))) (fun tm0 => ?_) (fun key => ?_)
  ·refine oY rfl (yMB rfl) ?_
   refine oJ 6 (fun tm0 => (upd (upd (upd (upd (upd tm0 4 (.bool false)) 8 (.bool y9)) 9 (.bool y11)) 10 (.bool y13)) 48 (.bool (((y3 && y5) && y7) && (p1.fFrom != p1.fTo))))) (fun tm0 => ?_) (fun key => ?_)
   ·refine oY rfl (yMB rfl) ?_
    refine oJ 2 (fun tm0 => (upd (upd (upd (upd tm0 4 (.bool false)) 9 (.bool y11)) 10 (.bool y13)) 51 (.bool ((((y3 && y5) && y7) && (p1.fFrom != p1.fTo)) && y9)))) (fun tm0 => ?_) (fun key => ?_)
    ·refine oY rfl (yMB rfl) ?_
     refine oJ 2 (fun tm0 => (upd (upd (upd tm0 4 (.bool false)) 10 (.bool y13)) 54 (.bool (((((y3 && y5) && y7) && (p1.fFrom != p1.fTo)) && y9) && y11)))) (fun tm0 => ?_) (fun key => ?_)
     ·refine oY rfl (yMB rfl) ?_
      refine oJ 2 (fun tm0 => (upd (upd tm0 4 (.bool false)) 57 (.bool ((((((y3 && y5) && y7) && (p1.fFrom != p1.fTo)) && y9) && y11) && y13)))) (fun tm0 => ?_) (fun key => ?_)
      ·refine oY rfl (yAB rfl) (oN (eT (al ?_)))
       obtain rfl:=sI h
       exact ap (.inl rfl) rfl (rVt (v:=.bool ((((((y3 && y5) && y7) && (p1.fFrom != p1.fTo)) && y9) && y11) && y13)) rfl) (fun W2 hW2 => ⟨rfl,hW2.none⟩)
      ·rcases aq (((((y3 && y5) && y7) && (p1.fFrom != p1.fTo)) && y9) && y11) with hp20 | hp20
       ·refine oY (sT rfl rfl rfl rfl hp20) (yMB rfl) (oY rfl (ae (vB hp20) rfl) ?_)
        exact key _ _ (keep (keep rfl rfl) (vB (gh hp20)))
       ·refine oSk (sF rfl rfl rfl rfl hp20) (oY rfl (ag (vB hp20) rfl) ?_)
        exact key _ _ (keep (keep rfl rfl) (vB (gq hp20)))
     ·rcases aq ((((y3 && y5) && y7) && (p1.fFrom != p1.fTo)) && y9) with hp19 | hp19
      ·refine oY (sT rfl rfl rfl rfl hp19) (yMB rfl) (oY rfl (ae (vB hp19) rfl) ?_)
       exact key _ _ (keep (keep (keep rfl rfl) rfl) (vB (gh hp19)))
      ·refine oSk (sF rfl rfl rfl rfl hp19) (oY rfl (ag (vB hp19) rfl) ?_)
       exact key _ _ (keep (keep (keep rfl rfl) rfl) (vB (gq hp19)))
    ·rcases aq (((y3 && y5) && y7) && (p1.fFrom != p1.fTo)) with hp18 | hp18
     ·refine oY (sT rfl rfl rfl rfl hp18) (yMB rfl) (oY rfl (ae (vB hp18) rfl) ?_)
      exact key _ _ (keep (keep (keep (keep rfl rfl) rfl) rfl) (vB (gh hp18)))
     ·refine oSk (sF rfl rfl rfl rfl hp18) (oY rfl (ag (vB hp18) rfl) ?_)
      exact key _ _ (keep (keep (keep (keep rfl rfl) rfl) rfl) (vB (gq hp18)))
   ·rcases aq ((y3 && y5) && y7) with hp17 | hp17
    ·refine oY (sT rfl rfl rfl rfl hp17) (yFA kR rfl) (oY (sT rfl rfl rfl rfl hp17) (yL 1 aV rfl rfl rfl) (oY (sT rfl rfl rfl rfl hp17) (yFA kM rfl) (oY (sT rfl rfl rfl rfl hp17) (yL 1 aV rfl rfl rfl) (oY (sT rfl rfl rfl rfl hp17) (db rfl rfl) (oY rfl (ae (vB hp17) rfl) ?_)))))
     exact key _ _ (keep (keep (keep (keep (keep rfl rfl) rfl) rfl) rfl) (vB (gh hp17)))
    ·refine oSk (sF rfl rfl rfl rfl hp17) (oSk (sF rfl rfl rfl rfl hp17) (oSk (sF rfl rfl rfl rfl hp17) (oSk (sF rfl rfl rfl rfl hp17) (oSk (sF rfl rfl rfl rfl hp17) (oY rfl (ag (vB hp17) rfl) ?_)))))
     exact key _ _ (keep (keep (keep (keep (keep rfl rfl) rfl) rfl) rfl) (vB (gq hp17)))
  ·rcases aq (y3 && y5) with hp16 | hp16
   ·refine oY (sT rfl rfl rfl rfl hp16) (yMB rfl) (oY rfl (ae (vB hp16) rfl) ?_)
    exact key _ _ (keep (keep (keep (keep (keep (keep rfl rfl) rfl) rfl) rfl) rfl) (vB (gh hp16)))
   ·refine oSk (sF rfl rfl rfl rfl hp16) (oY rfl (ag (vB hp16) rfl) ?_)
    exact key _ _ (keep (keep (keep (keep (keep (keep rfl rfl) rfl) rfl) rfl) rfl) (vB (gq hp16)))
 ·rcases aq y3 with hp15 | hp15
  ·refine oY (sT rfl rfl rfl rfl hp15) (yMB rfl) (oY rfl (ae (vB hp15) rfl) ?_)
   exact key _ _ (keep (keep (keep (keep (keep (keep (keep rfl rfl) rfl) rfl) rfl) rfl) rfl) (vB (gh hp15)))
  ·refine oSk (sF rfl rfl rfl rfl hp15) (oY rfl (ag (vB hp15) rfl) ?_)
   exact key _ _ (keep (keep (keep (keep (keep (keep (keep rfl rfl) rfl) rfl) rfl) rfl) rfl) (vB (gq hp15)))
theorem kC (p0:TR) (res:Int) (h:fQ p0 = some res) (W:World) (Ab:Option Addr) (n0_1 cb : Nat) (ys0_1:List (Hd × TT)) (hn0_1:n0_1 = p0.fT.length) (hr0_1:Rd W Ab n0_1 cb (encL TTrack_cells2 ys0_1)) (hN0_1:NestW W (fun z : TT => z.fK) TSpan_cells ys0_1 p0.fT) :
  Calls Tryz.prog 15 [.agg #[vI p0.fL,.slice Ab n0_1 cb]].toArray W fun e W2 => e = .returned (vI res) ∧ Ext W W2 []:=by
 subst hn0_1
 unfold fQ at h
 refine ad (m:=52) Tryz.func15 rfl rfl (nB rfl) (cS (cR ?_))
 refine aO [vI p0.fL,.slice Ab p0.fT.length cb] rfl rfl rfl (fun b1 => ?_)
 refine oY rfl (yAI rfl) (oN (eT (cS (cS (cR (oY rfl (yFA eE rfl) (oY rfl (yL 0 aV rfl rfl rfl) (oY rfl (bm rfl rfl) (oY rfl (yMB rfl) ?_)))))))))
 refine oJ 4 (fun tm0 => (upd (upd (upd tm0 1 (.pointer (some ⟨b1,0,none⟩))) 2 (vI 0)) 13 (.bool ((decide (p0.fL < 1)) || (decide (16 < p0.fL)))))) (fun tm0 => ?_) (fun key => ?_)
 ·refine oN (eT ?_)
  rcases iOs h with ⟨hp3,h⟩ | ⟨hp3,h⟩
  ·refine cT (vB hp3) (cS (cR (oY rfl (yAI rfl) (oN (eT (al (aa ?_)))))))
   obtain rfl:=sI h
   exact ap (.inl rfl) rfl (rVt (v:=vI 1) rfl) (fun W2 hW2 => ⟨rfl,hW2.none⟩)
  ·refine cF (vB hp3) (cK (eT (cS (cS (cR (oY rfl (yFA bu rfl) (oY rfl (yL 0 ee rfl rfl rfl) (oY rfl (bd (us:=[]) fq rfl) (oY rfl (eI rfl rfl) (oN (eT ?_)))))))))))
   rcases iOs h with ⟨hp4,h⟩ | ⟨hp4,h⟩
   ·refine cT (vB hp4) (cS (cR (oY rfl (yAI rfl) (oN (eT (al (aa ?_)))))))
    obtain rfl:=sI h
    exact ap (.inl rfl) rfl (rVt (v:=vI 2) rfl) (fun W2 hW2 => ⟨rfl,hW2.none⟩)
   ·refine cF (vB hp4) (cK (eT (cS (cS (cR (oY rfl (yAI rfl) (oN (eT (cB ?_)))))))))
    obtain ⟨u7,hl23,h⟩:=bOs h
    refine bB (fun (s:(Int × Int)) L tm => ∃ (tm0:Nat → Value),L = [aj b1 24 [vI p0.fL,.slice Ab p0.fT.length cb]] ∧ tm = (upd (upd (upd tm0 1 (.pointer (some ⟨b1,0,none⟩))) 2 (vI s.1)) 3 (vI s.2))) 0 hl23 ⟨_,rfl,(kp (kp (kp rfl)))⟩ ?_ ?_
    ·rintro s6 L tm st ⟨tm0_s6,rfl,rfl⟩ h
     unfold eO at h
     refine cS (cS (cR (oY rfl (yMI rfl) (oY rfl (yFA bu rfl) (oY rfl (yL 0 ee rfl rfl rfl) (oY rfl (bd (us:=[]) fq rfl) (oY rfl (bm rfl rfl) (oN (eT ?_)))))))))
     rcases iOs h with ⟨hp8,h⟩ | ⟨hp8,h⟩
     ·refine cT (vB hp8) (cK (eT (cS (cB (cS ?_)))))
      refine ba 8 cm (by kernel_rfl) (by kernel_rfl) ?_
      refine qY rfl (yN 0 [vI p0.fL,.slice Ab p0.fT.length cb] dl rfl rfl rfl) (qY rfl (yFA bu rfl) (qY rfl (yL 0 ee rfl rfl rfl) (qY rfl (yMI rfl) ?_)))
      obtain ⟨hg9,h⟩:=gOs h
      refine qY rfl (yI im (by decide) hg9.1 hg9.2 (RdL.arg hr0_1) (eL ak (NestP.hn hN0_1.p rfl)) rfl rfl) ?_
      refine qY rfl (yM (A:=Ab) (j:=(Int.toNat s6.2 * 6)) [vI ((rdL p0.fT s6.2).fID),vI ((rdL p0.fT s6.2).fFrom),vI ((rdL p0.fT s6.2).fTo),vI ((rdL p0.fT s6.2).fLong),vI ((rdL p0.fT s6.2).fToll),.slice ((rdL ys0_1 s6.2).1.1) ((rdL p0.fT s6.2).fK.length) ((rdL ys0_1 s6.2).1.2.2)] jJ (Nat.succ_pos _) (RdL.arg hr0_1) rfl (ja (bU (NestP.snd hN0_1.p s6.2) (NestP.len hN0_1.p hg9.1 (av hg9.2 rfl))).symm (aU ak hg9.1 (av hg9.2 (NestP.hn hN0_1.p rfl))))) ?_
      obtain ⟨y10,hy11,h⟩:=bOs h
      refine qY rfl (yC [.agg #[vI p0.fL,.slice Ab p0.fT.length cb],.agg #[vI ((rdL p0.fT s6.2).fID),vI ((rdL p0.fT s6.2).fFrom),vI ((rdL p0.fT s6.2).fTo),vI ((rdL p0.fT s6.2).fLong),vI ((rdL p0.fT s6.2).fToll),.slice ((rdL ys0_1 s6.2).1.1) ((rdL p0.fT s6.2).fK.length) ((rdL ys0_1 s6.2).1.2.2)]] go_47 rfl (fun W2 hW2 => nR p0 (TT.mk ((rdL p0.fT s6.2).fID) ((rdL p0.fT s6.2).fFrom) ((rdL p0.fT s6.2).fTo) ((rdL p0.fT s6.2).fLong) ((rdL p0.fT s6.2).fToll) ((rdL p0.fT s6.2).fK)) y10 hy11 W2 Ab p0.fT.length cb ys0_1 rfl ((RdL.arg hr0_1) W2 hW2) (NestL.at (NestL.arg hN0_1) W2 hW2) ((rdL ys0_1 s6.2).1.1) ((rdL p0.fT s6.2).fK.length) ((rdL ys0_1 s6.2).1.2.2) rfl ((NestL.rd (NestL.arg hN0_1) hg9.1 (av hg9.2 rfl)) W2 hW2)) rfl) (qY rfl (yAB rfl) (bX (oN (eT (cS (cS (cR (oY rfl (yMB rfl) (oY rfl (bM rfl) (oN (eT ?_)))))))))))
      rcases iOs h with ⟨hp12,h⟩ | ⟨hp12,h⟩
      ·refine cT (vB hp12) (cS (cR (oY rfl (yAI rfl) (oN (eT (al (aa (ai (aa ?_)))))))))
       obtain rfl:=sI h
       exact ax ⟨rfl,_,rfl,(kp (kp (kp rfl)))⟩
      ·refine cF (vB hp12) (cK (eT (cS (cR (oY rfl (yAI rfl) (oN (eT (cB ?_))))))))
       obtain ⟨u15,hl20,h⟩:=bOs h
       refine bB (fun (s:(Int × Int)) L tm => ∃ (tm0:Nat → Value),L = [aj b1 24 [vI p0.fL,.slice Ab p0.fT.length cb]] ∧ tm = (upd (upd (upd (upd (upd (upd (upd tm0 1 (.pointer (some ⟨b1,0,none⟩))) 2 (vI s.1)) 3 (vI s6.2)) 22 (.bool (decide (s6.2 < (p0.fT.length:Int))))) 4 (.bool y10)) 33 (.bool (!y10))) 5 (vI s.2))) 2 hl20 ⟨_,rfl,(kp4 (kp (kp (kp rfl))))⟩ ?_ ?_
       ·rintro s14 L tm st ⟨tm0_s14,rfl,rfl⟩ h
        unfold eP at h
        refine cS (cS (cR (oY rfl (yMI rfl) (oY rfl (yMI rfl) (oY rfl (bm rfl rfl) (oN (eT ?_)))))))
        rcases iOs h with ⟨hp16,h⟩ | ⟨hp16,h⟩
        ·refine cT (vB hp16) (cK (eT (cS (cB (cS ?_)))))
         refine ba 13 cm (by kernel_rfl) (by kernel_rfl) ?_
         refine qY rfl (yFA bu rfl) (qY rfl (yL 0 ee rfl rfl rfl) (qY rfl (yMI rfl) ?_))
         obtain ⟨hg17,h⟩:=gOs h
         refine qY rfl (yI im (by decide) hg17.1 hg17.2 (RdL.arg hr0_1) (eL ak (NestP.hn hN0_1.p rfl)) rfl rfl) ?_
         refine qY rfl (yFR (A:=Ab) (j:=(Int.toNat s14.2 * 6)) ii rfl) (qY rfl (yR (A:=Ab) (j:=((Int.toNat s14.2 * 6) + 0)) (v:=vI ((rdL p0.fT s14.2).fID)) aV (RdL.arg hr0_1) rfl (eG ak hg17.1 (av hg17.2 (NestP.hn hN0_1.p rfl)) (congrArg (fun z : TT => some (Value.int .i64 z.fID)) (NestP.snd hN0_1.p s14.2)))) (qY rfl (yFA bu rfl) (qY rfl (yL 0 ee rfl rfl rfl) (qY rfl (yMI rfl) ?_))))
         obtain ⟨hg18,h⟩:=gOs h
         refine qY rfl (yI im (by decide) hg18.1 hg18.2 (RdL.arg hr0_1) (eL ak (NestP.hn hN0_1.p rfl)) rfl rfl) ?_
         refine qY rfl (yFR (A:=Ab) (j:=(Int.toNat s6.2 * 6)) ii rfl) (qY rfl (yR (A:=Ab) (j:=((Int.toNat s6.2 * 6) + 0)) (v:=vI ((rdL p0.fT s6.2).fID)) aV (RdL.arg hr0_1) rfl (eG ak hg18.1 (av hg18.2 (NestP.hn hN0_1.p rfl)) (congrArg (fun z : TT => some (Value.int .i64 z.fID)) (NestP.snd hN0_1.p s6.2)))) (qY rfl (dA rfl rfl) (bX (oN (eT ?_)))))
         rcases iOs h with ⟨hp19,h⟩ | ⟨hp19,h⟩
         ·refine cT (vB hp19) (cS (cR (oY rfl (yAI rfl) (oN (eT (al (ai (aa ?_))))))))
          obtain rfl:=sI h
          exact ax ⟨rfl,_,rfl,(kp4 (kp (kp (kp rfl))))⟩
         ·refine cF (vB hp19) (cK (aw (eT (cR (oY rfl (yMI rfl) (oY rfl (aX rfl rfl) (oY rfl (yAI rfl) (oN ?_))))))))
          obtain rfl:=sI h
          exact eN ⟨_,rfl,(kp4 (kp (kp (kp rfl))))⟩
        ·refine cF (vB hp16) (aH (ah ?_))
         obtain rfl:=sI h
         exact ax ⟨rfl,_,rfl,(kp4 (kp (kp (kp rfl))))⟩
       ·intro e L tm hJ
        rcases u15 with u21 | u22
        ·dsimp only at h hJ
         obtain ⟨rfl,tm0_u21,rfl,rfl⟩:=hJ
         refine ⟨(by intro hc; cases hc),?_⟩
         refine ai (ai (aa ?_))
         obtain rfl:=sI h
         exact ax ⟨rfl,_,rfl,(kp (kp (kp rfl)))⟩
        ·dsimp only at h hJ
         obtain ⟨rfl,tm0_u22,rfl,rfl⟩:=hJ
         refine ⟨(by intro hc; cases hc),?_⟩
         refine ac (aw (eT (cR (oY rfl (yMI rfl) (oY rfl (aX rfl rfl) (oY rfl (yAI rfl) (oN ?_)))))))
         obtain rfl:=sI h
         exact eN ⟨_,rfl,(kp (kp (kp rfl)))⟩
     ·refine cF (vB hp8) (aH (ah ?_))
      obtain rfl:=sI h
      exact ax ⟨rfl,_,rfl,(kp (kp (kp rfl)))⟩
    ·intro e L tm hJ
     rcases u7 with u24 | u25
     ·dsimp only at h hJ
      obtain ⟨rfl,tm0_u24,rfl,rfl⟩:=hJ
      refine ⟨(by intro hc; cases hc),?_⟩
      refine ai (aa ?_)
      obtain rfl:=sI h
      exact ap (.inl rfl) rfl (rVt (v:=vI u24.1) rfl) (fun W2 hW2 => ⟨rfl,hW2.none⟩)
     ·dsimp only at h hJ
      obtain ⟨rfl,tm0_u25,rfl,rfl⟩:=hJ
      refine ⟨(by intro hc; cases hc),?_⟩
      refine ac (eT (cS (cR (oY rfl (yAI rfl) (oN (eT (al ?_)))))))
      obtain rfl:=sI h
      exact ap (.inl rfl) rfl (rVt (v:=vI 0) rfl) (fun W2 hW2 => ⟨rfl,hW2.none⟩)
 ·rcases aq (decide (p0.fL < 1)) with hp2 | hp2
  ·refine oSk (sF rfl rfl rfl rfl hp2) (oSk (sF rfl rfl rfl rfl hp2) (oSk (sF rfl rfl rfl rfl hp2) (oY rfl (ae (vB hp2) rfl) ?_)))
   exact key _ _ (keep (keep (keep rfl rfl) rfl) (vB (iI hp2)))
  ·refine oY (sT rfl rfl rfl rfl hp2) (yFA eE rfl) (oY (sT rfl rfl rfl rfl hp2) (yL 0 aV rfl rfl rfl) (oY (sT rfl rfl rfl rfl hp2) (eI rfl rfl) (oY rfl (ag (vB hp2) rfl) ?_)))
   exact key _ _ (keep (keep (keep rfl rfl) rfl) (vB (iH hp2)))
theorem nU (p0:TR) (p1:Int) (res:Int) (h:hQ p0 p1 = some res) (W:World) (Ab:Option Addr) (n0_1 cb : Nat) (ys0_1:List (Hd × TT)) (hn0_1:n0_1 = p0.fT.length) (hr0_1:Rd W Ab n0_1 cb (encL TTrack_cells2 ys0_1)) (hN0_1:NestW W (fun z : TT => z.fK) TSpan_cells ys0_1 p0.fT) :
  Calls Tryz.prog 43 [.agg #[vI p0.fL,.slice Ab n0_1 cb],vI p1].toArray W fun e W2 => e = .returned (vI res) ∧ Ext W W2 []:=by
 subst hn0_1
 unfold hQ at h
 refine ad (m:=22) Tryz.func43 rfl rfl (nB rfl) (cS (cR ?_))
 refine aO [vI p0.fL,.slice Ab p0.fT.length cb] rfl rfl rfl (fun b1 => ?_)
 refine oY rfl (yAI rfl) (oN (eT (cS (cS (cR (oY rfl (yAI rfl) (oN (eT (cB ?_)))))))))
 obtain ⟨u4,hl8,h⟩:=bOs h
 refine bB (fun (s:(Int × Int)) L tm => ∃ (tm0:Nat → Value),L = [aj b1 24 [vI p0.fL,.slice Ab p0.fT.length cb]] ∧ tm = (upd (upd (upd (upd tm0 1 (vI p1)) 2 (.pointer (some ⟨b1,0,none⟩))) 4 (vI s.1)) 5 (vI s.2))) 0 hl8 ⟨_,rfl,(kp4 rfl)⟩ ?_ ?_
 ·rintro s3 L tm st ⟨tm0_s3,rfl,rfl⟩ h
  unfold dM at h
  refine cS (cS (cR (oY rfl (yMI rfl) (oY rfl (yFA bu rfl) (oY rfl (yL 0 ee rfl rfl rfl) (oY rfl (bd (us:=[]) fq rfl) (oY rfl (bm rfl rfl) (oN (eT ?_)))))))))
  rcases iOs h with ⟨hp5,h⟩ | ⟨hp5,h⟩
  ·refine cT (vB hp5) (cK (eT (cS (cB (cS (cR (oY rfl (yFA bu rfl) (oY rfl (yL 0 ee rfl rfl rfl) (oY rfl (yMI rfl) ?_)))))))))
   obtain ⟨hg6,h⟩:=gOs h
   refine oY rfl (yI im (by decide) hg6.1 hg6.2 (RdL.arg hr0_1) (eL ak (NestP.hn hN0_1.p rfl)) rfl rfl) ?_
   refine oY rfl (yFR (A:=Ab) (j:=(Int.toNat s3.2 * 6)) ii rfl) (oY rfl (yR (A:=Ab) (j:=((Int.toNat s3.2 * 6) + 0)) (v:=vI ((rdL p0.fT s3.2).fID)) aV (RdL.arg hr0_1) rfl (eG ak hg6.1 (av hg6.2 (NestP.hn hN0_1.p rfl)) (congrArg (fun z : TT => some (Value.int .i64 z.fID)) (NestP.snd hN0_1.p s3.2)))) (oY rfl (yMI rfl) (oY rfl (dA rfl rfl) (oN (eT ?_)))))
   rcases iOs h with ⟨hp7,h⟩ | ⟨hp7,h⟩
   ·refine cT (vB hp7) (cS (cR (oY rfl (yMI rfl) (oY rfl (yAI rfl) (oN (eT (al (ai (aa ?_)))))))))
    obtain rfl:=sI h
    exact ax ⟨rfl,_,rfl,(kp4 rfl)⟩
   ·refine cF (vB hp7) (cK (aw (eT (cR (oY rfl (yMI rfl) (oY rfl (aX rfl rfl) (oY rfl (yAI rfl) (oN ?_))))))))
    obtain rfl:=sI h
    exact eN ⟨_,rfl,(kp4 rfl)⟩
  ·refine cF (vB hp5) (aH (ah ?_))
   obtain rfl:=sI h
   exact ax ⟨rfl,_,rfl,(kp4 rfl)⟩
 ·intro e L tm hJ
  rcases u4 with u9 | u10
  ·dsimp only at h hJ
   obtain ⟨rfl,tm0_u9,rfl,rfl⟩:=hJ
   refine ⟨(by intro hc; cases hc),?_⟩
   refine ai (aa ?_)
   obtain rfl:=sI h
   exact ap (.inl rfl) rfl (rVt (v:=vI u9.1) rfl) (fun W2 hW2 => ⟨rfl,hW2.none⟩)
  ·dsimp only at h hJ
   obtain ⟨rfl,tm0_u10,rfl,rfl⟩:=hJ
   refine ⟨(by intro hc; cases hc),?_⟩
   refine ac (eT (cS (cR (oY rfl (yAI rfl) (oN (eT (al ?_)))))))
   obtain rfl:=sI h
   exact ap (.inl rfl) rfl (rVt (v:=vI (-1)) rfl) (fun W2 hW2 => ⟨rfl,hW2.none⟩)
theorem m9 (p0:(List TSpan)) (p1:TSpan) (res:(List TSpan)) (h:fm p0 p1 = some res) (W:World) (Aa:Option Addr) (n0_0 ca : Nat) (hn0_0:n0_0 = p0.length) (hr0_0:Rd W Aa n0_0 ca (encL TSpan_cells p0)) :
  Calls Tryz.prog 44 [.slice Aa n0_0 ca,.agg #[vI p1.fLo,vI p1.fHi]].toArray W fun e W2 => ∃ x : Option Addr × Nat × Nat,x.2.1 = res.length ∧ e = .returned (.slice x.1 x.2.1 x.2.2) ∧ Ext W W2 [aI x.1 x.2.2 26 2 x.2.1 (encL TSpan_cells res)]:=by
 subst hn0_0
 unfold fm at h
 refine ad (m:=101) Tryz.func44 rfl rfl (nB rfl) (cS (cR ?_))
 refine aO [vI p1.fLo,vI p1.fHi] rfl rfl rfl (fun b1 => ?_)
 refine oY rfl (yAS rfl) (oN (eT (cS (cR (oY rfl (yAS rfl) (oN (eT (cS (cS (cR (oY rfl (yAI rfl) (oN (eT (cB ?_))))))))))))))
 obtain ⟨u5,hl14,h⟩:=bOs h
 refine ci 26 2 ?_
 refine bc (fun (s:(Int × (List TSpan))) L tm => ∃ (tm0:Nat → Value) (A1_s:Option Addr) (c1_s:Nat) (n1_s:Nat),n1_s = s.2.length ∧ L = [aj b1 26 [vI p1.fLo,vI p1.fHi],aI A1_s c1_s 26 2 n1_s (encL TSpan_cells s.2)] ∧ tm = (upd (upd (upd (upd (upd tm0 0 (.slice Aa p0.length ca)) 3 (.pointer (some ⟨b1,0,none⟩))) 4 (.slice none 0 0)) 5 (.slice A1_s n1_s c1_s)) 6 (vI s.1))) 0 hl14 ⟨_,none,0,0,rfl,rfl,(kp4 (kp rfl))⟩ ?_ ?_
 ·rintro s4 L tm st ⟨tm0_s4,A1_s4,c1_s4,n1_s4,rfl,rfl,rfl⟩ h
  unfold dz at h
  refine cS (cS (cR (oY rfl (yMI rfl) (oY rfl (yMS rfl) (oY rfl (bd (us:=[]) eg rfl) (oY rfl (bm rfl rfl) (oN (eT ?_))))))))
  rcases iOs h with ⟨hp6,h⟩ | ⟨hp6,h⟩
  ·refine cT (vB hp6) (cK (eT (cS (cB (cS ?_)))))
   refine ba 9 cm (by kernel_rfl) (by kernel_rfl) ?_
   refine qY rfl (yMS rfl) (qY rfl (yMI rfl) ?_)
   obtain ⟨hg7,h⟩:=gOs h
   refine qY rfl (yI fc (by decide) hg7.1 hg7.2 (RdL.arg hr0_0) (eL ab rfl) rfl rfl) ?_
   refine qY rfl (yFR (A:=Aa) (j:=(Int.toNat s4.1 * 2)) bL rfl) (qY rfl (yR (A:=Aa) (j:=((Int.toNat s4.1 * 2) + 1)) (v:=vI ((rdL p0 s4.1).fHi)) aV (RdL.arg hr0_0) rfl (eG ab hg7.1 (av hg7.2 rfl) rfl)) (qY rfl (aX rfl rfl) (qY rfl (yFA co rfl) (qY rfl (yL 0 aV rfl rfl rfl) (qY rfl (bm rfl rfl) (bX (oN (eT ?_))))))))
   rcases iOs h with ⟨hp8,h⟩ | ⟨hp8,h⟩
   ·refine cT (vB hp8) (cR (oY rfl (yMS rfl) (oY rfl (yMS rfl) (oY rfl (yMI rfl) ?_))))
    obtain ⟨hg9,h⟩:=gOs h
    refine oY rfl (yI fc (by decide) hg9.1 hg9.2 (RdL.arg hr0_0) (eL ab rfl) rfl rfl) ?_
    refine oY rfl (yM (A:=Aa) (j:=(Int.toNat s4.1 * 2)) [vI ((rdL p0 s4.1).fLo),vI ((rdL p0 s4.1).fHi)] jv (Nat.succ_pos _) (RdL.arg hr0_0) rfl (aU ab hg9.1 (av hg9.2 rfl))) ?_
    refine aG 1 (encL TSpan_cells [(TSpan.mk ((rdL p0 s4.1).fLo) ((rdL p0 s4.1).fHi))]) _ l1 eg ij kP (by decide) (by decide) (by kernel_rfl) (eL ab rfl) rfl (fun b10 => ?_)
    obtain ⟨hg13,h⟩:=gOs h
    refine bn 1 eg ij kP rfl rfl rfl (RdL.row 2 rfl) (eL ab rfl) (bO cN _) (bW hg13 (by decide)) rfl (fun A11 c12 => ?_)
    refine oY rfl (yAS rfl) (oN (aw (eT (cR (oY rfl (yMI rfl) (oY rfl (aX rfl rfl) (oY rfl (yAI rfl) (oN (aQ 2 ?_)))))))))
    obtain rfl:=sI h
    exact eN ⟨_,A11,c12,(s4.2.length + 1),(dT rfl rfl),rfl,(kp4 (kp rfl))⟩
   ·refine cF (vB hp8) (cK (aw (eT (cR (oY rfl (yMI rfl) (oY rfl (aX rfl rfl) (oY rfl (yAI rfl) (oN ?_))))))))
    obtain rfl:=sI h
    exact eN ⟨_,A1_s4,c1_s4,s4.2.length,rfl,rfl,(kp4 (kp rfl))⟩
  ·refine cF (vB hp6) (aH (ah ?_))
   obtain rfl:=sI h
   exact ax ⟨rfl,_,A1_s4,c1_s4,s4.2.length,rfl,rfl,(kp4 (kp rfl))⟩
 ·intro e L tm hJ
  obtain ⟨rfl,tm0_u5,A1_u5,c1_u5,n1_u5,rfl,rfl,rfl⟩:=hJ
  refine ⟨(by intro hc; cases hc),?_⟩
  refine ac (eT (cS (cS (cR (oY rfl (yAI rfl) (oN (eT (cB ?_))))))))
  obtain ⟨u18,hl28,h⟩:=bOs h
  refine bc (fun (s:(Int × Int × Int)) L tm => ∃ (tm0:Nat → Value),L = [aj b1 26 [vI s.2.1,vI s.2.2],aI A1_u5 c1_u5 26 2 u5.2.length (encL TSpan_cells u5.2)] ∧ tm = (upd (upd (upd (upd (upd tm0 0 (.slice Aa p0.length ca)) 3 (.pointer (some ⟨b1,0,none⟩))) 4 (.slice none 0 0)) 5 (.slice A1_u5 u5.2.length c1_u5)) 7 (vI s.1))) 2 hl28 ⟨_,rfl,(kp4 (kp rfl))⟩ ?_ ?_
  ·rintro s17 L tm st ⟨tm0_s17,rfl,rfl⟩ h
   unfold d8 at h
   refine cS (cS (cR (oY rfl (yMI rfl) (oY rfl (yMS rfl) (oY rfl (bd (us:=[]) eg rfl) (oY rfl (bm rfl rfl) (oN (eT ?_))))))))
   rcases iOs h with ⟨hp19,h⟩ | ⟨hp19,h⟩
   ·refine cT (vB hp19) (cK (eT (cS (cB (cS ?_)))))
    refine ba 20 cm (by kernel_rfl) (by kernel_rfl) ?_
    refine qY rfl (yMS rfl) (qY rfl (yMI rfl) ?_)
    obtain ⟨hg20,h⟩:=gOs h
    refine qY rfl (yI fc (by decide) hg20.1 hg20.2 (RdL.arg hr0_0) (eL ab rfl) rfl rfl) ?_
    refine qY rfl (yFR (A:=Aa) (j:=(Int.toNat s17.1 * 2)) bL rfl) (qY rfl (yR (A:=Aa) (j:=((Int.toNat s17.1 * 2) + 1)) (v:=vI ((rdL p0 s17.1).fHi)) aV (RdL.arg hr0_0) rfl (eG ab hg20.1 (av hg20.2 rfl) rfl)) (qY rfl (aX rfl rfl) (qY rfl (yFA co rfl) (qY rfl (yL 0 aV rfl rfl rfl) (qY rfl (pG rfl rfl) (qY rfl (yMB rfl) ?_))))))
    obtain ⟨b22,hb23,h⟩:=bOs h
    refine qJ 10 (fun tm0 => (upd (upd (upd (upd (upd (upd (upd tm0 0 (.slice Aa p0.length ca)) 3 (.pointer (some ⟨b1,0,none⟩))) 4 (.slice none 0 0)) 5 (.slice A1_u5 u5.2.length c1_u5)) 7 (vI s17.1)) 34 (.bool (decide (s17.1 < (p0.length:Int))))) 56 (.bool b22))) (fun tm0 => ?_) (fun key => ?_)
    ·refine bX (oN (eT ?_))
     rcases iOs h with ⟨hp24,h⟩ | ⟨hp24,h⟩
     ·refine cT (vB hp24) ?_
      refine ba 17 cm (by kernel_rfl) (by kernel_rfl) ?_
      refine qY rfl (yFA co rfl) (qY rfl (yL 0 aV rfl rfl rfl) (qY rfl (yMS rfl) (qY rfl (yMI rfl) ?_)))
      obtain ⟨hg25,h⟩:=gOs h
      refine qY rfl (yI fc (by decide) hg25.1 hg25.2 (RdL.arg hr0_0) (eL ab rfl) rfl rfl) ?_
      refine qY rfl (yFR (A:=Aa) (j:=(Int.toNat s17.1 * 2)) co rfl) (qY rfl (yR (A:=Aa) (j:=((Int.toNat s17.1 * 2) + 0)) (v:=vI ((rdL p0 s17.1).fLo)) aV (RdL.arg hr0_0) rfl (eG ab hg25.1 (av hg25.2 rfl) rfl)) (qY rfl (y_min rfl rfl) (qY rfl (yFA bL rfl) (qY rfl (yL 0 aV rfl rfl rfl) (qY rfl (yMS rfl) (qY rfl (yMI rfl) ?_))))))
      obtain ⟨hg26,h⟩:=gOs h
      refine qY rfl (yI fc (by decide) hg26.1 hg26.2 (RdL.arg hr0_0) (eL ab rfl) rfl rfl) ?_
      refine qY rfl (yFR (A:=Aa) (j:=(Int.toNat s17.1 * 2)) bL rfl) (qY rfl (yR (A:=Aa) (j:=((Int.toNat s17.1 * 2) + 1)) (v:=vI ((rdL p0 s17.1).fHi)) aV (RdL.arg hr0_0) rfl (eG ab hg26.1 (av hg26.2 rfl) rfl)) (qY rfl (y_max rfl rfl) ?_))
      refine qY rfl (aL [vI (min s17.2.1 ((rdL p0 s17.1).fLo)),vI (max s17.2.2 ((rdL p0 s17.1).fHi))] [(0,1),(1,1)] px ij (by kernel_rfl)) ?_
      refine bX (bT rfl (yS 0 [vI (min s17.2.1 ((rdL p0 s17.1).fLo)),vI (max s17.2.2 ((rdL p0 s17.1).fHi))] ro rfl (nB rfl) rfl rfl rfl) (oN (aw (eT (cR (oY rfl (yMI rfl) (oY rfl (aX rfl rfl) (oY rfl (yAI rfl) (oN ?_)))))))))
      obtain rfl:=sI h
      exact eN ⟨_,rfl,(kp4 (kp rfl))⟩
     ·refine cF (vB hp24) (cK (aw (eT (cR (oY rfl (yMI rfl) (oY rfl (aX rfl rfl) (oY rfl (yAI rfl) (oN ?_))))))))
      obtain rfl:=sI h
      exact eN ⟨_,rfl,(kp4 (kp rfl))⟩
    ·clear h; rcases iOs hb23 with ⟨hp21,h⟩ | ⟨hp21,h⟩
     ·refine qY (sT rfl rfl rfl rfl hp21) (yMS rfl) (qY (sT rfl rfl rfl rfl hp21) (yMI rfl) ?_)
      obtain ⟨hg27,h⟩:=gOs h
      refine qY (sT rfl rfl rfl rfl hp21) (yI fc (by decide) hg27.1 hg27.2 (RdL.arg hr0_0) (eL ab rfl) rfl rfl) ?_
      refine qY (sT rfl rfl rfl rfl hp21) (yFR (A:=Aa) (j:=(Int.toNat s17.1 * 2)) co rfl) (qY (sT rfl rfl rfl rfl hp21) (yR (A:=Aa) (j:=((Int.toNat s17.1 * 2) + 0)) (v:=vI ((rdL p0 s17.1).fLo)) aV (RdL.arg hr0_0) rfl (eG ab hg27.1 (av hg27.2 rfl) rfl)) (qY (sT rfl rfl rfl rfl hp21) (yFA bL rfl) (qY (sT rfl rfl rfl rfl hp21) (yL 0 aV rfl rfl rfl) (qY (sT rfl rfl rfl rfl hp21) (aX rfl rfl) (qY (sT rfl rfl rfl rfl hp21) (jX rfl rfl) (qY rfl (ae (vB hp21) rfl) ?_))))))
      obtain rfl:=sI h
      exact key _ _ (kp4 (kp (kp (kp rfl))))
     ·refine am (sF rfl rfl rfl rfl hp21) (am (sF rfl rfl rfl rfl hp21) (am (sF rfl rfl rfl rfl hp21) (am (sF rfl rfl rfl rfl hp21) (am (sF rfl rfl rfl rfl hp21) (am (sF rfl rfl rfl rfl hp21) (am (sF rfl rfl rfl rfl hp21) (am (sF rfl rfl rfl rfl hp21) (am (sF rfl rfl rfl rfl hp21) (qY rfl (ag (vB hp21) rfl) ?_)))))))))
      obtain rfl:=sI h
      exact key _ _ (kp4 (kp (kp (kp rfl))))
   ·refine cF (vB hp19) (aH (ah ?_))
    obtain rfl:=sI h
    exact ax ⟨rfl,_,rfl,(kp4 (kp rfl))⟩
  ·intro e L tm hJ
   obtain ⟨rfl,tm0_u18,rfl,rfl⟩:=hJ
   refine ⟨(by intro hc; cases hc),?_⟩
   refine ac (eT (cS (cR (oY rfl (yMS rfl) (oY rfl (yN 0 [vI u18.2.1,vI u18.2.2] jv rfl rfl rfl) ?_)))))
   refine aG 1 (encL TSpan_cells [(TSpan.mk u18.2.1 u18.2.2)]) _ l1 eg ij kP (by decide) (by decide) (by kernel_rfl) (eL ab rfl) rfl (fun b29 => ?_)
   obtain ⟨hg32,h⟩:=gOs h
   refine bn 1 eg ij kP rfl rfl rfl (RdL.row 2 rfl) (eL ab rfl) (bO cN _) (bW hg32 (by decide)) rfl (fun A30 c31 => ?_)
   refine oY rfl (yAS rfl) (oN (eT (cS (cS (cR (oY rfl (yAI rfl) (oN (eT (cB ?_)))))))))
   obtain ⟨u36,hl45,h⟩:=bOs h
   refine bc (fun (s:(Int × (List TSpan))) L tm => ∃ (tm0:Nat → Value) (A1_s:Option Addr) (c1_s:Nat) (n1_s:Nat),n1_s = s.2.length ∧ L = [aj b1 26 [vI u18.2.1,vI u18.2.2],aI A1_s c1_s 26 2 n1_s (encL TSpan_cells s.2),aI (some ⟨b29,0,none⟩) 1 26 2 1 (encL TSpan_cells [(TSpan.mk u18.2.1 u18.2.2)])] ∧ tm = (upd (upd (upd (upd (upd tm0 0 (.slice Aa p0.length ca)) 3 (.pointer (some ⟨b1,0,none⟩))) 4 (.slice none 0 0)) 5 (.slice A1_s n1_s c1_s)) 8 (vI s.1))) 4 hl45 ⟨_,A30,c31,(u5.2.length + 1),(dT rfl rfl),rfl,(kp4 (kp rfl))⟩ ?_ ?_
   ·rintro s35 L tm st ⟨tm0_s35,A1_s35,c1_s35,n1_s35,rfl,rfl,rfl⟩ h
    unfold dw at h
    refine cS (cS (cR (oY rfl (yMI rfl) (oY rfl (yMS rfl) (oY rfl (bd (us:=[]) eg rfl) (oY rfl (bm rfl rfl) (oN (eT ?_))))))))
    rcases iOs h with ⟨hp37,h⟩ | ⟨hp37,h⟩
    ·refine cT (vB hp37) (cK (eT (cS (cB (cS ?_)))))
     refine ba 9 cm (by kernel_rfl) (by kernel_rfl) ?_
     refine qY rfl (yMS rfl) (qY rfl (yMI rfl) ?_)
     obtain ⟨hg38,h⟩:=gOs h
     refine qY rfl (yI fc (by decide) hg38.1 hg38.2 (RdL.arg hr0_0) (eL ab rfl) rfl rfl) ?_
     refine qY rfl (yFR (A:=Aa) (j:=(Int.toNat s35.1 * 2)) co rfl) (qY rfl (yR (A:=Aa) (j:=((Int.toNat s35.1 * 2) + 0)) (v:=vI ((rdL p0 s35.1).fLo)) aV (RdL.arg hr0_0) rfl (eG ab hg38.1 (av hg38.2 rfl) rfl)) (qY rfl (yFA bL rfl) (qY rfl (yL 0 aV rfl rfl rfl) (qY rfl (aX rfl rfl) (qY rfl (eI rfl rfl) (bX (oN (eT ?_))))))))
     rcases iOs h with ⟨hp39,h⟩ | ⟨hp39,h⟩
     ·refine cT (vB hp39) (cR (oY rfl (yMS rfl) (oY rfl (yMS rfl) (oY rfl (yMI rfl) ?_))))
      obtain ⟨hg40,h⟩:=gOs h
      refine oY rfl (yI fc (by decide) hg40.1 hg40.2 (RdL.arg hr0_0) (eL ab rfl) rfl rfl) ?_
      refine oY rfl (yM (A:=Aa) (j:=(Int.toNat s35.1 * 2)) [vI ((rdL p0 s35.1).fLo),vI ((rdL p0 s35.1).fHi)] jv (Nat.succ_pos _) (RdL.arg hr0_0) rfl (aU ab hg40.1 (av hg40.2 rfl))) ?_
      refine aG 1 (encL TSpan_cells [(TSpan.mk ((rdL p0 s35.1).fLo) ((rdL p0 s35.1).fHi))]) _ l1 eg ij kP (by decide) (by decide) (by kernel_rfl) (eL ab rfl) rfl (fun b41 => ?_)
      obtain ⟨hg44,h⟩:=gOs h
      refine bn 1 eg ij kP rfl rfl rfl (RdL.row 3 rfl) (eL ab rfl) (bO cN _) (bW hg44 (by decide)) rfl (fun A42 c43 => ?_)
      refine oY rfl (yAS rfl) (oN (aw (eT (cR (oY rfl (yMI rfl) (oY rfl (aX rfl rfl) (oY rfl (yAI rfl) (oN (aQ 3 ?_)))))))))
      obtain rfl:=sI h
      exact eN ⟨_,A42,c43,(s35.2.length + 1),(dT rfl rfl),rfl,(kp4 (kp rfl))⟩
     ·refine cF (vB hp39) (cK (aw (eT (cR (oY rfl (yMI rfl) (oY rfl (aX rfl rfl) (oY rfl (yAI rfl) (oN ?_))))))))
      obtain rfl:=sI h
      exact eN ⟨_,A1_s35,c1_s35,s35.2.length,rfl,rfl,(kp4 (kp rfl))⟩
    ·refine cF (vB hp37) (aH (ah ?_))
     obtain rfl:=sI h
     exact ax ⟨rfl,_,A1_s35,c1_s35,s35.2.length,rfl,rfl,(kp4 (kp rfl))⟩
   ·intro e L tm hJ
    obtain ⟨rfl,tm0_u36,A1_u36,c1_u36,n1_u36,rfl,rfl,rfl⟩:=hJ
    refine ⟨(by intro hc; cases hc),?_⟩
    refine ac (eT (cS (cR (oY rfl (yMS rfl) (oY rfl (yAS rfl) (oN (eT (al ?_))))))))
    obtain rfl:=sI h
    exact ap (.inl rfl) rfl (rVt (v:=.slice A1_u36 u36.2.length c1_u36) rfl) (fun W2 hW2 => ⟨(A1_u36,u36.2.length,c1_u36),rfl,rfl,(hW2.pick 1 rfl)⟩)
theorem o6 (p0:TR) (p1:Int) (p2:TSpan) (res:TMade) (h:iM p0 p1 p2 = some res) (W:World) (Ab:Option Addr) (n0_1 cb : Nat) (ys0_1:List (Hd × TT)) (hn0_1:n0_1 = p0.fT.length) (hr0_1:Rd W Ab n0_1 cb (encL TTrack_cells2 ys0_1)) (hN0_1:NestW W (fun z : TT => z.fK) TSpan_cells ys0_1 p0.fT) (wb:World) (Hb:World → Prop) (hB:∀ W3,Below W.heap.size W W3 → Below wb.heap.size wb W3 ∧ Hb W3) :
  Calls Tryz.prog 13 [.agg #[vI p0.fL,.slice Ab n0_1 cb],vI p1,.agg #[vI p2.fLo,vI p2.fHi]].toArray W fun e W2 => ∃ x : ((Option Addr × Nat × Nat) × (List (Hd × TT)) × Res),(x.1.2.1 = res.fR.fT.length ∧ NestP (fun z : TT => z.fK) x.2.1 res.fR.fT ∧ PvL (fun z : TT => z.fK) TSpan_cells wb (fun W4 => Hb W4 ∧ Res.holds x.2.2 W4) x.2.1) ∧ e = .returned (.agg #[vI res.fR.fL,.slice x.1.1 x.1.2.1 x.1.2.2,vI res.fE]) ∧ Ext W W2 [aI x.1.1 x.1.2.2 39 6 x.1.2.1 (encL TTrack_cells2 x.2.1),x.2.2]:=by
 subst hn0_1
 unfold iM at h
 refine ad (m:=87) Tryz.func13 rfl rfl (nB rfl) (cS (cR ?_))
 refine aO [vI p0.fL,.slice Ab p0.fT.length cb] rfl rfl rfl (fun b1 => ?_)
 refine aO [vI p2.fLo,vI p2.fHi] rfl rfl rfl (fun b2 => ?_)
 refine aB qd rfl (fun b3 => ?_)
 refine oN (eT (cS (cR (oY rfl (yN 0 [vI p0.fL,.slice Ab p0.fT.length cb] dl rfl rfl rfl) ?_))))
 obtain ⟨y4,hy5,h⟩:=bOs h
 refine oY rfl (yC [.agg #[vI p0.fL,.slice Ab p0.fT.length cb]] go_15 rfl (fun W2 hW2 => kC p0 y4 hy5 W2 Ab p0.fT.length cb ys0_1 rfl ((RdL.arg hr0_1) W2 hW2) (NestL.at (NestL.arg hN0_1) W2 hW2)) rfl) (oY rfl (yAI rfl) (oN (eT (cS (cS (cR (oY rfl (yMI rfl) (oY rfl (db rfl rfl) (oN (eT ?_))))))))))
 rcases iOs h with ⟨hp6,h⟩ | ⟨hp6,h⟩
 ·refine cT (vB hp6) (cS (cR (oY rfl (yMI rfl) ?_)))
  refine oY rfl (aL [vI 0,.slice none 0 0,vI y4] [(0,2),(2,1)] pV qd (by kernel_rfl)) ?_
  refine bT rfl (yS 2 [vI 0,.slice none 0 0,vI y4] ra rfl (nB rfl) rfl rfl rfl) (oN (eT (al (aa ?_))))
  obtain rfl:=sI h
  exact ap (.inl rfl) rfl (bf 2 [vI 0,.slice none 0 0,vI y4] sa rfl rfl rfl) (fun W2 hW2 => ⟨((none,0,0),[],noR),⟨rfl,NestP.nil,PvL.nil⟩,rfl,(hW2.nilrow 39 6).addNo.pickL [3,4] (by decide) rfl⟩)
 ·refine cF (vB hp6) (cK (eT (cS (cR (oY rfl (yN 0 [vI p0.fL,.slice Ab p0.fT.length cb] dl rfl rfl rfl) (oY rfl (yMI rfl) ?_))))))
  obtain ⟨y7,hy8,h⟩:=bOs h
  refine oY rfl (yC [.agg #[vI p0.fL,.slice Ab p0.fT.length cb],vI p1] go_43 rfl (fun W2 hW2 => nU p0 p1 y7 hy8 W2 Ab p0.fT.length cb ys0_1 rfl ((RdL.arg hr0_1) W2 hW2) (NestL.at (NestL.arg hN0_1) W2 hW2)) rfl) (oY rfl (yAI rfl) (oN (eT (cS (cS (cR (oY rfl (yMI rfl) (oY rfl (bm rfl rfl) (oN (eT ?_))))))))))
  rcases iOs h with ⟨hp9,h⟩ | ⟨hp9,h⟩
  ·refine cT (vB hp9) (cS (cR ?_))
   refine oY rfl (aL [vI 0,.slice none 0 0,vI 5] [(0,2),(2,1)] pV qd (by kernel_rfl)) ?_
   refine bT rfl (yS 2 [vI 0,.slice none 0 0,vI 5] ra rfl (nB rfl) rfl rfl rfl) (oN (eT (al (aa ?_))))
   obtain rfl:=sI h
   exact ap (.inl rfl) rfl (bf 2 [vI 0,.slice none 0 0,vI 5] sa rfl rfl rfl) (fun W2 hW2 => ⟨((none,0,0),[],noR),⟨rfl,NestP.nil,PvL.nil⟩,rfl,(hW2.nilrow 39 6).addNo.pickL [3,4] (by decide) rfl⟩)
  ·refine cF (vB hp9) (cK (eT (cS (cR (oY rfl (yFA co rfl) (oY rfl (yL 1 aV rfl rfl rfl) ?_))))))
   obtain ⟨y10,hy11,h⟩:=bOs h
   refine oY rfl (yC [vI p2.fLo] oP rfl (fun W2 hW2 => cC p2.fLo y10 hy11 W2 ) rfl) (oY rfl (yAB rfl) (oN (eT (cS (cR (oY rfl (yFA bL rfl) (oY rfl (yL 1 aV rfl rfl rfl) ?_)))))))
   obtain ⟨y12,hy13,h⟩:=bOs h
   refine oY rfl (yC [vI p2.fHi] oP rfl (fun W2 hW2 => cC p2.fHi y12 hy13 W2 ) rfl) (oY rfl (yAB rfl) (oN (eT (cS (cS (cR (oY rfl (yMB rfl) (oY rfl (bM rfl) (oY rfl (yMB rfl) ?_)))))))))
   refine oJ 3 (fun tm0 => (upd (upd (upd (upd (upd tm0 3 (.pointer (some ⟨b1,0,none⟩))) 5 (.pointer (some ⟨b2,0,none⟩))) 6 (.pointer (some ⟨b3,0,none⟩))) 8 (vI y7)) 37 (.bool ((!y10) || (!y12))))) (fun tm0 => ?_) (fun key => ?_)
   ·refine oY rfl (yMB rfl) ?_
    refine oJ 6 (fun tm0 => (upd (upd (upd (upd (upd tm0 3 (.pointer (some ⟨b1,0,none⟩))) 5 (.pointer (some ⟨b2,0,none⟩))) 6 (.pointer (some ⟨b3,0,none⟩))) 8 (vI y7)) 44 (.bool (((!y10) || (!y12)) || (decide (p2.fHi < p2.fLo)))))) (fun tm0 => ?_) (fun key => ?_)
    ·refine oN (eT ?_)
     rcases iOs h with ⟨hp16,h⟩ | ⟨hp16,h⟩
     ·refine cT (vB hp16) (cS (cR ?_))
      refine oY rfl (aL [vI 0,.slice none 0 0,vI 1] [(0,2),(2,1)] pV qd (by kernel_rfl)) ?_
      refine bT rfl (yS 2 [vI 0,.slice none 0 0,vI 1] ra rfl (nB rfl) rfl rfl rfl) (oN (eT (al (aa ?_))))
      obtain rfl:=sI h
      exact ap (.inl rfl) rfl (bf 2 [vI 0,.slice none 0 0,vI 1] sa rfl rfl rfl) (fun W2 hW2 => ⟨((none,0,0),[],noR),⟨rfl,NestP.nil,PvL.nil⟩,rfl,(hW2.nilrow 39 6).addNo.pickL [3,4] (by decide) rfl⟩)
     ·refine cF (vB hp16) (cK (eT (cS (cR (oY rfl (yFA eE rfl) (oY rfl (yL 0 aV rfl rfl rfl) ?_))))))
      refine oY rfl (aL [vI p0.fL,.slice none 0 0] [(0,1),(1,1)] me kQ (by kernel_rfl)) ?_
      refine aB kQ rfl (fun b17 => ?_)
      refine bT rfl (yS 3 [vI p0.fL,.slice none 0 0] nu rfl (nB rfl) rfl rfl rfl) (oN (eT (cS (cS (cR (oY rfl (yAI rfl) (oN (eT (cB ?_)))))))))
      obtain ⟨u21,hl45,h⟩:=bOs h
      refine ci 39 6 (ci 39 6 (kc (kc ?_)))
      refine bB (fun (s:(Int × Int × (List TT))) L tm => ∃ (tm0:Nat → Value) (A5_s:Option Addr) (c5_s:Nat) (n5_s:Nat) (ys5_s:List (Hd × TT)) (F5_s:Res),n5_s = s.2.2.length ∧ NestP (fun z : TT => z.fK) ys5_s s.2.2 ∧ PvL (fun z : TT => z.fK) TSpan_cells wb (fun W4 => Hb W4 ∧ Res.holds F5_s W4) ys5_s ∧ L = [aj b1 24 [vI p0.fL,.slice Ab p0.fT.length cb],aj b2 26 [vI p2.fLo,vI p2.fHi],aj b3 48 [vI 0,.slice none 0 0,vI s.2.1],aj b17 24 [vI p0.fL,.slice A5_s n5_s c5_s],aI none 0 39 6 0 (encL TTrack_cells2 ([]:List (Hd × TT))),aI A5_s c5_s 39 6 n5_s (encL TTrack_cells2 ys5_s),noR,F5_s] ∧ tm = (upd (upd (upd (upd (upd (upd tm0 3 (.pointer (some ⟨b1,0,none⟩))) 5 (.pointer (some ⟨b2,0,none⟩))) 6 (.pointer (some ⟨b3,0,none⟩))) 8 (vI y7)) 11 (.pointer (some ⟨b17,0,none⟩))) 12 (vI s.1))) 0 hl45 ⟨_,none,0,0,([]:List (Hd × TT)),noR,rfl,NestP.nil,(PvL.mono (Hb:=Hb) PvL.nil (fun _ _ h => h.1)),rfl,(kp4 (kp (kp rfl)))⟩ ?_ ?_
      ·rintro s20 L tm st ⟨tm0_s20,A5_s20,c5_s20,n5_s20,ys5_s20,F5_s20,rfl,hP5_s20,hV5_s20,rfl,rfl⟩ h
       unfold gK at h
       refine cS (cS (cR ?_))
       try dsimp only [lna,lca,lsz,lss]
       refine oY rfl (yMI rfl) (oY rfl (yFA bu rfl) (oY rfl (yL 0 ee rfl rfl rfl) (oY rfl (bd (us:=[]) fq rfl) (oY rfl (bm rfl rfl) (oN (eT ?_))))))
       rcases iOs h with ⟨hp22,h⟩ | ⟨hp22,h⟩
       ·refine cT (vB hp22) (cK (eT (cS (cB (cS (cR (oY rfl (yFA bu rfl) (oY rfl (yL 0 ee rfl rfl rfl) (oY rfl (yMI rfl) ?_)))))))))
        obtain ⟨hg23,h⟩:=gOs h
        refine oY rfl (yI im (by decide) hg23.1 hg23.2 (RdL.arg hr0_1) (eL ak (NestP.hn hN0_1.p rfl)) rfl rfl) ?_
        refine oY rfl (yM (A:=Ab) (j:=(Int.toNat s20.1 * 6)) [vI ((rdL p0.fT s20.1).fID),vI ((rdL p0.fT s20.1).fFrom),vI ((rdL p0.fT s20.1).fTo),vI ((rdL p0.fT s20.1).fLong),vI ((rdL p0.fT s20.1).fToll),.slice ((rdL ys0_1 s20.1).1.1) ((rdL p0.fT s20.1).fK.length) ((rdL ys0_1 s20.1).1.2.2)] jJ (Nat.succ_pos _) (RdL.arg hr0_1) rfl (ja (bU (NestP.snd hN0_1.p s20.1) (NestP.len hN0_1.p hg23.1 (av hg23.2 rfl))).symm (aU ak hg23.1 (av hg23.2 (NestP.hn hN0_1.p rfl))))) ?_
        refine aB iK rfl (fun b24 => ?_)
        try dsimp only [lna,lca,lsz,lss]
        refine bT rfl (yS 8 [vI ((rdL p0.fT s20.1).fID),vI ((rdL p0.fT s20.1).fFrom),vI ((rdL p0.fT s20.1).fTo),vI ((rdL p0.fT s20.1).fLong),vI ((rdL p0.fT s20.1).fToll),.slice ((rdL ys0_1 s20.1).1.1) ((rdL p0.fT s20.1).fK.length) ((rdL ys0_1 s20.1).1.2.2)] qh rfl (nB rfl) rfl rfl rfl) (oN (eT (cS (cR ?_))))
        refine dL TSpan_cells eg ij kP rfl (fun b25 => ?_)
        try dsimp only [lna,lca,lsz,lss]
        refine oY rfl (yFA cg rfl) (oY rfl (yL 8 io rfl rfl rfl) ?_)
        obtain ⟨hg28,h⟩:=gOs h
        refine bn 9 eg ij kP rfl rfl rfl (NestL.rd (NestL.arg hN0_1) hg23.1 (av hg23.2 rfl)) (eL ab rfl) (bO cN _) (bW hg28 (by decide)) rfl (fun A26 c27 => ?_)
        refine oY rfl (yFA cg rfl) (bT rfl (cv 8 (v:=.slice A26 (0 + ((rdL p0.fT s20.1).fK.length)) c27) sz_37 rfl (Nat.lt_of_lt_of_le (Nat.lt_succ_self _) (nB rfl)) rfl rfl rfl) (oN (eT (cS (cS (cR (oY rfl (yMI rfl) (oY rfl (yMI rfl) (oY rfl (dA rfl rfl) (oN (eT ?_)))))))))))
        rcases iOs h with ⟨hp29,h⟩ | ⟨hp29,h⟩
        ·refine cT (vB hp29) (cS (cR (oY rfl (yFA cg rfl) (oY rfl (yL 8 io rfl rfl rfl) (oY rfl (yN 1 [vI p2.fLo,vI p2.fHi] jv rfl rfl rfl) ?_)))))
         obtain ⟨y30,hy31,h⟩:=bOs h
         refine oC [.slice A26 (0 + ((rdL p0.fT s20.1).fK.length)) c27,.agg #[vI p2.fLo,vI p2.fHi]] _ _ _ rfl go_44 rfl (fun W2 hW2 => m9 (([]:List TSpan) ++ ((rdL p0.fT s20.1).fK)) p2 y30 hy31 W2 A26 (0 + ((rdL p0.fT s20.1).fK.length)) c27 (dT rfl rfl) ((RdL.row 9 rfl) W2 hW2)) ?_
         rintro ⟨A32,n34,c33⟩ hn35
         replace hn35 : n34 = y30.length:=hn35; subst hn35
         try dsimp only [lna,lca,lsz,lss]
         refine oY rfl (yFA cg rfl) (bT rfl (cv 8 (v:=.slice A32 y30.length c33) sz_37 rfl (Nat.lt_of_lt_of_le (Nat.lt_succ_self _) (nB rfl)) rfl rfl rfl) (oN (eT (cS (cR (oY rfl (yFA cg rfl) (oY rfl (yL 8 io rfl rfl rfl) (oY rfl (bd (us:=[]) eg rfl) (oY rfl (eI rfl rfl) (oN (eT ?_)))))))))))
         rcases iOs h with ⟨hp36,h⟩ | ⟨hp36,h⟩
         ·refine cT (vB hp36) (cS (cR ?_))
          refine oY rfl (aL [vI 0,.slice none 0 0,vI 2] [(0,2),(2,1)] pV qd (by kernel_rfl)) ?_
          refine bT rfl (yS 2 [vI 0,.slice none 0 0,vI 2] ra rfl (nB rfl) rfl rfl rfl) (oN (eT (al (aa (ai (aa (aQ 8 ?_)))))))
          obtain rfl:=sI h
          exact ax ⟨rfl,_,A5_s20,c5_s20,s20.2.2.length,ys5_s20,F5_s20,rfl,hP5_s20,hV5_s20,rfl,(kp4 (kp (kp rfl)))⟩
         ·refine cF (vB hp36) (cK (eT (cR (oY rfl (yFA bu rfl) (oY rfl (yL 3 ee rfl rfl rfl) (oY rfl (yN 8 [vI ((rdL p0.fT s20.1).fID),vI ((rdL p0.fT s20.1).fFrom),vI ((rdL p0.fT s20.1).fTo),vI ((rdL p0.fT s20.1).fLong),vI ((rdL p0.fT s20.1).fToll),.slice A32 y30.length c33] jJ rfl rfl rfl) (mJ ?_)))))))
          refine gb 11 10 (by decide) rfl rfl ?_
          refine aG 1 (encL TTrack_cells2 [((A32,y30.length,c33),(TT.mk ((rdL p0.fT s20.1).fID) ((rdL p0.fT s20.1).fFrom) ((rdL p0.fT s20.1).fTo) ((rdL p0.fT s20.1).fLong) ((rdL p0.fT s20.1).fToll) y30))]) _ sR fq iK pR (by decide) (by decide) (by kernel_rfl) (eL ak rfl) rfl (fun b37 => ?_)
          try dsimp only [lna,lca,lsz,lss]
          obtain ⟨hg40,h⟩:=gOs h
          refine gb 7 11 (by decide) rfl rfl ?_
          refine bn 5 fq iK pR rfl rfl rfl (RdL.row 12 rfl) (eL ak (NestP.hn (NestP.cons (sel:=(fun z : TT => z.fK)) rfl NestP.nil) rfl)) (bO en _) (bW hg40 (by decide)) rfl (fun A38 c39 => ?_)
          refine oY rfl (yFA bu rfl) (bT rfl (cv 3 (v:=.slice A38 (s20.2.2.length + 1) c39) sz_22 rfl (Nat.lt_of_lt_of_le (Nat.lt_succ_self _) (nB rfl)) rfl rfl rfl) (oN (aw (eT (cR (oY rfl (yMI rfl) (oY rfl (aX rfl rfl) (oY rfl (yAI rfl) (oN (aQ 8 ?_))))))))))
          obtain rfl:=sI h
          exact eN ⟨_,A38,c39,(s20.2.2.length + 1),(ys5_s20 ++ [((A32,y30.length,c33),(TT.mk ((rdL p0.fT s20.1).fID) ((rdL p0.fT s20.1).fFrom) ((rdL p0.fT s20.1).fTo) ((rdL p0.fT s20.1).fLong) ((rdL p0.fT s20.1).fToll) y30))]),m4 F5_s20 (m4 noR (aI A32 c33 26 2 y30.length (encL TSpan_cells y30))),(dT rfl rfl),(NestP.app hP5_s20 (NestP.cons (sel:=(fun z : TT => z.fK)) rfl NestP.nil)),(PvL.app (PvL.mono (Hb:=(fun W4 => Hb W4 ∧ Res.holds F5_s20 W4)) hV5_s20 (fun _ _ h => ⟨h.1,h.2.1⟩)) (PvL.mono (Hb:=(fun W4 => Hb W4 ∧ Res.holds (m4 noR (aI A32 c33 26 2 y30.length (encL TSpan_cells y30))) W4)) (PvL.cons (fun _ _ h => dt h.2.2.1) (PvL.mono (Hb:=(fun W4 => Hb W4 ∧ Res.holds noR W4)) PvL.nil (fun _ _ h => ⟨h.1,h.2.1⟩))) (fun _ _ h => ⟨h.1,h.2.2.1⟩))),rfl,(kp4 (kp (kp rfl)))⟩
        ·refine cF (vB hp29) (cK (eT (cR (oY rfl (yFA bu rfl) (oY rfl (yL 3 ee rfl rfl rfl) (oY rfl (yN 8 [vI ((rdL p0.fT s20.1).fID),vI ((rdL p0.fT s20.1).fFrom),vI ((rdL p0.fT s20.1).fTo),vI ((rdL p0.fT s20.1).fLong),vI ((rdL p0.fT s20.1).fToll),.slice A26 (0 + ((rdL p0.fT s20.1).fK.length)) c27] jJ rfl rfl rfl) (mJ ?_)))))))
         refine gb 10 9 (by decide) rfl rfl ?_
         refine aG 1 (encL TTrack_cells2 [((A26,(0 + ((rdL p0.fT s20.1).fK.length)),c27),(TT.mk ((rdL p0.fT s20.1).fID) ((rdL p0.fT s20.1).fFrom) ((rdL p0.fT s20.1).fTo) ((rdL p0.fT s20.1).fLong) ((rdL p0.fT s20.1).fToll) (([]:List TSpan) ++ ((rdL p0.fT s20.1).fK))))]) _ sR fq iK pR (by decide) (by decide) (by kernel_rfl) (eL ak rfl) rfl (fun b41 => ?_)
         try dsimp only [lna,lca,lsz,lss]
         obtain ⟨hg44,h⟩:=gOs h
         refine gb 7 10 (by decide) rfl rfl ?_
         refine bn 5 fq iK pR rfl rfl rfl (RdL.row 11 rfl) (eL ak (NestP.hn (NestP.cons (sel:=(fun z : TT => z.fK)) (id (α:=(0 + ((rdL p0.fT s20.1).fK.length)) = (([]:List TSpan) ++ ((rdL p0.fT s20.1).fK)).length) (dT rfl rfl)) NestP.nil) rfl)) (bO en _) (bW hg44 (by decide)) rfl (fun A42 c43 => ?_)
         refine oY rfl (yFA bu rfl) (bT rfl (cv 3 (v:=.slice A42 (s20.2.2.length + 1) c43) sz_22 rfl (Nat.lt_of_lt_of_le (Nat.lt_succ_self _) (nB rfl)) rfl rfl rfl) (oN (aw (eT (cR (oY rfl (yMI rfl) (oY rfl (aX rfl rfl) (oY rfl (yAI rfl) (oN (aQ 8 ?_))))))))))
         obtain rfl:=sI h
         exact eN ⟨_,A42,c43,(s20.2.2.length + 1),(ys5_s20 ++ [((A26,(0 + ((rdL p0.fT s20.1).fK.length)),c27),(TT.mk ((rdL p0.fT s20.1).fID) ((rdL p0.fT s20.1).fFrom) ((rdL p0.fT s20.1).fTo) ((rdL p0.fT s20.1).fLong) ((rdL p0.fT s20.1).fToll) (([]:List TSpan) ++ ((rdL p0.fT s20.1).fK))))]),m4 F5_s20 (m4 noR (aI A26 c27 26 2 (0 + ((rdL p0.fT s20.1).fK.length)) (encL TSpan_cells (([]:List TSpan) ++ ((rdL p0.fT s20.1).fK))))),(dT rfl rfl),(NestP.app hP5_s20 (NestP.cons (sel:=(fun z : TT => z.fK)) (id (α:=(0 + ((rdL p0.fT s20.1).fK.length)) = (([]:List TSpan) ++ ((rdL p0.fT s20.1).fK)).length) (dT rfl rfl)) NestP.nil)),(PvL.app (PvL.mono (Hb:=(fun W4 => Hb W4 ∧ Res.holds F5_s20 W4)) hV5_s20 (fun _ _ h => ⟨h.1,h.2.1⟩)) (PvL.mono (Hb:=(fun W4 => Hb W4 ∧ Res.holds (m4 noR (aI A26 c27 26 2 (0 + ((rdL p0.fT s20.1).fK.length)) (encL TSpan_cells (([]:List TSpan) ++ ((rdL p0.fT s20.1).fK))))) W4)) (PvL.cons (fun _ _ h => dt h.2.2.1) (PvL.mono (Hb:=(fun W4 => Hb W4 ∧ Res.holds noR W4)) PvL.nil (fun _ _ h => ⟨h.1,h.2.1⟩))) (fun _ _ h => ⟨h.1,h.2.2.1⟩))),rfl,(kp4 (kp (kp rfl)))⟩
       ·refine cF (vB hp22) (aH (ah ?_))
        obtain rfl:=sI h
        exact ax ⟨rfl,_,A5_s20,c5_s20,s20.2.2.length,ys5_s20,F5_s20,rfl,hP5_s20,hV5_s20,rfl,(kp4 (kp (kp rfl)))⟩
      ·intro e L tm hJ
       rcases u21 with u46 | u47
       ·dsimp only at h hJ
        obtain ⟨rfl,tm0_u46,A5_u46,c5_u46,n5_u46,ys5_u46,F5_u46,rfl,hP5_u46,hV5_u46,rfl,rfl⟩:=hJ
        refine ⟨(by intro hc; cases hc),?_⟩
        refine ai (aa ?_)
        obtain rfl:=sI h
        exact ap (.inl rfl) rfl (bf 2 [vI 0,.slice none 0 0,vI u46.2.1] sa rfl rfl rfl) (fun W2 hW2 => ⟨((none,0,0),([]:List (Hd × TT)),noR),⟨rfl,NestP.nil,(PvL.mono (Hb:=Hb) PvL.nil (fun _ _ h => h.1))⟩,rfl,hW2.pickL [4,6] (by decide) rfl⟩)
       ·dsimp only at h hJ
        obtain ⟨rfl,tm0_u47,A5_u47,c5_u47,n5_u47,ys5_u47,F5_u47,rfl,hP5_u47,hV5_u47,rfl,rfl⟩:=hJ
        refine ⟨(by intro hc; cases hc),?_⟩
        refine ac (eT (cS (cR ?_)))
        try dsimp only [lna,lca,lsz,lss]
        refine oY rfl (yN 3 [vI p0.fL,.slice A5_u47 u47.2.2.length c5_u47] dl rfl rfl rfl) ?_
        refine oY rfl (aL [vI p0.fL,.slice A5_u47 u47.2.2.length c5_u47,vI 0] [(0,2),(2,1)] pV qd (by kernel_rfl)) ?_
        refine bT rfl (yS 2 [vI p0.fL,.slice A5_u47 u47.2.2.length c5_u47,vI 0] ra rfl (nB rfl) rfl rfl rfl) (oN (eT (al ?_)))
        obtain rfl:=sI h
        exact ap (.inl rfl) rfl (bf 2 [vI p0.fL,.slice A5_u47 u47.2.2.length c5_u47,vI 0] sa rfl rfl rfl) (fun W2 hW2 => ⟨((A5_u47,u47.2.2.length,c5_u47),ys5_u47,F5_u47),⟨rfl,hP5_u47,hV5_u47⟩,rfl,hW2.pickL [5,7] (by decide) rfl⟩)
    ·rcases aq ((!y10) || (!y12)) with hp15 | hp15
     ·refine oSk (sF rfl rfl rfl rfl hp15) (oSk (sF rfl rfl rfl rfl hp15) (oSk (sF rfl rfl rfl rfl hp15) (oSk (sF rfl rfl rfl rfl hp15) (oSk (sF rfl rfl rfl rfl hp15) (oY rfl (ae (vB hp15) rfl) ?_)))))
      exact key _ _ (keep (keep (keep (keep (keep rfl rfl) rfl) rfl) rfl) (vB (iI hp15)))
     ·refine oY (sT rfl rfl rfl rfl hp15) (yFA co rfl) (oY (sT rfl rfl rfl rfl hp15) (yL 1 aV rfl rfl rfl) (oY (sT rfl rfl rfl rfl hp15) (yFA bL rfl) (oY (sT rfl rfl rfl rfl hp15) (yL 1 aV rfl rfl rfl) (oY (sT rfl rfl rfl rfl hp15) (eI rfl rfl) (oY rfl (ag (vB hp15) rfl) ?_)))))
      exact key _ _ (keep (keep (keep (keep (keep rfl rfl) rfl) rfl) rfl) (vB (iH hp15)))
   ·rcases aq (!y10) with hp14 | hp14
    ·refine oSk (sF rfl rfl rfl rfl hp14) (oSk (sF rfl rfl rfl rfl hp14) (oY rfl (ae (vB hp14) rfl) ?_))
     exact key _ _ (keep (keep (keep (keep (keep rfl rfl) rfl) rfl) rfl) (vB (iI hp14)))
    ·refine oY (sT rfl rfl rfl rfl hp14) (yMB rfl) (oY (sT rfl rfl rfl rfl hp14) (bM rfl) (oY rfl (ag (vB hp14) rfl) ?_))
     exact key _ _ (keep (keep (keep (keep (keep rfl rfl) rfl) rfl) rfl) (vB (iH hp14)))
end Go.Proofs.YthndghnkebboaabGreat
set_option maxHeartbeats 4000000
set_option maxRecDepth 100000
namespace Go.Proofs.YthndghnkebboaabGreat
open Go.RowKit (Below)
attribute [local irreducible] OX QX CX EX OpY Calls CallsIn
theorem kZ (p0:TR) (p1:TR) (res:Bool) (h:d6 p0 p1 = some res) (W:World) (Ab:Option Addr) (n0_1 cb : Nat) (ys0_1:List (Hd × TT)) (hn0_1:n0_1 = p0.fT.length) (hr0_1:Rd W Ab n0_1 cb (encL TTrack_cells2 ys0_1)) (hN0_1:NestW W (fun z : TT => z.fK) TSpan_cells ys0_1 p0.fT) (A1_1:Option Addr) (n1_1 c1_1 : Nat) (ys1_1:List (Hd × TT)) (hn1_1:n1_1 = p1.fT.length) (hr1_1:Rd W A1_1 n1_1 c1_1 (encL TTrack_cells2 ys1_1)) (hN1_1:NestW W (fun z : TT => z.fK) TSpan_cells ys1_1 p1.fT) :
  Calls Tryz.prog 16 [.agg #[vI p0.fL,.slice Ab n0_1 cb],.agg #[vI p1.fL,.slice A1_1 n1_1 c1_1]].toArray W fun e W2 => e = .returned (.bool res) ∧ Ext W W2 []:=by
 subst hn0_1
 subst hn1_1
 unfold d6 at h
 refine ad (m:=100) Tryz.func16 rfl rfl (nB rfl) (cS (cR ?_))
 refine aO [vI p0.fL,.slice Ab p0.fT.length cb] rfl rfl rfl (fun b1 => ?_)
 refine aO [vI p1.fL,.slice A1_1 p1.fT.length c1_1] rfl rfl rfl (fun b2 => ?_)
 refine oY rfl (yAB rfl) (oN (eT (cS (cS (cR (oY rfl (yFA eE rfl) (oY rfl (yL 0 aV rfl rfl rfl) (oY rfl (yFA eE rfl) (oY rfl (yL 1 aV rfl rfl rfl) (oY rfl (db rfl rfl) (oY rfl (yMB rfl) ?_)))))))))))
 refine oJ 8 (fun tm0 => (upd (upd (upd (upd tm0 2 (.pointer (some ⟨b1,0,none⟩))) 3 (.pointer (some ⟨b2,0,none⟩))) 4 (.bool false)) 22 (.bool ((p0.fL != p1.fL) || ((p0.fT.length:Int) != (p1.fT.length:Int)))))) (fun tm0 => ?_) (fun key => ?_)
 ·refine oN (eT ?_)
  rcases iOs h with ⟨hp4,h⟩ | ⟨hp4,h⟩
  ·refine cT (vB hp4) (cS (cR (oY rfl (yAB rfl) (oN (eT (al (aa ?_)))))))
   obtain rfl:=sI h
   exact ap (.inl rfl) rfl (rVt (v:=.bool false) rfl) (fun W2 hW2 => ⟨rfl,hW2.none⟩)
  ·refine cF (vB hp4) (cK (eT (cS (cS (cR (oY rfl (yAI rfl) (oN (eT (cB ?_)))))))))
   obtain ⟨u7,hl29,h⟩:=bOs h
   refine bB (fun (s:(Bool × Int)) L tm => ∃ (tm0:Nat → Value),L = [aj b1 24 [vI p0.fL,.slice Ab p0.fT.length cb],aj b2 24 [vI p1.fL,.slice A1_1 p1.fT.length c1_1]] ∧ tm = (upd (upd (upd (upd tm0 2 (.pointer (some ⟨b1,0,none⟩))) 3 (.pointer (some ⟨b2,0,none⟩))) 4 (.bool s.1)) 5 (vI s.2))) 0 hl29 ⟨_,rfl,(kp4 rfl)⟩ ?_ ?_
   ·rintro s6 L tm st ⟨tm0_s6,rfl,rfl⟩ h
    unfold cr at h
    refine cS (cS (cR (oY rfl (yMI rfl) (oY rfl (yFA bu rfl) (oY rfl (yL 0 ee rfl rfl rfl) (oY rfl (bd (us:=[]) fq rfl) (oY rfl (bm rfl rfl) (oN (eT ?_)))))))))
    rcases iOs h with ⟨hp8,h⟩ | ⟨hp8,h⟩
    ·refine cT (vB hp8) (cK (eT (cS (cB (cS (cR (oY rfl (yFA bu rfl) (oY rfl (yL 0 ee rfl rfl rfl) (oY rfl (yMI rfl) ?_)))))))))
     obtain ⟨hg9,h⟩:=gOs h
     refine oY rfl (yI im (by decide) hg9.1 hg9.2 (RdL.arg hr0_1) (eL ak (NestP.hn hN0_1.p rfl)) rfl rfl) ?_
     refine oY rfl (yM (A:=Ab) (j:=(Int.toNat s6.2 * 6)) [vI ((rdL p0.fT s6.2).fID),vI ((rdL p0.fT s6.2).fFrom),vI ((rdL p0.fT s6.2).fTo),vI ((rdL p0.fT s6.2).fLong),vI ((rdL p0.fT s6.2).fToll),.slice ((rdL ys0_1 s6.2).1.1) ((rdL p0.fT s6.2).fK.length) ((rdL ys0_1 s6.2).1.2.2)] jJ (Nat.succ_pos _) (RdL.arg hr0_1) rfl (ja (bU (NestP.snd hN0_1.p s6.2) (NestP.len hN0_1.p hg9.1 (av hg9.2 rfl))).symm (aU ak hg9.1 (av hg9.2 (NestP.hn hN0_1.p rfl))))) ?_
     refine aB iK rfl (fun b10 => ?_)
     refine bT rfl (yS 2 [vI ((rdL p0.fT s6.2).fID),vI ((rdL p0.fT s6.2).fFrom),vI ((rdL p0.fT s6.2).fTo),vI ((rdL p0.fT s6.2).fLong),vI ((rdL p0.fT s6.2).fToll),.slice ((rdL ys0_1 s6.2).1.1) ((rdL p0.fT s6.2).fK.length) ((rdL ys0_1 s6.2).1.2.2)] qh rfl (nB rfl) rfl rfl rfl) (oN (eT (cS (cR (oY rfl (yFA bu rfl) (oY rfl (yL 1 ee rfl rfl rfl) (oY rfl (yMI rfl) ?_)))))))
     obtain ⟨hg11,h⟩:=gOs h
     refine oY rfl (yI im (by decide) hg11.1 hg11.2 (RdL.arg hr1_1) (eL ak (NestP.hn hN1_1.p rfl)) rfl rfl) ?_
     refine oY rfl (yM (A:=A1_1) (j:=(Int.toNat s6.2 * 6)) [vI ((rdL p1.fT s6.2).fID),vI ((rdL p1.fT s6.2).fFrom),vI ((rdL p1.fT s6.2).fTo),vI ((rdL p1.fT s6.2).fLong),vI ((rdL p1.fT s6.2).fToll),.slice ((rdL ys1_1 s6.2).1.1) ((rdL p1.fT s6.2).fK.length) ((rdL ys1_1 s6.2).1.2.2)] jJ (Nat.succ_pos _) (RdL.arg hr1_1) rfl (ja (bU (NestP.snd hN1_1.p s6.2) (NestP.len hN1_1.p hg11.1 (av hg11.2 rfl))).symm (aU ak hg11.1 (av hg11.2 (NestP.hn hN1_1.p rfl))))) ?_
     refine aB iK rfl (fun b12 => ?_)
     refine bT rfl (yS 3 [vI ((rdL p1.fT s6.2).fID),vI ((rdL p1.fT s6.2).fFrom),vI ((rdL p1.fT s6.2).fTo),vI ((rdL p1.fT s6.2).fLong),vI ((rdL p1.fT s6.2).fToll),.slice ((rdL ys1_1 s6.2).1.1) ((rdL p1.fT s6.2).fK.length) ((rdL ys1_1 s6.2).1.2.2)] qh rfl (nB rfl) rfl rfl rfl) (oN (eT (cS (cS (cR (oY rfl (yFA ii rfl) (oY rfl (yL 2 aV rfl rfl rfl) (oY rfl (yFA ii rfl) (oY rfl (yL 3 aV rfl rfl rfl) (oY rfl (db rfl rfl) (oY rfl (yMB rfl) ?_)))))))))))
     refine oJ 6 (fun tm0 => (upd (upd (upd (upd (upd (upd (upd (upd tm0 2 (.pointer (some ⟨b1,0,none⟩))) 3 (.pointer (some ⟨b2,0,none⟩))) 4 (.bool s6.1)) 5 (vI s6.2)) 27 (.bool (decide (s6.2 < (p0.fT.length:Int))))) 6 (.pointer (some ⟨b10,0,none⟩))) 7 (.pointer (some ⟨b12,0,none⟩))) 51 (.bool ((((rdL p0.fT s6.2).fID) != ((rdL p1.fT s6.2).fID)) || (((rdL p0.fT s6.2).fFrom) != ((rdL p1.fT s6.2).fFrom)))))) (fun tm0 => ?_) (fun key => ?_)
     ·refine oY rfl (yMB rfl) ?_
      refine oJ 6 (fun tm0 => (upd (upd (upd (upd (upd (upd (upd (upd tm0 2 (.pointer (some ⟨b1,0,none⟩))) 3 (.pointer (some ⟨b2,0,none⟩))) 4 (.bool s6.1)) 5 (vI s6.2)) 27 (.bool (decide (s6.2 < (p0.fT.length:Int))))) 6 (.pointer (some ⟨b10,0,none⟩))) 7 (.pointer (some ⟨b12,0,none⟩))) 58 (.bool (((((rdL p0.fT s6.2).fID) != ((rdL p1.fT s6.2).fID)) || (((rdL p0.fT s6.2).fFrom) != ((rdL p1.fT s6.2).fFrom))) || (((rdL p0.fT s6.2).fTo) != ((rdL p1.fT s6.2).fTo)))))) (fun tm0 => ?_) (fun key => ?_)
      ·refine oY rfl (yMB rfl) ?_
       refine oJ 6 (fun tm0 => (upd (upd (upd (upd (upd (upd (upd (upd tm0 2 (.pointer (some ⟨b1,0,none⟩))) 3 (.pointer (some ⟨b2,0,none⟩))) 4 (.bool s6.1)) 5 (vI s6.2)) 27 (.bool (decide (s6.2 < (p0.fT.length:Int))))) 6 (.pointer (some ⟨b10,0,none⟩))) 7 (.pointer (some ⟨b12,0,none⟩))) 65 (.bool ((((((rdL p0.fT s6.2).fID) != ((rdL p1.fT s6.2).fID)) || (((rdL p0.fT s6.2).fFrom) != ((rdL p1.fT s6.2).fFrom))) || (((rdL p0.fT s6.2).fTo) != ((rdL p1.fT s6.2).fTo))) || (((rdL p0.fT s6.2).fLong) != ((rdL p1.fT s6.2).fLong)))))) (fun tm0 => ?_) (fun key => ?_)
       ·refine oY rfl (yMB rfl) ?_
        refine oJ 6 (fun tm0 => (upd (upd (upd (upd (upd (upd (upd (upd tm0 2 (.pointer (some ⟨b1,0,none⟩))) 3 (.pointer (some ⟨b2,0,none⟩))) 4 (.bool s6.1)) 5 (vI s6.2)) 27 (.bool (decide (s6.2 < (p0.fT.length:Int))))) 6 (.pointer (some ⟨b10,0,none⟩))) 7 (.pointer (some ⟨b12,0,none⟩))) 72 (.bool (((((((rdL p0.fT s6.2).fID) != ((rdL p1.fT s6.2).fID)) || (((rdL p0.fT s6.2).fFrom) != ((rdL p1.fT s6.2).fFrom))) || (((rdL p0.fT s6.2).fTo) != ((rdL p1.fT s6.2).fTo))) || (((rdL p0.fT s6.2).fLong) != ((rdL p1.fT s6.2).fLong))) || (((rdL p0.fT s6.2).fToll) != ((rdL p1.fT s6.2).fToll)))))) (fun tm0 => ?_) (fun key => ?_)
        ·refine oY rfl (yMB rfl) ?_
         refine oJ 8 (fun tm0 => (upd (upd (upd (upd (upd (upd (upd (upd tm0 2 (.pointer (some ⟨b1,0,none⟩))) 3 (.pointer (some ⟨b2,0,none⟩))) 4 (.bool s6.1)) 5 (vI s6.2)) 27 (.bool (decide (s6.2 < (p0.fT.length:Int))))) 6 (.pointer (some ⟨b10,0,none⟩))) 7 (.pointer (some ⟨b12,0,none⟩))) 81 (.bool ((((((((rdL p0.fT s6.2).fID) != ((rdL p1.fT s6.2).fID)) || (((rdL p0.fT s6.2).fFrom) != ((rdL p1.fT s6.2).fFrom))) || (((rdL p0.fT s6.2).fTo) != ((rdL p1.fT s6.2).fTo))) || (((rdL p0.fT s6.2).fLong) != ((rdL p1.fT s6.2).fLong))) || (((rdL p0.fT s6.2).fToll) != ((rdL p1.fT s6.2).fToll))) || ((((rdL p0.fT s6.2).fK.length : Nat) : Int) != (((rdL p1.fT s6.2).fK.length : Nat) : Int)))))) (fun tm0 => ?_) (fun key => ?_)
         ·refine oN (eT ?_)
          rcases iOs h with ⟨hp18,h⟩ | ⟨hp18,h⟩
          ·refine cT (vB hp18) (cS (cR (oY rfl (yAB rfl) (oN (eT (al (aa (ai (aa (aQ 2 ?_))))))))))
           obtain rfl:=sI h
           exact ax ⟨rfl,_,rfl,(kp4 rfl)⟩
          ·refine cF (vB hp18) (cK (eT (cS (cR (oY rfl (yAI rfl) (oN (eT (cB ?_))))))))
           obtain ⟨u21,hl26,h⟩:=bOs h
           refine bB (fun (s:(Bool × Int)) L tm => ∃ (tm0:Nat → Value),L = [aj b1 24 [vI p0.fL,.slice Ab p0.fT.length cb],aj b2 24 [vI p1.fL,.slice A1_1 p1.fT.length c1_1],aj b10 39 [vI ((rdL p0.fT s6.2).fID),vI ((rdL p0.fT s6.2).fFrom),vI ((rdL p0.fT s6.2).fTo),vI ((rdL p0.fT s6.2).fLong),vI ((rdL p0.fT s6.2).fToll),.slice ((rdL ys0_1 s6.2).1.1) ((rdL p0.fT s6.2).fK.length) ((rdL ys0_1 s6.2).1.2.2)],aj b12 39 [vI ((rdL p1.fT s6.2).fID),vI ((rdL p1.fT s6.2).fFrom),vI ((rdL p1.fT s6.2).fTo),vI ((rdL p1.fT s6.2).fLong),vI ((rdL p1.fT s6.2).fToll),.slice ((rdL ys1_1 s6.2).1.1) ((rdL p1.fT s6.2).fK.length) ((rdL ys1_1 s6.2).1.2.2)]] ∧ tm = (upd (upd (upd (upd (upd (upd (upd (upd (upd tm0 2 (.pointer (some ⟨b1,0,none⟩))) 3 (.pointer (some ⟨b2,0,none⟩))) 4 (.bool s.1)) 5 (vI s6.2)) 27 (.bool (decide (s6.2 < (p0.fT.length:Int))))) 6 (.pointer (some ⟨b10,0,none⟩))) 7 (.pointer (some ⟨b12,0,none⟩))) 81 (.bool ((((((((rdL p0.fT s6.2).fID) != ((rdL p1.fT s6.2).fID)) || (((rdL p0.fT s6.2).fFrom) != ((rdL p1.fT s6.2).fFrom))) || (((rdL p0.fT s6.2).fTo) != ((rdL p1.fT s6.2).fTo))) || (((rdL p0.fT s6.2).fLong) != ((rdL p1.fT s6.2).fLong))) || (((rdL p0.fT s6.2).fToll) != ((rdL p1.fT s6.2).fToll))) || ((((rdL p0.fT s6.2).fK.length : Nat) : Int) != (((rdL p1.fT s6.2).fK.length : Nat) : Int))))) 8 (vI s.2))) 2 hl26 ⟨_,rfl,(kp4 (kp4 (kp rfl)))⟩ ?_ ?_
           ·rintro s20 L tm st ⟨tm0_s20,rfl,rfl⟩ h
            unfold cq at h
            refine cS (cS (cR (oY rfl (yMI rfl) (oY rfl (yFA cg rfl) (oY rfl (yL 2 io rfl rfl rfl) (oY rfl (bd (us:=[]) eg rfl) (oY rfl (bm rfl rfl) (oN (eT ?_)))))))))
            rcases iOs h with ⟨hp22,h⟩ | ⟨hp22,h⟩
            ·refine cT (vB hp22) (cK (eT (cS (cB (cS ?_)))))
             refine ba 11 cm (by kernel_rfl) (by kernel_rfl) ?_
             refine qY rfl (yFA cg rfl) (qY rfl (yL 2 io rfl rfl rfl) (qY rfl (yMI rfl) ?_))
             obtain ⟨hg23,h⟩:=gOs h
             refine qY rfl (yI fc (by decide) hg23.1 hg23.2 (NestL.rd (NestL.arg hN0_1) hg9.1 (av hg9.2 rfl)) (eL ab rfl) rfl rfl) ?_
             refine qY rfl (yM (A:=((rdL ys0_1 s6.2).1.1)) (j:=(Int.toNat s20.2 * 2)) [vI ((rdL ((rdL p0.fT s6.2).fK) s20.2).fLo),vI ((rdL ((rdL p0.fT s6.2).fK) s20.2).fHi)] jv (Nat.succ_pos _) (NestL.rd (NestL.arg hN0_1) hg9.1 (av hg9.2 rfl)) rfl (aU ab hg23.1 (av hg23.2 rfl))) (qY rfl (yFA cg rfl) (qY rfl (yL 3 io rfl rfl rfl) (qY rfl (yMI rfl) ?_)))
             obtain ⟨hg24,h⟩:=gOs h
             refine qY rfl (yI fc (by decide) hg24.1 hg24.2 (NestL.rd (NestL.arg hN1_1) hg11.1 (av hg11.2 rfl)) (eL ab rfl) rfl rfl) ?_
             refine qY rfl (yM (A:=((rdL ys1_1 s6.2).1.1)) (j:=(Int.toNat s20.2 * 2)) [vI ((rdL ((rdL p1.fT s6.2).fK) s20.2).fLo),vI ((rdL ((rdL p1.fT s6.2).fK) s20.2).fHi)] jv (Nat.succ_pos _) (NestL.rd (NestL.arg hN1_1) hg11.1 (av hg11.2 rfl)) rfl (aU ab hg24.1 (av hg24.2 rfl))) (qY rfl (y_neqa (b:=(((rdL ((rdL p0.fT s6.2).fK) s20.2).fLo == (rdL ((rdL p1.fT s6.2).fK) s20.2).fLo) && ((rdL ((rdL p0.fT s6.2).fK) s20.2).fHi == (rdL ((rdL p1.fT s6.2).fK) s20.2).fHi))) eg_26 rfl rfl (fun _ => (eqS2 fl_26 (part1 aV rfl) (part1 aV rfl) (part1 aV rfl) (part1 aV rfl) (run_equalIn_int _ _ _ _ _ _ _ ui_3) (run_equalIn_int _ _ _ _ _ _ _ ui_3)))) (bX (oN (eT ?_))))
             rcases iOs h with ⟨hp25,h⟩ | ⟨hp25,h⟩
             ·refine cT (vB hp25) (cS (cR (oY rfl (yAB rfl) (oN (eT (al (ai (aa ?_))))))))
              obtain rfl:=sI h
              exact ax ⟨rfl,_,rfl,(kp4 (kp4 (kp rfl)))⟩
             ·refine cF (vB hp25) (cK (aw (eT (cR (oY rfl (yMI rfl) (oY rfl (aX rfl rfl) (oY rfl (yAI rfl) (oN ?_))))))))
              obtain rfl:=sI h
              exact eN ⟨_,rfl,(kp4 (kp4 (kp rfl)))⟩
            ·refine cF (vB hp22) (aH (ah ?_))
             obtain rfl:=sI h
             exact ax ⟨rfl,_,rfl,(kp4 (kp4 (kp rfl)))⟩
           ·intro e L tm hJ
            rcases u21 with u27 | u28
            ·dsimp only at h hJ
             obtain ⟨rfl,tm0_u27,rfl,rfl⟩:=hJ
             refine ⟨(by intro hc; cases hc),?_⟩
             refine ai (ai (aa (aQ 2 ?_)))
             obtain rfl:=sI h
             exact ax ⟨rfl,_,rfl,(kp4 rfl)⟩
            ·dsimp only at h hJ
             obtain ⟨rfl,tm0_u28,rfl,rfl⟩:=hJ
             refine ⟨(by intro hc; cases hc),?_⟩
             refine ac (aw (eT (cR (oY rfl (yMI rfl) (oY rfl (aX rfl rfl) (oY rfl (yAI rfl) (oN (aQ 2 ?_))))))))
             obtain rfl:=sI h
             exact eN ⟨_,rfl,(kp4 rfl)⟩
         ·rcases aq (((((((rdL p0.fT s6.2).fID) != ((rdL p1.fT s6.2).fID)) || (((rdL p0.fT s6.2).fFrom) != ((rdL p1.fT s6.2).fFrom))) || (((rdL p0.fT s6.2).fTo) != ((rdL p1.fT s6.2).fTo))) || (((rdL p0.fT s6.2).fLong) != ((rdL p1.fT s6.2).fLong))) || (((rdL p0.fT s6.2).fToll) != ((rdL p1.fT s6.2).fToll))) with hp17 | hp17
          ·refine oSk (sF rfl rfl rfl rfl hp17) (oSk (sF rfl rfl rfl rfl hp17) (oSk (sF rfl rfl rfl rfl hp17) (oSk (sF rfl rfl rfl rfl hp17) (oSk (sF rfl rfl rfl rfl hp17) (oSk (sF rfl rfl rfl rfl hp17) (oSk (sF rfl rfl rfl rfl hp17) (oY rfl (ae (vB hp17) rfl) ?_)))))))
           exact key _ _ (keep (keep (keep (keep (keep (keep (keep (keep rfl rfl) rfl) rfl) rfl) rfl) rfl) rfl) (vB (iI hp17)))
          ·refine oY (sT rfl rfl rfl rfl hp17) (yFA cg rfl) (oY (sT rfl rfl rfl rfl hp17) (yL 2 io rfl rfl rfl) (oY (sT rfl rfl rfl rfl hp17) (bd (us:=[]) eg rfl) (oY (sT rfl rfl rfl rfl hp17) (yFA cg rfl) (oY (sT rfl rfl rfl rfl hp17) (yL 3 io rfl rfl rfl) (oY (sT rfl rfl rfl rfl hp17) (bd (us:=[]) eg rfl) (oY (sT rfl rfl rfl rfl hp17) (db rfl rfl) (oY rfl (ag (vB hp17) rfl) ?_)))))))
           exact key _ _ (keep (keep (keep (keep (keep (keep (keep (keep rfl rfl) rfl) rfl) rfl) rfl) rfl) rfl) (vB (iH hp17)))
        ·rcases aq ((((((rdL p0.fT s6.2).fID) != ((rdL p1.fT s6.2).fID)) || (((rdL p0.fT s6.2).fFrom) != ((rdL p1.fT s6.2).fFrom))) || (((rdL p0.fT s6.2).fTo) != ((rdL p1.fT s6.2).fTo))) || (((rdL p0.fT s6.2).fLong) != ((rdL p1.fT s6.2).fLong))) with hp16 | hp16
         ·refine oSk (sF rfl rfl rfl rfl hp16) (oSk (sF rfl rfl rfl rfl hp16) (oSk (sF rfl rfl rfl rfl hp16) (oSk (sF rfl rfl rfl rfl hp16) (oSk (sF rfl rfl rfl rfl hp16) (oY rfl (ae (vB hp16) rfl) ?_)))))
          exact key _ _ (keep (keep (keep (keep (keep (keep (keep (keep rfl rfl) rfl) rfl) rfl) rfl) rfl) rfl) (vB (iI hp16)))
         ·refine oY (sT rfl rfl rfl rfl hp16) (yFA mP rfl) (oY (sT rfl rfl rfl rfl hp16) (yL 2 aV rfl rfl rfl) (oY (sT rfl rfl rfl rfl hp16) (yFA mP rfl) (oY (sT rfl rfl rfl rfl hp16) (yL 3 aV rfl rfl rfl) (oY (sT rfl rfl rfl rfl hp16) (db rfl rfl) (oY rfl (ag (vB hp16) rfl) ?_)))))
          exact key _ _ (keep (keep (keep (keep (keep (keep (keep (keep rfl rfl) rfl) rfl) rfl) rfl) rfl) rfl) (vB (iH hp16)))
       ·rcases aq (((((rdL p0.fT s6.2).fID) != ((rdL p1.fT s6.2).fID)) || (((rdL p0.fT s6.2).fFrom) != ((rdL p1.fT s6.2).fFrom))) || (((rdL p0.fT s6.2).fTo) != ((rdL p1.fT s6.2).fTo))) with hp15 | hp15
        ·refine oSk (sF rfl rfl rfl rfl hp15) (oSk (sF rfl rfl rfl rfl hp15) (oSk (sF rfl rfl rfl rfl hp15) (oSk (sF rfl rfl rfl rfl hp15) (oSk (sF rfl rfl rfl rfl hp15) (oY rfl (ae (vB hp15) rfl) ?_)))))
         exact key _ _ (keep (keep (keep (keep (keep (keep (keep (keep rfl rfl) rfl) rfl) rfl) rfl) rfl) rfl) (vB (iI hp15)))
        ·refine oY (sT rfl rfl rfl rfl hp15) (yFA j5 rfl) (oY (sT rfl rfl rfl rfl hp15) (yL 2 aV rfl rfl rfl) (oY (sT rfl rfl rfl rfl hp15) (yFA j5 rfl) (oY (sT rfl rfl rfl rfl hp15) (yL 3 aV rfl rfl rfl) (oY (sT rfl rfl rfl rfl hp15) (db rfl rfl) (oY rfl (ag (vB hp15) rfl) ?_)))))
         exact key _ _ (keep (keep (keep (keep (keep (keep (keep (keep rfl rfl) rfl) rfl) rfl) rfl) rfl) rfl) (vB (iH hp15)))
      ·rcases aq ((((rdL p0.fT s6.2).fID) != ((rdL p1.fT s6.2).fID)) || (((rdL p0.fT s6.2).fFrom) != ((rdL p1.fT s6.2).fFrom))) with hp14 | hp14
       ·refine oSk (sF rfl rfl rfl rfl hp14) (oSk (sF rfl rfl rfl rfl hp14) (oSk (sF rfl rfl rfl rfl hp14) (oSk (sF rfl rfl rfl rfl hp14) (oSk (sF rfl rfl rfl rfl hp14) (oY rfl (ae (vB hp14) rfl) ?_)))))
        exact key _ _ (keep (keep (keep (keep (keep (keep (keep (keep rfl rfl) rfl) rfl) rfl) rfl) rfl) rfl) (vB (iI hp14)))
       ·refine oY (sT rfl rfl rfl rfl hp14) (yFA kM rfl) (oY (sT rfl rfl rfl rfl hp14) (yL 2 aV rfl rfl rfl) (oY (sT rfl rfl rfl rfl hp14) (yFA kM rfl) (oY (sT rfl rfl rfl rfl hp14) (yL 3 aV rfl rfl rfl) (oY (sT rfl rfl rfl rfl hp14) (db rfl rfl) (oY rfl (ag (vB hp14) rfl) ?_)))))
        exact key _ _ (keep (keep (keep (keep (keep (keep (keep (keep rfl rfl) rfl) rfl) rfl) rfl) rfl) rfl) (vB (iH hp14)))
     ·rcases aq (((rdL p0.fT s6.2).fID) != ((rdL p1.fT s6.2).fID)) with hp13 | hp13
      ·refine oSk (sF rfl rfl rfl rfl hp13) (oSk (sF rfl rfl rfl rfl hp13) (oSk (sF rfl rfl rfl rfl hp13) (oSk (sF rfl rfl rfl rfl hp13) (oSk (sF rfl rfl rfl rfl hp13) (oY rfl (ae (vB hp13) rfl) ?_)))))
       exact key _ _ (keep (keep (keep (keep (keep (keep (keep (keep rfl rfl) rfl) rfl) rfl) rfl) rfl) rfl) (vB (iI hp13)))
      ·refine oY (sT rfl rfl rfl rfl hp13) (yFA kR rfl) (oY (sT rfl rfl rfl rfl hp13) (yL 2 aV rfl rfl rfl) (oY (sT rfl rfl rfl rfl hp13) (yFA kR rfl) (oY (sT rfl rfl rfl rfl hp13) (yL 3 aV rfl rfl rfl) (oY (sT rfl rfl rfl rfl hp13) (db rfl rfl) (oY rfl (ag (vB hp13) rfl) ?_)))))
       exact key _ _ (keep (keep (keep (keep (keep (keep (keep (keep rfl rfl) rfl) rfl) rfl) rfl) rfl) rfl) (vB (iH hp13)))
    ·refine cF (vB hp8) (aH (ah ?_))
     obtain rfl:=sI h
     exact ax ⟨rfl,_,rfl,(kp4 rfl)⟩
   ·intro e L tm hJ
    rcases u7 with u30 | u31
    ·dsimp only at h hJ
     obtain ⟨rfl,tm0_u30,rfl,rfl⟩:=hJ
     refine ⟨(by intro hc; cases hc),?_⟩
     refine ai (aa ?_)
     obtain rfl:=sI h
     exact ap (.inl rfl) rfl (rVt (v:=.bool u30.1) rfl) (fun W2 hW2 => ⟨rfl,hW2.none⟩)
    ·dsimp only at h hJ
     obtain ⟨rfl,tm0_u31,rfl,rfl⟩:=hJ
     refine ⟨(by intro hc; cases hc),?_⟩
     refine ac (eT (cS (cR (oY rfl (yAB rfl) (oN (eT (al ?_)))))))
     obtain rfl:=sI h
     exact ap (.inl rfl) rfl (rVt (v:=.bool true) rfl) (fun W2 hW2 => ⟨rfl,hW2.none⟩)
 ·rcases aq (p0.fL != p1.fL) with hp3 | hp3
  ·refine oSk (sF rfl rfl rfl rfl hp3) (oSk (sF rfl rfl rfl rfl hp3) (oSk (sF rfl rfl rfl rfl hp3) (oSk (sF rfl rfl rfl rfl hp3) (oSk (sF rfl rfl rfl rfl hp3) (oSk (sF rfl rfl rfl rfl hp3) (oSk (sF rfl rfl rfl rfl hp3) (oY rfl (ae (vB hp3) rfl) ?_)))))))
   exact key _ _ (keep (keep (keep (keep rfl rfl) rfl) rfl) (vB (iI hp3)))
  ·refine oY (sT rfl rfl rfl rfl hp3) (yFA bu rfl) (oY (sT rfl rfl rfl rfl hp3) (yL 0 ee rfl rfl rfl) (oY (sT rfl rfl rfl rfl hp3) (bd (us:=[]) fq rfl) (oY (sT rfl rfl rfl rfl hp3) (yFA bu rfl) (oY (sT rfl rfl rfl rfl hp3) (yL 1 ee rfl rfl rfl) (oY (sT rfl rfl rfl rfl hp3) (bd (us:=[]) fq rfl) (oY (sT rfl rfl rfl rfl hp3) (db rfl rfl) (oY rfl (ag (vB hp3) rfl) ?_)))))))
   exact key _ _ (keep (keep (keep (keep rfl rfl) rfl) rfl) (vB (iH hp3)))
theorem calxlaw05_CartTracks_ok (p0:TR) (p1:TT) (p2:Int) (p3:Int) (p4:TSpan) (res:Bool) (h:df p0 p1 p2 p3 p4 = some res) (W:World) (Ab:Option Addr) (n0_1 cb : Nat) (ys0_1:List (Hd × TT)) (hn0_1:n0_1 = p0.fT.length) (hr0_1:Rd W Ab n0_1 cb (encL TTrack_cells2 ys0_1)) (hN0_1:NestW W (fun z : TT => z.fK) TSpan_cells ys0_1 p0.fT) (A1_5:Option Addr) (n1_5 c1_5 : Nat) (hn1_5:n1_5 = p1.fK.length) (hr1_5:Rd W A1_5 n1_5 c1_5 (encL TSpan_cells p1.fK)) :
  Calls Tryz.prog 4 [.agg #[vI p0.fL,.slice Ab n0_1 cb],.agg #[vI p1.fID,vI p1.fFrom,vI p1.fTo,vI p1.fLong,vI p1.fToll,.slice A1_5 n1_5 c1_5],vI p2,vI p3,.agg #[vI p4.fLo,vI p4.fHi]].toArray W fun e W2 => e = .returned (.bool res) ∧ Ext W W2 []:=by
 subst hn0_1
 subst hn1_5
 unfold df at h
 refine ad (m:=81) Tryz.func4 rfl rfl (nB rfl) (cS (cR ?_))
 refine aO [vI p0.fL,.slice Ab p0.fT.length cb] rfl rfl rfl (fun b1 => ?_)
 refine aO [vI p1.fID,vI p1.fFrom,vI p1.fTo,vI p1.fLong,vI p1.fToll,.slice A1_5 p1.fK.length c1_5] rfl rfl rfl (fun b2 => ?_)
 refine aO [vI p4.fLo,vI p4.fHi] rfl rfl rfl (fun b3 => ?_)
 refine oY rfl (yAB rfl) (oN (eT (cS (cS (cR (oY rfl (yN 0 [vI p0.fL,.slice Ab p0.fT.length cb] dl rfl rfl rfl) ?_))))))
 obtain ⟨y4,hy5,h⟩:=bOs h
 refine oY rfl (yC [.agg #[vI p0.fL,.slice Ab p0.fT.length cb]] go_5 rfl (fun W2 hW2 => mm p0 y4 hy5 W2 Ab p0.fT.length cb ys0_1 rfl ((RdL.arg hr0_1) W2 hW2) (NestL.at (NestL.arg hN0_1) W2 hW2)) rfl) (oY rfl (bM rfl) (oY rfl (yMB rfl) ?_))
 refine oJ 5 (fun tm0 => (upd (upd (upd (upd (upd (upd (upd tm0 2 (vI p2)) 3 (vI p3)) 5 (.pointer (some ⟨b1,0,none⟩))) 6 (.pointer (some ⟨b2,0,none⟩))) 9 (.pointer (some ⟨b3,0,none⟩))) 10 (.bool false)) 26 (.bool ((!y4) || (decide (12 < (p1.fK.length:Int))))))) (fun tm0 => ?_) (fun key => ?_)
 ·refine oN (eT ?_)
  rcases iOs h with ⟨hp7,h⟩ | ⟨hp7,h⟩
  ·refine cT (vB hp7) (cS (cR ?_))
   obtain ⟨y8,hy9,h⟩:=bOs h
   refine oY rfl (yC [] go_6 rfl (fun W2 hW2 => gV  y8 hy9 W2 ) rfl) (oY rfl (yAB rfl) (oN (eT (al (aa ?_)))))
   obtain rfl:=sI h
   exact ap (.inl rfl) rfl (rVt (v:=.bool y8) rfl) (fun W2 hW2 => ⟨rfl,hW2.none⟩)
  ·refine cF (vB hp7) (cK (eT (cS (cR (oY rfl (yN 1 [vI p1.fID,vI p1.fFrom,vI p1.fTo,vI p1.fLong,vI p1.fToll,.slice A1_5 p1.fK.length c1_5] jJ rfl rfl rfl) (oY rfl (yMI rfl) ?_))))))
   obtain ⟨y10,hy11,h⟩:=bOs h
   refine oY rfl (yC [.agg #[vI p1.fID,vI p1.fFrom,vI p1.fTo,vI p1.fLong,vI p1.fToll,.slice A1_5 p1.fK.length c1_5],vI p2] go_11 rfl (fun W2 hW2 => lg p1 p2 y10 hy11 W2 A1_5 p1.fK.length c1_5 rfl ((RdL.arg hr1_5) W2 hW2)) rfl) (oY rfl (aR rfl) (oY rfl (yE rfl rfl) (oY rfl (yE rfl rfl) (oY rfl (yAI rfl) (oY rfl (yAI rfl) (oN (eT (cS (cR (oY rfl (yN 1 [vI p1.fID,vI p1.fFrom,vI p1.fTo,vI p1.fLong,vI p1.fToll,.slice A1_5 p1.fK.length c1_5] jJ rfl rfl rfl) (oY rfl (yMI rfl) ?_)))))))))))
   obtain ⟨y12,hy13,h⟩:=bOs h
   refine oY rfl (yC [.agg #[vI p1.fID,vI p1.fFrom,vI p1.fTo,vI p1.fLong,vI p1.fToll,.slice A1_5 p1.fK.length c1_5],vI p2] go_12 rfl (fun W2 hW2 => nQ p1 p2 y12 hy13 W2 A1_5 p1.fK.length c1_5 rfl ((RdL.arg hr1_5) W2 hW2)) rfl) (oY rfl (aR rfl) (oY rfl (yE rfl rfl) (oY rfl (yE rfl rfl) (oY rfl (yAI rfl) (oY rfl (yAI rfl) (oN (eT (cS (cR (oY rfl (yN 0 [vI p0.fL,.slice Ab p0.fT.length cb] dl rfl rfl rfl) (oY rfl (yMI rfl) (oY rfl (yN 2 [vI p4.fLo,vI p4.fHi] jv rfl rfl rfl) ?_))))))))))))
   obtain ⟨y14,hy15,h⟩:=bOs h
   refine oC [.agg #[vI p0.fL,.slice Ab p0.fT.length cb],vI p3,.agg #[vI p4.fLo,vI p4.fHi]] _ _ _ rfl go_8 rfl (fun W2 hW2 => pK p0 p3 p4 y14 hy15 W2 Ab p0.fT.length cb ys0_1 rfl ((RdL.arg hr0_1) W2 hW2) (NestL.at (NestL.arg hN0_1) W2 hW2) W (fun _ => True) (fun W3 hb => ⟨gm hW2.below hb,trivial⟩) (PvL.of_nest hN0_1)) ?_
   rintro ⟨⟨A18,n20,c19⟩,ys23,F24⟩ ⟨hn21,hP22,hV25⟩
   replace hn21 : n20 = y14.1.fT.length:=hn21; subst hn21
   refine oY rfl (aR rfl) (oY rfl (yE rfl rfl) (oY rfl (yE rfl rfl) ?_))
   refine aB kQ rfl (fun b26 => ?_)
   try dsimp only [lna,lca,lsz,lss]
   refine bT rfl (yS 5 [vI y14.1.fL,.slice A18 y14.1.fT.length c19] nu rfl (nB rfl) rfl rfl rfl) (oY rfl (yAI rfl) (oN (eT (cS (cR (oY rfl (yN 0 [vI p0.fL,.slice Ab p0.fT.length cb] dl rfl rfl rfl) (oY rfl (yMI rfl) (oY rfl (yN 2 [vI p4.fLo,vI p4.fHi] jv rfl rfl rfl) ?_))))))))
   obtain ⟨y27,hy28,h⟩:=bOs h
   refine oC [.agg #[vI p0.fL,.slice Ab p0.fT.length cb],vI p3,.agg #[vI p4.fLo,vI p4.fHi]] _ _ _ rfl go_13 rfl (fun W2 hW2 => o6 p0 p3 p4 y27 hy28 W2 Ab p0.fT.length cb ys0_1 rfl ((RdL.arg hr0_1) W2 hW2) (NestL.at (NestL.arg hN0_1) W2 hW2) W (fun _ => True) (fun W3 hb => ⟨gm hW2.below hb,trivial⟩) ) ?_
   rintro ⟨⟨A31,n33,c32⟩,ys36,F37⟩ ⟨hn34,hP35,hV38⟩
   replace hn34 : n33 = y27.fR.fT.length:=hn34; subst hn34
   try dsimp only [lna,lca,lsz,lss]
   refine aB qd rfl (fun b39 => ?_)
   try dsimp only [lna,lca,lsz,lss]
   refine bT rfl (yS 8 [vI y27.fR.fL,.slice A31 y27.fR.fT.length c32,vI y27.fE] ra rfl (nB rfl) rfl rfl rfl) (oN (eT (cS ?_)))
   refine ba 31 cm (by kernel_rfl) (by kernel_rfl) ?_
   obtain ⟨y40,hy41,h⟩:=bOs h
   refine qY rfl (yC [] go_6 rfl (fun W2 hW2 => gV  y40 hy41 W2 ) rfl) (qY rfl (yMB rfl) ?_)
   obtain ⟨b43,hb44,h⟩:=bOs h
   refine qJ 6 (fun tm0 => (upd (upd (upd (upd (upd (upd (upd (upd (upd tm0 10 (.bool false)) 11 (vI y10.1)) 12 (vI y10.2)) 13 (vI y12.1)) 14 (vI y12.2)) 15 (.pointer (some ⟨b26,0,none⟩))) 16 (vI y14.2)) 17 (.pointer (some ⟨b39,0,none⟩))) 58 (.bool b43))) (fun tm0 => ?_) (fun key => ?_)
   ·refine qY rfl (yMB rfl) ?_
    refine qJ 4 (fun tm0 => (upd (upd (upd (upd (upd (upd (upd tm0 10 (.bool false)) 12 (vI y10.2)) 14 (vI y12.2)) 15 (.pointer (some ⟨b26,0,none⟩))) 16 (vI y14.2)) 17 (.pointer (some ⟨b39,0,none⟩))) 63 (.bool (b43 && (y10.1 == y12.1))))) (fun tm0 => ?_) (fun key => ?_)
    ·refine qY rfl (yMB rfl) ?_
     refine qJ 4 (fun tm0 => (upd (upd (upd (upd (upd tm0 10 (.bool false)) 15 (.pointer (some ⟨b26,0,none⟩))) 16 (vI y14.2)) 17 (.pointer (some ⟨b39,0,none⟩))) 68 (.bool ((b43 && (y10.1 == y12.1)) && (y10.2 == y12.2))))) (fun tm0 => ?_) (fun key => ?_)
     ·refine qY rfl (yMB rfl) ?_
      obtain ⟨b48,hb49,h⟩:=bOs h
      refine qJ 5 (fun tm0 => (upd (upd (upd (upd tm0 10 (.bool false)) 16 (vI y14.2)) 17 (.pointer (some ⟨b39,0,none⟩))) 74 (.bool b48))) (fun tm0 => ?_) (fun key => ?_)
      ·refine qY rfl (yMB rfl) ?_
       refine qJ 5 (fun tm0 => (upd (upd tm0 10 (.bool false)) 80 (.bool (b48 && (y14.2 == y27.fE))))) (fun tm0 => ?_) (fun key => ?_)
       ·refine qY rfl (yAB rfl) (bX (oN (eT (al ?_))))
        obtain rfl:=sI h
        exact ap (.inl rfl) rfl (rVt (v:=.bool (b48 && (y14.2 == y27.fE))) rfl) (fun W2 hW2 => ⟨rfl,hW2.none⟩)
       ·rcases aq b48 with hp50 | hp50
        ·refine qY (sT rfl rfl rfl rfl hp50) (yMI rfl) (qY (sT rfl rfl rfl rfl hp50) (yFA fo_48_1 rfl) (qY (sT rfl rfl rfl rfl hp50) (yL 8 sc_32 rfl rfl rfl) (qY (sT rfl rfl rfl rfl hp50) (dA rfl rfl) (qY rfl (ae (vB hp50) rfl) ?_))))
         exact key _ _ (keep (keep rfl rfl) (vB (gh hp50)))
        ·refine am (sF rfl rfl rfl rfl hp50) (am (sF rfl rfl rfl rfl hp50) (am (sF rfl rfl rfl rfl hp50) (am (sF rfl rfl rfl rfl hp50) (qY rfl (ag (vB hp50) rfl) ?_))))
         exact key _ _ (keep (keep rfl rfl) (vB (gq hp50)))
      ·clear h; rcases iOs hb49 with ⟨hp47,h⟩ | ⟨hp47,h⟩
       ·refine qY (sT rfl rfl rfl rfl hp47) (yN 5 [vI y14.1.fL,.slice A18 y14.1.fT.length c19] dl rfl rfl rfl) (qY (sT rfl rfl rfl rfl hp47) (yFA fo_48_0 rfl) (qY (sT rfl rfl rfl rfl hp47) (yN 8 [vI y27.fR.fL,.slice A31 y27.fR.fT.length c32] dl rfl rfl rfl) ?_))
        obtain ⟨y51,hy52,h⟩:=bOs h
        refine qY (sT rfl rfl rfl rfl hp47) (yC [.agg #[vI y14.1.fL,.slice A18 y14.1.fT.length c19],.agg #[vI y27.fR.fL,.slice A31 y27.fR.fT.length c32]] go_16 rfl (fun W2 hW2 => kZ y14.1 y27.fR y51 hy52 W2 A18 y14.1.fT.length c19 ys23 rfl ((RdL.row 3 rfl) W2 hW2) (NestL.at (PvL.nestL hP22 hV25 (fun W2 hW2 => ⟨hW2.below,trivial,hW2.mem (i:=4) rfl⟩)) W2 hW2) A31 y27.fR.fT.length c32 ys36 rfl ((RdL.row 6 rfl) W2 hW2) (NestL.at (PvL.nestL hP35 hV38 (fun W2 hW2 => ⟨hW2.below,trivial,hW2.mem (i:=7) rfl⟩)) W2 hW2)) rfl) (qY rfl (ae (vB hp47) rfl) ?_)
        obtain rfl:=sI h
        exact key _ _ (kp4 rfl)
       ·refine am (sF rfl rfl rfl rfl hp47) (am (sF rfl rfl rfl rfl hp47) (am (sF rfl rfl rfl rfl hp47) (am (sF rfl rfl rfl rfl hp47) (qY rfl (ag (vB hp47) rfl) ?_))))
        obtain rfl:=sI h
        exact key _ _ (kp4 rfl)
     ·rcases aq (b43 && (y10.1 == y12.1)) with hp46 | hp46
      ·refine qY (sT rfl rfl rfl rfl hp46) (yMI rfl) (qY (sT rfl rfl rfl rfl hp46) (yMI rfl) (qY (sT rfl rfl rfl rfl hp46) (dA rfl rfl) (qY rfl (ae (vB hp46) rfl) ?_)))
       exact key _ _ (keep (keep (keep (keep (keep rfl rfl) rfl) rfl) rfl) (vB (gh hp46)))
      ·refine am (sF rfl rfl rfl rfl hp46) (am (sF rfl rfl rfl rfl hp46) (am (sF rfl rfl rfl rfl hp46) (qY rfl (ag (vB hp46) rfl) ?_)))
       exact key _ _ (keep (keep (keep (keep (keep rfl rfl) rfl) rfl) rfl) (vB (gq hp46)))
    ·rcases aq b43 with hp45 | hp45
     ·refine qY (sT rfl rfl rfl rfl hp45) (yMI rfl) (qY (sT rfl rfl rfl rfl hp45) (yMI rfl) (qY (sT rfl rfl rfl rfl hp45) (dA rfl rfl) (qY rfl (ae (vB hp45) rfl) ?_)))
      exact key _ _ (keep (keep (keep (keep (keep (keep (keep rfl rfl) rfl) rfl) rfl) rfl) rfl) (vB (gh hp45)))
     ·refine am (sF rfl rfl rfl rfl hp45) (am (sF rfl rfl rfl rfl hp45) (am (sF rfl rfl rfl rfl hp45) (qY rfl (ag (vB hp45) rfl) ?_)))
      exact key _ _ (keep (keep (keep (keep (keep (keep (keep rfl rfl) rfl) rfl) rfl) rfl) rfl) (vB (gq hp45)))
   ·clear h; rcases iOs hb44 with ⟨hp42,h⟩ | ⟨hp42,h⟩
    ·refine qY (sT rfl rfl rfl rfl hp42) (yN 0 [vI p0.fL,.slice Ab p0.fT.length cb] dl rfl rfl rfl) ?_
     obtain ⟨y53,hy54,h⟩:=bOs h
     refine qY (sT rfl rfl rfl rfl hp42) (yC [.agg #[vI p0.fL,.slice Ab p0.fT.length cb]] go_14 rfl (fun W2 hW2 => i5 p0 y53 hy54 W2 Ab p0.fT.length cb ys0_1 rfl ((RdL.arg hr0_1) W2 hW2) (NestL.at (NestL.arg hN0_1) W2 hW2)) rfl) (qY (sT rfl rfl rfl rfl hp42) (yN 0 [vI p0.fL,.slice Ab p0.fT.length cb] dl rfl rfl rfl) ?_)
     obtain ⟨y55,hy56,h⟩:=bOs h
     refine qY (sT rfl rfl rfl rfl hp42) (yC [.agg #[vI p0.fL,.slice Ab p0.fT.length cb]] go_15 rfl (fun W2 hW2 => kC p0 y55 hy56 W2 Ab p0.fT.length cb ys0_1 rfl ((RdL.arg hr0_1) W2 hW2) (NestL.at (NestL.arg hN0_1) W2 hW2)) rfl) (qY (sT rfl rfl rfl rfl hp42) (dA rfl rfl) (qY rfl (ae (vB hp42) rfl) ?_))
     obtain rfl:=sI h
     exact key _ _ (kp4 (kp4 (kp rfl)))
    ·refine am (sF rfl rfl rfl rfl hp42) (am (sF rfl rfl rfl rfl hp42) (am (sF rfl rfl rfl rfl hp42) (am (sF rfl rfl rfl rfl hp42) (am (sF rfl rfl rfl rfl hp42) (qY rfl (ag (vB hp42) rfl) ?_)))))
     obtain rfl:=sI h
     exact key _ _ (kp4 (kp4 (kp rfl)))
 ·rcases aq (!y4) with hp6 | hp6
  ·refine oSk (sF rfl rfl rfl rfl hp6) (oSk (sF rfl rfl rfl rfl hp6) (oSk (sF rfl rfl rfl rfl hp6) (oSk (sF rfl rfl rfl rfl hp6) (oY rfl (ae (vB hp6) rfl) ?_))))
   exact key _ _ (keep (keep (keep (keep (keep (keep (keep rfl rfl) rfl) rfl) rfl) rfl) rfl) (vB (iI hp6)))
  ·refine oY (sT rfl rfl rfl rfl hp6) (yFA cg rfl) (oY (sT rfl rfl rfl rfl hp6) (yL 1 io rfl rfl rfl) (oY (sT rfl rfl rfl rfl hp6) (bd (us:=[]) eg rfl) (oY (sT rfl rfl rfl rfl hp6) (eI rfl rfl) (oY rfl (ag (vB hp6) rfl) ?_))))
   exact key _ _ (keep (keep (keep (keep (keep (keep (keep rfl rfl) rfl) rfl) rfl) rfl) rfl) (vB (iH hp6)))
end Go.Proofs.YthndghnkebboaabGreat
