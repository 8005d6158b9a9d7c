import Derived.Test.YthndghnkebboaaaGreatF
import Derived.Test.YthndghnkebboaaaGreatGy
import Derived.Test.YthndghnkebboaaaGreatC0
import Derived.Test.YthndghnkebboaaaGreatC2
set_option maxHeartbeats 4000000
set_option maxRecDepth 100000
set_option linter.unusedVariables false
namespace Go.Proofs.YthndghnkebboaaaGreat
open Go.RowKit (Below)
attribute [local irreducible] OX QX CX EX OpY Calls CallsIn
theorem dv (p0:TY) (res:Int) (h:dk p0 = some res) (W:World) (Aa:Option Addr) (n0_0 ca : Nat) (hn0_0:n0_0 = p0.fB.length) (hr0_0:Rd W Aa n0_0 ca (encL aG p0.fB)) (Ab:Option Addr) (n0_1 cb : Nat) (hn0_1:n0_1 = p0.fR.length) (hr0_1:Rd W Ab n0_1 cb (encL aB p0.fR)) :
  Calls Tryz.prog 45 [.agg #[.slice Aa n0_0 ca,.slice Ab n0_1 cb]].toArray W fun e W2 => e = .returned (vI res) ∧ Ext W W2 []:=by
 subst hn0_0
 subst hn0_1
 unfold dk at h
 refine ae (m:=102) Tryz.func45 rfl rfl (nB rfl) (cS (cR ?_))
 refine aW [.slice Aa p0.fB.length ca,.slice Ab p0.fR.length cb] rfl rfl rfl (fun b1 => ?_)
 refine oY rfl (yAI rfl) (oN (eT (cS (cS (cR (oY rfl (yFA eM rfl) (oY rfl (yL 0 ky rfl rfl rfl) (oY rfl (bp (us:=[]) kg rfl) (oY rfl (gK rfl rfl) (oY rfl (yMB rfl) ?_))))))))))
 refine oJ 5 (fun tm0 => (upd (upd (upd tm0 1 (.pointer (some ⟨b1,0,none⟩))) 2 (vI 0)) 16 (.bool ((decide (24 < (p0.fB.length:Int))) || (decide (24 < (p0.fR.length:Int))))))) (fun tm0 => ?_) (fun key => ?_)
 ·refine oN (eT ?_)
  rcases iOs h with ⟨hp3,h⟩ | ⟨hp3,h⟩
  ·refine cT (vB hp3) (cS (cR (oY rfl (yAI rfl) (oN (eT (am (aa ?_)))))))
   obtain rfl:=sI h
   exact al (.inl rfl) rfl (rVt (v:=vI 2) rfl) (fun W2 hW2 => ⟨rfl,hW2.none⟩)
  ·refine cF (vB hp3) (cK (eT (cS (cS (cR (oY rfl (yFA eM rfl) (oY rfl (yL 0 ky rfl rfl rfl) (oY rfl (bp (us:=[]) kg rfl) (oY rfl (yMI rfl) (oN (eT (cB ?_))))))))))))
   obtain ⟨u6,hl26,h⟩:=bOs h
   refine bF (fun (s:(Int × Int)) L tm => ∃ (tm0:Nat → Value),L = [ai b1 53 [.slice Aa p0.fB.length ca,.slice Ab p0.fR.length cb]] ∧ tm = (upd (upd (upd (upd (upd tm0 1 (.pointer (some ⟨b1,0,none⟩))) 2 (vI s.1)) 18 (.slice Aa p0.fB.length ca)) 19 (vI (p0.fB.length:Int))) 20 (vI s.2))) 0 hl26 ⟨_,rfl,(kp4 (kp rfl))⟩ ?_ ?_
   ·rintro s5 L tm st ⟨tm0_s5,rfl,rfl⟩ h
    unfold jp at h
    refine cS (cR (oY rfl (bj rfl rfl) (oN (eT (cS ?_)))))
    rcases iOs h with ⟨hp7,h⟩ | ⟨hp7,h⟩
    ·refine cT (vB hp7) (cK (eT (cS (cB (cS (cR (oY rfl (yMI rfl) ?_)))))))
     obtain ⟨hg8,h⟩:=gOs h
     refine oY rfl (yI mF (by decide) hg8.1 hg8.2 (RdL.arg hr0_0) (eL aK rfl) rfl rfl) ?_
     refine oY rfl (yM (A:=Aa) (j:=(Int.toNat s5.2 * 3)) [vI ((rdL p0.fB s5.2).fID),vI ((rdL p0.fB s5.2).fHour),vI ((rdL p0.fB s5.2).fD)] ag_69 (Nat.succ_pos _) (RdL.arg hr0_0) rfl (bl aK hg8.1 (ah hg8.2 rfl))) ?_
     refine aE oK rfl (fun b9 => ?_)
     refine oY rfl (yAI rfl) (cr rfl (yS 1 [vI ((rdL p0.fB s5.2).fID),vI ((rdL p0.fB s5.2).fHour),vI ((rdL p0.fB s5.2).fD)] sz_69 rfl (nB rfl) rfl rfl rfl) (oN (eT (cS (cS (cR (oY rfl (yFA kL rfl) (oY rfl (yL 1 aV rfl rfl rfl) ?_))))))))
     obtain ⟨y10,hy11,h⟩:=bOs h
     refine oY rfl (yC [vI ((rdL p0.fB s5.2).fID),vI 1,vI 1099511627776] g9 rfl (fun W2 hW2 => be ((rdL p0.fB s5.2).fID) 1 1099511627776 y10 hy11 W2 ) rfl) (oY rfl (bQ rfl) (oY rfl (yMB rfl) ?_))
     obtain ⟨b13,hb14,h⟩:=bOs h
     refine oJ 5 (fun tm0 => (upd (upd (upd (upd (upd (upd (upd (upd (upd tm0 1 (.pointer (some ⟨b1,0,none⟩))) 2 (vI s5.1)) 18 (.slice Aa p0.fB.length ca)) 19 (vI (p0.fB.length:Int))) 20 (vI s5.2)) 21 (.bool (decide (s5.2 < (p0.fB.length:Int))))) 4 (.pointer (some ⟨b9,0,none⟩))) 3 (vI s5.2)) 34 (.bool b13))) (fun tm0 => ?_) (fun key => ?_)
     ·refine oY rfl (yMB rfl) ?_
      obtain ⟨b16,hb17,h⟩:=bOs h
      refine oJ 5 (fun tm0 => (upd (upd (upd (upd (upd (upd (upd (upd (upd tm0 1 (.pointer (some ⟨b1,0,none⟩))) 2 (vI s5.1)) 18 (.slice Aa p0.fB.length ca)) 19 (vI (p0.fB.length:Int))) 20 (vI s5.2)) 21 (.bool (decide (s5.2 < (p0.fB.length:Int))))) 4 (.pointer (some ⟨b9,0,none⟩))) 3 (vI s5.2)) 40 (.bool b16))) (fun tm0 => ?_) (fun key => ?_)
      ·refine oN (eT ?_)
       rcases iOs h with ⟨hp18,h⟩ | ⟨hp18,h⟩
       ·refine cT (vB hp18) (cS (cR (oY rfl (yAI rfl) (oN (eT (am (aa (ak (aa (aU 1 ?_))))))))))
        obtain rfl:=sI h
        exact ax ⟨rfl,_,rfl,(kp4 (kp rfl))⟩
       ·refine cF (vB hp18) (cK (eT (cS (cR (oY rfl (yN 0 [.slice Aa p0.fB.length ca,.slice Ab p0.fR.length cb] dp rfl rfl rfl) (oY rfl (yFA kL rfl) (oY rfl (yL 1 aV rfl rfl rfl) ?_)))))))
        obtain ⟨y19,hy20,h⟩:=bOs h
        refine oY rfl (yC [.agg #[.slice Aa p0.fB.length ca,.slice Ab p0.fR.length cb],vI ((rdL p0.fB s5.2).fID)] go_96 rfl (fun W2 hW2 => ny p0 ((rdL p0.fB s5.2).fID) y19 hy20 W2 Aa p0.fB.length ca rfl ((RdL.arg hr0_0) W2 hW2) Ab p0.fR.length cb rfl ((RdL.arg hr0_1) W2 hW2)) rfl) (oY rfl (yMI rfl) (oY rfl (bj rfl rfl) (oN (eT ?_))))
        rcases iOs h with ⟨hp21,h⟩ | ⟨hp21,h⟩
        ·refine cT (vB hp21) (cS (cR (oY rfl (yAI rfl) (oN (eT (am (ak (aa (aU 1 ?_)))))))))
         obtain rfl:=sI h
         exact ax ⟨rfl,_,rfl,(kp4 (kp rfl))⟩
        ·refine cF (vB hp21) (cK (aw (eT (cR (oY rfl (aT rfl rfl) (oY rfl (yMI rfl) (oN (aU 1 ?_))))))))
         obtain rfl:=sI h
         exact eN ⟨_,rfl,(kp4 (kp rfl))⟩
      ·clear h; rcases iOs hb17 with ⟨hp15,h⟩ | ⟨hp15,h⟩
       ·refine oSk (sF rfl rfl rfl rfl hp15) (oSk (sF rfl rfl rfl rfl hp15) (oSk (sF rfl rfl rfl rfl hp15) (oSk (sF rfl rfl rfl rfl hp15) (oY rfl (ab (vB hp15) rfl) ?_))))
        obtain rfl:=sI h
        exact key _ _ (kp4 (kp4 (kp rfl)))
       ·refine oY (sT rfl rfl rfl rfl hp15) (yFA py rfl) (oY (sT rfl rfl rfl rfl hp15) (yL 1 aV rfl rfl rfl) ?_)
        obtain ⟨y22,hy23,h⟩:=bOs h
        refine oY (sT rfl rfl rfl rfl hp15) (yC [vI ((rdL p0.fB s5.2).fD),vI 0,vI 9] g9 rfl (fun W2 hW2 => be ((rdL p0.fB s5.2).fD) 0 9 y22 hy23 W2 ) rfl) (oY (sT rfl rfl rfl rfl hp15) (bQ rfl) (oY rfl (ad (vB hp15) rfl) ?_))
        obtain rfl:=sI h
        exact key _ _ (kp4 (kp4 (kp rfl)))
     ·clear h; rcases iOs hb14 with ⟨hp12,h⟩ | ⟨hp12,h⟩
      ·refine oSk (sF rfl rfl rfl rfl hp12) (oSk (sF rfl rfl rfl rfl hp12) (oSk (sF rfl rfl rfl rfl hp12) (oSk (sF rfl rfl rfl rfl hp12) (oY rfl (ab (vB hp12) rfl) ?_))))
       obtain rfl:=sI h
       exact key _ _ (kp4 (kp4 (kp rfl)))
      ·refine oY (sT rfl rfl rfl rfl hp12) (yFA qb rfl) (oY (sT rfl rfl rfl rfl hp12) (yL 1 aV rfl rfl rfl) ?_)
       obtain ⟨y24,hy25,h⟩:=bOs h
       refine oY (sT rfl rfl rfl rfl hp12) (yC [vI ((rdL p0.fB s5.2).fHour)] nZ rfl (fun W2 hW2 => eJ ((rdL p0.fB s5.2).fHour) y24 hy25 W2 ) rfl) (oY (sT rfl rfl rfl rfl hp12) (bQ rfl) (oY rfl (ad (vB hp12) rfl) ?_))
       obtain rfl:=sI h
       exact key _ _ (kp4 (kp4 (kp rfl)))
    ·refine cF (vB hp7) (aH (ag ?_))
     obtain rfl:=sI h
     exact ax ⟨rfl,_,rfl,(kp4 (kp rfl))⟩
   ·intro e L tm hJ
    rcases u6 with u27 | u28
    ·dsimp only at h hJ
     obtain ⟨rfl,tm0_u27,rfl,rfl⟩:=hJ
     refine ⟨(by intro hc; cases hc),?_⟩
     refine ak (aa ?_)
     obtain rfl:=sI h
     exact al (.inl rfl) rfl (rVt (v:=vI u27.1) rfl) (fun W2 hW2 => ⟨rfl,hW2.none⟩)
    ·dsimp only at h hJ
     obtain ⟨rfl,tm0_u28,rfl,rfl⟩:=hJ
     refine ⟨(by intro hc; cases hc),?_⟩
     refine ac (eT (cS (cS (cR (oY rfl (yFA cn rfl) (oY rfl (yL 0 gP rfl rfl rfl) (oY rfl (bp (us:=[]) lC rfl) (oY rfl (yMI rfl) (oN (eT (cB ?_)))))))))))
     obtain ⟨u31,hl62,h⟩:=bOs h
     refine bF (fun (s:(Int × Int)) L tm => ∃ (tm0:Nat → Value),L = [ai b1 53 [.slice Aa p0.fB.length ca,.slice Ab p0.fR.length cb]] ∧ tm = (upd (upd (upd (upd (upd tm0 1 (.pointer (some ⟨b1,0,none⟩))) 2 (vI s.1)) 49 (.slice Ab p0.fR.length cb)) 50 (vI (p0.fR.length:Int))) 51 (vI s.2))) 2 hl62 ⟨_,rfl,(kp4 (kp rfl))⟩ ?_ ?_
     ·rintro s30 L tm st ⟨tm0_s30,rfl,rfl⟩ h
      unfold jC at h
      refine cS (cR (oY rfl (bj rfl rfl) (oN (eT (cS ?_)))))
      rcases iOs h with ⟨hp32,h⟩ | ⟨hp32,h⟩
      ·refine cT (vB hp32) (cK (eT (cS (cB (cS (cR (oY rfl (yMI rfl) ?_)))))))
       obtain ⟨hg33,h⟩:=gOs h
       refine oY rfl (yI kC (by decide) hg33.1 hg33.2 (RdL.arg hr0_1) (eL ar rfl) rfl rfl) ?_
       refine oY rfl (yM (A:=Ab) (j:=(Int.toNat s30.2 * 5)) [vI ((rdL p0.fR s30.2).fID),vI ((rdL p0.fR s30.2).fH.fLo),vI ((rdL p0.fR s30.2).fH.fHi),vI ((rdL p0.fR s30.2).fD),vI ((rdL p0.fR s30.2).fW)] qV (Nat.succ_pos _) (RdL.arg hr0_1) rfl (bl ar hg33.1 (ah hg33.2 rfl))) ?_
       refine aE oQ rfl (fun b34 => ?_)
       refine oY rfl (yAI rfl) (cr rfl (yS 1 [vI ((rdL p0.fR s30.2).fID),vI ((rdL p0.fR s30.2).fH.fLo),vI ((rdL p0.fR s30.2).fH.fHi),vI ((rdL p0.fR s30.2).fD),vI ((rdL p0.fR s30.2).fW)] sz_65 rfl (nB rfl) rfl rfl rfl) (oN (eT (cS (cS (cR (oY rfl (yFA ku rfl) (oY rfl (yL 1 aV rfl rfl rfl) ?_))))))))
       obtain ⟨y35,hy36,h⟩:=bOs h
       refine oY rfl (yC [vI ((rdL p0.fR s30.2).fID),vI 1,vI 1099511627776] g9 rfl (fun W2 hW2 => be ((rdL p0.fR s30.2).fID) 1 1099511627776 y35 hy36 W2 ) rfl) (oY rfl (bQ rfl) (oY rfl (yMB rfl) ?_))
       obtain ⟨b38,hb39,h⟩:=bOs h
       refine oJ 6 (fun tm0 => (upd (upd (upd (upd (upd (upd (upd (upd (upd tm0 1 (.pointer (some ⟨b1,0,none⟩))) 2 (vI s30.1)) 49 (.slice Ab p0.fR.length cb)) 50 (vI (p0.fR.length:Int))) 51 (vI s30.2)) 52 (.bool (decide (s30.2 < (p0.fR.length:Int))))) 6 (.pointer (some ⟨b34,0,none⟩))) 5 (vI s30.2)) 66 (.bool b38))) (fun tm0 => ?_) (fun key => ?_)
       ·refine oY rfl (yMB rfl) ?_
        obtain ⟨b41,hb42,h⟩:=bOs h
        refine oJ 6 (fun tm0 => (upd (upd (upd (upd (upd (upd (upd (upd (upd tm0 1 (.pointer (some ⟨b1,0,none⟩))) 2 (vI s30.1)) 49 (.slice Ab p0.fR.length cb)) 50 (vI (p0.fR.length:Int))) 51 (vI s30.2)) 52 (.bool (decide (s30.2 < (p0.fR.length:Int))))) 6 (.pointer (some ⟨b34,0,none⟩))) 5 (vI s30.2)) 73 (.bool b41))) (fun tm0 => ?_) (fun key => ?_)
        ·refine oY rfl (yMB rfl) ?_
         refine oJ 8 (fun tm0 => (upd (upd (upd (upd (upd (upd (upd (upd (upd tm0 1 (.pointer (some ⟨b1,0,none⟩))) 2 (vI s30.1)) 49 (.slice Ab p0.fR.length cb)) 50 (vI (p0.fR.length:Int))) 51 (vI s30.2)) 52 (.bool (decide (s30.2 < (p0.fR.length:Int))))) 6 (.pointer (some ⟨b34,0,none⟩))) 5 (vI s30.2)) 82 (.bool (b41 || (decide ((rdL p0.fR s30.2).fH.fHi < (rdL p0.fR s30.2).fH.fLo)))))) (fun tm0 => ?_) (fun key => ?_)
         ·refine oY rfl (yMB rfl) ?_
          obtain ⟨b45,hb46,h⟩:=bOs h
          refine oJ 5 (fun tm0 => (upd (upd (upd (upd (upd (upd (upd (upd (upd tm0 1 (.pointer (some ⟨b1,0,none⟩))) 2 (vI s30.1)) 49 (.slice Ab p0.fR.length cb)) 50 (vI (p0.fR.length:Int))) 51 (vI s30.2)) 52 (.bool (decide (s30.2 < (p0.fR.length:Int))))) 6 (.pointer (some ⟨b34,0,none⟩))) 5 (vI s30.2)) 88 (.bool b45))) (fun tm0 => ?_) (fun key => ?_)
          ·refine oY rfl (yMB rfl) ?_
           obtain ⟨b48,hb49,h⟩:=bOs h
           refine oJ 5 (fun tm0 => (upd (upd (upd (upd (upd (upd (upd (upd (upd tm0 1 (.pointer (some ⟨b1,0,none⟩))) 2 (vI s30.1)) 49 (.slice Ab p0.fR.length cb)) 50 (vI (p0.fR.length:Int))) 51 (vI s30.2)) 52 (.bool (decide (s30.2 < (p0.fR.length:Int))))) 6 (.pointer (some ⟨b34,0,none⟩))) 5 (vI s30.2)) 94 (.bool b48))) (fun tm0 => ?_) (fun key => ?_)
           ·refine oN (eT ?_)
            rcases iOs h with ⟨hp50,h⟩ | ⟨hp50,h⟩
            ·refine cT (vB hp50) (cS (cR (oY rfl (yAI rfl) (oN (eT (am (aa (ak (aa (aU 1 ?_))))))))))
             obtain rfl:=sI h
             exact ax ⟨rfl,_,rfl,(kp4 (kp rfl))⟩
            ·refine cF (vB hp50) (cK (eT (cS (cR (oY rfl (yN 0 [.slice Aa p0.fB.length ca,.slice Ab p0.fR.length cb] dp rfl rfl rfl) (oY rfl (yFA ku rfl) (oY rfl (yL 1 aV rfl rfl rfl) ?_)))))))
             obtain ⟨y51,hy52,h⟩:=bOs h
             refine oY rfl (yC [.agg #[.slice Aa p0.fB.length ca,.slice Ab p0.fR.length cb],vI ((rdL p0.fR s30.2).fID)] go_90 rfl (fun W2 hW2 => jM p0 ((rdL p0.fR s30.2).fID) y51 hy52 W2 Aa p0.fB.length ca rfl ((RdL.arg hr0_0) W2 hW2) Ab p0.fR.length cb rfl ((RdL.arg hr0_1) W2 hW2)) rfl) (oY rfl (yMI rfl) (oY rfl (bj rfl rfl) (oN (eT ?_))))
             rcases iOs h with ⟨hp53,h⟩ | ⟨hp53,h⟩
             ·refine cT (vB hp53) (cS (cR (oY rfl (yAI rfl) (oN (eT (am (ak (aa (aU 1 ?_)))))))))
              obtain rfl:=sI h
              exact ax ⟨rfl,_,rfl,(kp4 (kp rfl))⟩
             ·refine cF (vB hp53) (cK (aw (eT (cR (oY rfl (aT rfl rfl) (oY rfl (yMI rfl) (oN (aU 1 ?_))))))))
              obtain rfl:=sI h
              exact eN ⟨_,rfl,(kp4 (kp rfl))⟩
           ·clear h; rcases iOs hb49 with ⟨hp47,h⟩ | ⟨hp47,h⟩
            ·refine oSk (sF rfl rfl rfl rfl hp47) (oSk (sF rfl rfl rfl rfl hp47) (oSk (sF rfl rfl rfl rfl hp47) (oSk (sF rfl rfl rfl rfl hp47) (oY rfl (ab (vB hp47) rfl) ?_))))
             obtain rfl:=sI h
             exact key _ _ (kp4 (kp4 (kp rfl)))
            ·refine oY (sT rfl rfl rfl rfl hp47) (yFA jc rfl) (oY (sT rfl rfl rfl rfl hp47) (yL 1 aV rfl rfl rfl) ?_)
             obtain ⟨y54,hy55,h⟩:=bOs h
             refine oY (sT rfl rfl rfl rfl hp47) (yC [vI ((rdL p0.fR s30.2).fW),vI 1,vI 1000] g9 rfl (fun W2 hW2 => be ((rdL p0.fR s30.2).fW) 1 1000 y54 hy55 W2 ) rfl) (oY (sT rfl rfl rfl rfl hp47) (bQ rfl) (oY rfl (ad (vB hp47) rfl) ?_))
             obtain rfl:=sI h
             exact key _ _ (kp4 (kp4 (kp rfl)))
          ·clear h; rcases iOs hb46 with ⟨hp44,h⟩ | ⟨hp44,h⟩
           ·refine oSk (sF rfl rfl rfl rfl hp44) (oSk (sF rfl rfl rfl rfl hp44) (oSk (sF rfl rfl rfl rfl hp44) (oSk (sF rfl rfl rfl rfl hp44) (oY rfl (ab (vB hp44) rfl) ?_))))
            obtain rfl:=sI h
            exact key _ _ (kp4 (kp4 (kp rfl)))
           ·refine oY (sT rfl rfl rfl rfl hp44) (yFA p5 rfl) (oY (sT rfl rfl rfl rfl hp44) (yL 1 aV rfl rfl rfl) ?_)
            obtain ⟨y56,hy57,h⟩:=bOs h
            refine oY (sT rfl rfl rfl rfl hp44) (yC [vI ((rdL p0.fR s30.2).fD),vI 0,vI 9] g9 rfl (fun W2 hW2 => be ((rdL p0.fR s30.2).fD) 0 9 y56 hy57 W2 ) rfl) (oY (sT rfl rfl rfl rfl hp44) (bQ rfl) (oY rfl (ad (vB hp44) rfl) ?_))
            obtain rfl:=sI h
            exact key _ _ (kp4 (kp4 (kp rfl)))
         ·rcases ao b41 with hp43 | hp43
          ·refine oSk (sF rfl rfl rfl rfl hp43) (oSk (sF rfl rfl rfl rfl hp43) (oSk (sF rfl rfl rfl rfl hp43) (oSk (sF rfl rfl rfl rfl hp43) (oSk (sF rfl rfl rfl rfl hp43) (oSk (sF rfl rfl rfl rfl hp43) (oSk (sF rfl rfl rfl rfl hp43) (oY rfl (ab (vB hp43) rfl) ?_)))))))
           exact key _ _ (keep (keep (keep (keep (keep (keep (keep (keep (keep rfl rfl) rfl) rfl) rfl) rfl) rfl) rfl) rfl) (vB (jf hp43)))
          ·refine oY (sT rfl rfl rfl rfl hp43) (yFA gX rfl) (oY (sT rfl rfl rfl rfl hp43) (yFA f0 rfl) (oY (sT rfl rfl rfl rfl hp43) (yL 1 aV rfl rfl rfl) (oY (sT rfl rfl rfl rfl hp43) (yFA gX rfl) (oY (sT rfl rfl rfl rfl hp43) (yFA eC rfl) (oY (sT rfl rfl rfl rfl hp43) (yL 1 aV rfl rfl rfl) (oY (sT rfl rfl rfl rfl hp43) (gK rfl rfl) (oY rfl (ad (vB hp43) rfl) ?_)))))))
           exact key _ _ (keep (keep (keep (keep (keep (keep (keep (keep (keep rfl rfl) rfl) rfl) rfl) rfl) rfl) rfl) rfl) (vB (jg hp43)))
        ·clear h; rcases iOs hb42 with ⟨hp40,h⟩ | ⟨hp40,h⟩
         ·refine oSk (sF rfl rfl rfl rfl hp40) (oSk (sF rfl rfl rfl rfl hp40) (oSk (sF rfl rfl rfl rfl hp40) (oSk (sF rfl rfl rfl rfl hp40) (oSk (sF rfl rfl rfl rfl hp40) (oY rfl (ab (vB hp40) rfl) ?_)))))
          obtain rfl:=sI h
          exact key _ _ (kp4 (kp4 (kp rfl)))
         ·refine oY (sT rfl rfl rfl rfl hp40) (yFA gX rfl) (oY (sT rfl rfl rfl rfl hp40) (yFA eC rfl) (oY (sT rfl rfl rfl rfl hp40) (yL 1 aV rfl rfl rfl) ?_))
          obtain ⟨y58,hy59,h⟩:=bOs h
          refine oY (sT rfl rfl rfl rfl hp40) (yC [vI ((rdL p0.fR s30.2).fH.fHi)] nZ rfl (fun W2 hW2 => eJ ((rdL p0.fR s30.2).fH.fHi) y58 hy59 W2 ) rfl) (oY (sT rfl rfl rfl rfl hp40) (bQ rfl) (oY rfl (ad (vB hp40) rfl) ?_))
          obtain rfl:=sI h
          exact key _ _ (kp4 (kp4 (kp rfl)))
       ·clear h; rcases iOs hb39 with ⟨hp37,h⟩ | ⟨hp37,h⟩
        ·refine oSk (sF rfl rfl rfl rfl hp37) (oSk (sF rfl rfl rfl rfl hp37) (oSk (sF rfl rfl rfl rfl hp37) (oSk (sF rfl rfl rfl rfl hp37) (oSk (sF rfl rfl rfl rfl hp37) (oY rfl (ab (vB hp37) rfl) ?_)))))
         obtain rfl:=sI h
         exact key _ _ (kp4 (kp4 (kp rfl)))
        ·refine oY (sT rfl rfl rfl rfl hp37) (yFA gX rfl) (oY (sT rfl rfl rfl rfl hp37) (yFA f0 rfl) (oY (sT rfl rfl rfl rfl hp37) (yL 1 aV rfl rfl rfl) ?_))
         obtain ⟨y60,hy61,h⟩:=bOs h
         refine oY (sT rfl rfl rfl rfl hp37) (yC [vI ((rdL p0.fR s30.2).fH.fLo)] nZ rfl (fun W2 hW2 => eJ ((rdL p0.fR s30.2).fH.fLo) y60 hy61 W2 ) rfl) (oY (sT rfl rfl rfl rfl hp37) (bQ rfl) (oY rfl (ad (vB hp37) rfl) ?_))
         obtain rfl:=sI h
         exact key _ _ (kp4 (kp4 (kp rfl)))
      ·refine cF (vB hp32) (aH (ag ?_))
       obtain rfl:=sI h
       exact ax ⟨rfl,_,rfl,(kp4 (kp rfl))⟩
     ·intro e L tm hJ
      rcases u31 with u63 | u64
      ·dsimp only at h hJ
       obtain ⟨rfl,tm0_u63,rfl,rfl⟩:=hJ
       refine ⟨(by intro hc; cases hc),?_⟩
       refine ak (aa ?_)
       obtain rfl:=sI h
       exact al (.inl rfl) rfl (rVt (v:=vI u63.1) rfl) (fun W2 hW2 => ⟨rfl,hW2.none⟩)
      ·dsimp only at h hJ
       obtain ⟨rfl,tm0_u64,rfl,rfl⟩:=hJ
       refine ⟨(by intro hc; cases hc),?_⟩
       refine ac (eT (cS (cR (oY rfl (yAI rfl) (oN (eT (am ?_)))))))
       obtain rfl:=sI h
       exact al (.inl rfl) rfl (rVt (v:=vI 0) rfl) (fun W2 hW2 => ⟨rfl,hW2.none⟩)
 ·rcases ao (decide (24 < (p0.fB.length:Int))) with hp2 | hp2
  ·refine oSk (sF rfl rfl rfl rfl hp2) (oSk (sF rfl rfl rfl rfl hp2) (oSk (sF rfl rfl rfl rfl hp2) (oSk (sF rfl rfl rfl rfl hp2) (oY rfl (ab (vB hp2) rfl) ?_))))
   exact key _ _ (keep (keep (keep rfl rfl) rfl) (vB (jf hp2)))
  ·refine oY (sT rfl rfl rfl rfl hp2) (yFA cn rfl) (oY (sT rfl rfl rfl rfl hp2) (yL 0 gP rfl rfl rfl) (oY (sT rfl rfl rfl rfl hp2) (bp (us:=[]) lC rfl) (oY (sT rfl rfl rfl rfl hp2) (gK rfl rfl) (oY rfl (ad (vB hp2) rfl) ?_))))
   exact key _ _ (keep (keep (keep rfl rfl) rfl) (vB (jg hp2)))
theorem p8 (p0:TO) (p1:TBay) (res:Bool) (h:jo p0 p1 = some res) (W:World)  :
  Calls Tryz.prog 101 [.agg #[vI p0.fID,vI p0.fH.fLo,vI p0.fH.fHi,vI p0.fD,vI p0.fW],.agg #[vI p1.fID,vI p1.fHour,vI p1.fD]].toArray W fun e W2 => e = .returned (.bool res) ∧ Ext W W2 []:=by
 unfold jo at h
 refine ae (m:=21) Tryz.func101 rfl rfl (nB rfl) (cS (cR ?_))
 refine aW [vI p0.fID,vI p0.fH.fLo,vI p0.fH.fHi,vI p0.fD,vI p0.fW] rfl rfl rfl (fun b1 => ?_)
 refine aW [vI p1.fID,vI p1.fHour,vI p1.fD] rfl rfl rfl (fun b2 => ?_)
 refine oY rfl (yAB rfl) (oN (eT (cS (cR (oY rfl (yFA qb rfl) (oY rfl (yL 1 aV rfl rfl rfl) (oY rfl (yFA gX rfl) (oY rfl (yFA f0 rfl) (oY rfl (yL 0 aV rfl rfl rfl) (oY rfl (yFA gX rfl) (oY rfl (yFA eC rfl) (oY rfl (yL 0 aV rfl rfl rfl) ?_))))))))))))
 obtain ⟨y3,hy4,h⟩:=bOs h
 refine oY rfl (yC [vI p1.fHour,vI p0.fH.fLo,vI p0.fH.fHi] g9 rfl (fun W2 hW2 => be p1.fHour p0.fH.fLo p0.fH.fHi y3 hy4 W2 ) rfl) (oY rfl (yMB rfl) ?_)
 refine oJ 6 (fun tm0 => (upd (upd tm0 4 (.bool false)) 20 (.bool (y3 && (decide (p0.fD ≤ p1.fD)))))) (fun tm0 => ?_) (fun key => ?_)
 ·refine oY rfl (yAB rfl) (oN (eT (am ?_)))
  obtain rfl:=sI h
  exact al (.inl rfl) rfl (rVt (v:=.bool (y3 && (decide (p0.fD ≤ p1.fD)))) rfl) (fun W2 hW2 => ⟨rfl,hW2.none⟩)
 ·rcases ao y3 with hp5 | hp5
  ·refine oY (sT rfl rfl rfl rfl hp5) (yFA py rfl) (oY (sT rfl rfl rfl rfl hp5) (yL 1 aV rfl rfl rfl) (oY (sT rfl rfl rfl rfl hp5) (yFA p5 rfl) (oY (sT rfl rfl rfl rfl hp5) (yL 0 aV rfl rfl rfl) (oY (sT rfl rfl rfl rfl hp5) (oR rfl rfl) (oY rfl (ab (vB hp5) rfl) ?_)))))
   exact key _ _ (keep (keep rfl rfl) (vB (fc hp5)))
  ·refine oSk (sF rfl rfl rfl rfl hp5) (oSk (sF rfl rfl rfl rfl hp5) (oSk (sF rfl rfl rfl rfl hp5) (oSk (sF rfl rfl rfl rfl hp5) (oSk (sF rfl rfl rfl rfl hp5) (oY rfl (ad (vB hp5) rfl) ?_)))))
   exact key _ _ (keep (keep rfl rfl) (vB (fa hp5)))
theorem lb : ∀ (fuel:Nat) (p0:Int) (cap0:TY) (cap1:(List (Int × Bool))) (cap2:(List (Int × Int))) (res:(Bool × (List (Int × Bool)) × (List (Int × Int)))) (h:bu fuel p0 cap0 cap1 cap2 = some res) (W:World) (w0:World) (R:Res) (bmc1:Nat) (bmc2:Nat) (bc0:Nat) (A100_0:Option Addr) (n100_0 c100_0 : Nat) (hn100_0:n100_0 = cap0.fB.length) (hr100_0:∀ W2,Below w0.heap.size w0 W2 → R.holds W2 → Rd W2 A100_0 n100_0 c100_0 (encL aG cap0.fB)) (A100_1:Option Addr) (n100_1 c100_1 : Nat) (hn100_1:n100_1 = cap0.fR.length) (hr100_1:∀ W2,Below w0.heap.size w0 W2 → R.holds W2 → Rd W2 A100_1 n100_1 c100_1 (encL aB cap0.fR)) (hcap0:∀ W2,Below w0.heap.size w0 W2 → R.holds W2 → Rd W2 (some ⟨bc0,0,none⟩) 1 1 [.slice A100_0 n100_0 c100_0,.slice A100_1 n100_1 c100_1]) (bc1:Nat) (hcap1:∀ W2,Below w0.heap.size w0 W2 → R.holds W2 → Rd W2 (some ⟨bc1,0,none⟩) 1 1 [.map (some bmc1)]) (bc2:Nat) (hcap2:∀ W2,Below w0.heap.size w0 W2 → R.holds W2 → Rd W2 (some ⟨bc2,0,none⟩) 1 1 [.map (some bmc2)]) (bc3:Nat) (hcap3:∀ W2,Below w0.heap.size w0 W2 → R.holds W2 → Rd W2 (some ⟨bc3,0,none⟩) 1 1 [.func (.func 156) #[] #[.pointer (some ⟨bc0,0,none⟩),.pointer (some ⟨bc1,0,none⟩),.pointer (some ⟨bc2,0,none⟩),.pointer (some ⟨bc3,0,none⟩)]]) (hW:Ext w0 W [R,mapV Tryz.prog 3 kI dW kB false bmc1 cap1,mapV Tryz.prog 3 kI dW kI 0 bmc2 cap2]),
  Calls Tryz.prog 156 [vI p0,.pointer (some ⟨bc0,0,none⟩),.pointer (some ⟨bc1,0,none⟩),.pointer (some ⟨bc2,0,none⟩),.pointer (some ⟨bc3,0,none⟩)].toArray W fun e W2 => ∃ x : Unit,True ∧ e = .returned (.bool res.1) ∧ Ext w0 W2 [R,mapV Tryz.prog 3 kI dW kB false bmc1 res.2.1,mapV Tryz.prog 3 kI dW kI 0 bmc2 res.2.2]:=by
 intro fuel
 induction fuel with
 | zero => intro p0 cap0 cap1 cap2 res h W w0 R bmc1 bmc2 bc0 A100_0 n100_0 c100_0 hn100_0 hr100_0 A100_1 n100_1 c100_1 hn100_1 hr100_1 hcap0 bc1 hcap1 bc2 hcap2 bc3 hcap3 hW; exact absurd h (by unfold bu; exact fun h => by cases h)
 | succ fuel ih =>
  intro p0 cap0 cap1 cap2 res h W w0 R bmc1 bmc2 bc0 A100_0 n100_0 c100_0 hn100_0 hr100_0 A100_1 n100_1 c100_1 hn100_1 hr100_1 hcap0 bc1 hcap1 bc2 hcap2 bc3 hcap3 hW
  subst hn100_0
  subst hn100_1
  change dN (bu fuel) p0 cap0 cap1 cap2 = some res at h
  unfold dN at h
  refine a8 (m:=51) Tryz.func156 rfl rfl (nB rfl) hW (cS (cR (oY rfl (yAB rfl) (oN (eT (cx_scope (cS (cx_label (eT (cS (cS (cR (oY rfl (yFR (A:=(some ⟨bc0,0,none⟩)) (j:=0) eM rfl) (oY rfl (yR (A:=(some ⟨bc0,0,none⟩)) (j:=(0 + 0)) (v:=.slice A100_0 cap0.fB.length c100_0) ky (RdL.under hcap0) rfl rfl) (oY rfl (bp (us:=[]) kg rfl) (oY rfl (yMI rfl) (oN (eT (cB ?_)))))))))))))))))))
  obtain ⟨u4,hl24,h⟩:=bOs h
  refine bF (fun (s:(Bool × Int × (List (Int × Bool)) × (List (Int × Int)))) L tm => ∃ (tm0:Nat → Value),L = [R,mapV Tryz.prog 3 kI dW kB false bmc1 s.2.2.1,mapV Tryz.prog 3 kI dW kI 0 bmc2 s.2.2.2] ∧ tm = (upd (upd (upd (upd (upd (upd (upd (upd (upd tm0 0 (vI p0)) 1 (slA (some ⟨bc0,0,none⟩) 0)) 2 (slA (some ⟨bc1,0,none⟩) 0)) 3 (slA (some ⟨bc2,0,none⟩) 0)) 4 (slA (some ⟨bc3,0,none⟩) 0)) 6 (.bool s.1)) 12 (.slice A100_0 cap0.fB.length c100_0)) 13 (vI (cap0.fB.length:Int))) 14 (vI s.2.1))) 0 hl24 ⟨_,rfl,(kp4 (kp4 (kp rfl)))⟩ ?_ ?_
  ·rintro s3 L tm st ⟨tm0_s3,rfl,rfl⟩ h
   unfold bU at h
   refine cS (cR (oY rfl (bj rfl rfl) (oN (eT (cS ?_)))))
   rcases iOs h with ⟨hp5,h⟩ | ⟨hp5,h⟩
   ·refine cT (vB hp5) (cK (eT (cS (cB (cS (cR (oY rfl (yMI rfl) ?_)))))))
    obtain ⟨hg6,h⟩:=gOs h
    refine oY rfl (yI mF (by decide) hg6.1 hg6.2 (RdL.under hr100_0) (eL aK rfl) rfl rfl) ?_
    refine oY rfl (yM (A:=A100_0) (j:=(Int.toNat s3.2.1 * 3)) [vI ((rdL cap0.fB s3.2.1).fID),vI ((rdL cap0.fB s3.2.1).fHour),vI ((rdL cap0.fB s3.2.1).fD)] ag_69 (Nat.succ_pos _) (RdL.under hr100_0) rfl (bl aK hg6.1 (ah hg6.2 rfl))) ?_
    refine aE oK rfl (fun b7 => ?_)
    refine oY rfl (yAI rfl) (cr rfl (yS 3 [vI ((rdL cap0.fB s3.2.1).fID),vI ((rdL cap0.fB s3.2.1).fHour),vI ((rdL cap0.fB s3.2.1).fD)] sz_69 rfl (nB rfl) rfl rfl rfl) (oN (eT (cS (cS ?_)))))
    refine bh 13 cD (by kernel_rfl) (by kernel_rfl) ?_
    refine qY rfl (yR (A:=(some ⟨bc1,0,none⟩)) (j:=0) (v:=.map (some bmc1)) sc_189 (RdL.under hcap1) rfl rfl) (qY rfl (yMI rfl) ?_)
    obtain ⟨hg8,h⟩:=gOs h
    refine qY rfl (kM (k:=s3.2.1) (MpL.own 1 rfl) ke_3 um_189 ze_4 rfl rfl hg8) (qY rfl (yMB rfl) ?_)
    obtain ⟨b10,hb11,h⟩:=bOs h
    refine qJ 9 (fun tm0 => (upd (upd (upd (upd (upd (upd (upd (upd (upd (upd (upd (upd (upd tm0 0 (vI p0)) 1 (slA (some ⟨bc0,0,none⟩) 0)) 2 (slA (some ⟨bc1,0,none⟩) 0)) 3 (slA (some ⟨bc2,0,none⟩) 0)) 4 (slA (some ⟨bc3,0,none⟩) 0)) 6 (.bool s3.1)) 12 (.slice A100_0 cap0.fB.length c100_0)) 13 (vI (cap0.fB.length:Int))) 14 (vI s3.2.1)) 15 (.bool (decide (s3.2.1 < (cap0.fB.length:Int))))) 8 (.pointer (some ⟨b7,0,none⟩))) 7 (vI s3.2.1)) 31 (.bool b10))) (fun tm0 => ?_) (fun key => ?_)
    ·refine cd (oN (eT ?_))
     rcases iOs h with ⟨hp12,h⟩ | ⟨hp12,h⟩
     ·refine cT (vB hp12) (aH (ag (ac (eT (cR (oY rfl (aT rfl rfl) (oY rfl (yMI rfl) (oN (aU 3 ?_)))))))))
      obtain rfl:=sI h
      exact eN ⟨_,rfl,(kp4 (kp4 (kp rfl)))⟩
     ·refine cF (vB hp12) (cK (eT (cS (cR (oY rfl (yR (A:=(some ⟨bc1,0,none⟩)) (j:=0) (v:=.map (some bmc1)) sc_189 (RdL.under hcap1) rfl rfl) (oY rfl (yMI rfl) ?_))))))
      obtain ⟨hg13,h⟩:=gOs h
      refine cr rfl (kF 1 (k:=s3.2.1) (v:=true) rfl ke_3 um_189 rfl rfl rfl hg13) (oN (eT (cS (cR (oY rfl (yR (A:=(some ⟨bc2,0,none⟩)) (j:=0) (v:=.map (some bmc2)) sg (RdL.under hcap2) rfl rfl) (oY rfl (yMI rfl) ?_))))))
      obtain ⟨hg14,h⟩:=gOs h
      refine oY rfl (mA (k:=s3.2.1) (MpL.own 2 rfl) ke_3 qK lj rfl rfl hg14) (oY rfl (aN rfl) (oY rfl (yE rfl rfl) (oY rfl (yE rfl rfl) (oY rfl (yAI rfl) (oY rfl (yAB rfl) (oN (eT (cS (cR (oY rfl (yMB rfl) (oY rfl (bQ rfl) (oY rfl (yMB rfl) ?_))))))))))))
      rcases iOs h with ⟨hp15,h⟩ | ⟨hp15,h⟩
      ·refine oSk (sF rfl rfl rfl rfl hp15) (oSk (sF rfl rfl rfl rfl hp15) (oSk (sF rfl rfl rfl rfl hp15) (oY rfl (ab (vB hp15) rfl) (oN (eT (cT rfl (cS (cR (oY rfl (yR (A:=(some ⟨bc2,0,none⟩)) (j:=0) (v:=.map (some bmc2)) sg (RdL.under hcap2) rfl rfl) (oY rfl (yMI rfl) (oY rfl (yMI rfl) ?_)))))))))))
       obtain ⟨hg16,h⟩:=gOs h
       refine cr rfl (kF 2 (k:=s3.2.1) (v:=p0) rfl ke_3 qK rfl rfl rfl hg16) (oN (eT (cS (cR (oY rfl (yAB rfl) (oN (eT (am (ak (aa (aU 3 ?_)))))))))))
       obtain rfl:=sI h
       exact ax ⟨rfl,_,rfl,(kp4 (kp4 (kp rfl)))⟩
      ·refine oY (sT rfl rfl rfl rfl hp15) (yR (A:=(some ⟨bc3,0,none⟩)) (j:=0) (v:=.func (.func 156) #[] #[.pointer (some ⟨bc0,0,none⟩),.pointer (some ⟨bc1,0,none⟩),.pointer (some ⟨bc2,0,none⟩),.pointer (some ⟨bc3,0,none⟩)]) sc_127 (RdL.under hcap3) rfl rfl) (oY (sT rfl rfl rfl rfl hp15) (yMI rfl) ?_)
       obtain ⟨y17,hy18,h⟩:=bOs h
       refine gg [1,2] [] [vI (az 0 s3.2.2.2 s3.2.1)] [.pointer (some ⟨bc0,0,none⟩),.pointer (some ⟨bc1,0,none⟩),.pointer (some ⟨bc2,0,none⟩),.pointer (some ⟨bc3,0,none⟩)] (fun (_:Unit) => True) (fun _ => .bool y17.1) (fun _ => [mapV Tryz.prog 3 kI dW kB false bmc1 y17.2.1,mapV Tryz.prog 3 kI dW kI 0 bmc2 y17.2.2]) (fun _ => []) (Foc.c2 rfl rfl) (by decide) (sT rfl rfl rfl rfl hp15) go_156 rfl rfl (fun _ => rfl) (fun W2 hW2 => ih (az 0 s3.2.2.2 s3.2.1) cap0 ((s3.2.1,true) :: s3.2.2.1) s3.2.2.2 y17 hy18 W2 _ (bB [R,mapV Tryz.prog 3 kI dW kB false bmc1 ((s3.2.1,true) :: s3.2.2.1),mapV Tryz.prog 3 kI dW kI 0 bmc2 s3.2.2.2,ai b7 69 [vI ((rdL cap0.fB s3.2.1).fID),vI ((rdL cap0.fB s3.2.1).fHour),vI ((rdL cap0.fB s3.2.1).fD)]] [1,2]) bmc1 bmc2 bc0 A100_0 cap0.fB.length c100_0 rfl (fun W3 hb hR => (RdL.under hr100_0) W3 (hW2.restL hb hR)) A100_1 cap0.fR.length c100_1 rfl (fun W3 hb hR => (RdL.under hr100_1) W3 (hW2.restL hb hR)) (fun W3 hb hR => (RdL.under hcap0) W3 (hW2.restL hb hR)) bc1 (fun W3 hb hR => (RdL.under hcap1) W3 (hW2.restL hb hR)) bc2 (fun W3 hb hR => (RdL.under hcap2) W3 (hW2.restL hb hR)) bc3 (fun W3 hb hR => (RdL.under hcap3) W3 (hW2.restL hb hR)) hW2) ?_
       rintro - -
       try dsimp only [ll,lsz,lss,List.append_nil]
       refine oY rfl (ad (vB hp15) rfl) (oN (eT ?_))
       rcases iOs h with ⟨hp19,h⟩ | ⟨hp19,h⟩
       ·refine cT (vB hp19) (cS (cR (oY rfl (yR (A:=(some ⟨bc2,0,none⟩)) (j:=0) (v:=.map (some bmc2)) sg (RdL.under hcap2) rfl rfl) (oY rfl (yMI rfl) (oY rfl (yMI rfl) ?_)))))
        obtain ⟨hg20,h⟩:=gOs h
        refine cr rfl (kF 2 (k:=s3.2.1) (v:=p0) rfl ke_3 qK rfl rfl rfl hg20) (oN (eT (cS (cR (oY rfl (yAB rfl) (oN (eT (am (ak (aa (aU 3 ?_)))))))))))
        obtain rfl:=sI h
        exact ax ⟨rfl,_,rfl,(kp4 (kp4 (kp rfl)))⟩
       ·refine cF (vB hp19) (cK (aw (eT (cR (oY rfl (aT rfl rfl) (oY rfl (yMI rfl) (oN (aU 3 ?_))))))))
        obtain rfl:=sI h
        exact eN ⟨_,rfl,(kp4 (kp4 (kp rfl)))⟩
    ·clear h; rcases iOs hb11 with ⟨hp9,h⟩ | ⟨hp9,h⟩
     ·refine av (sF rfl rfl rfl rfl hp9) (av (sF rfl rfl rfl rfl hp9) (av (sF rfl rfl rfl rfl hp9) (av (sF rfl rfl rfl rfl hp9) (av (sF rfl rfl rfl rfl hp9) (av (sF rfl rfl rfl rfl hp9) (av (sF rfl rfl rfl rfl hp9) (av (sF rfl rfl rfl rfl hp9) (qY rfl (ab (vB hp9) rfl) ?_))))))))
      obtain rfl:=sI h
      exact key _ _ (kp4 (kp4 (kp4 (kp rfl))))
     ·refine qY (sT rfl rfl rfl rfl hp9) (yFR (A:=(some ⟨bc0,0,none⟩)) (j:=0) cn rfl) (qY (sT rfl rfl rfl rfl hp9) (yR (A:=(some ⟨bc0,0,none⟩)) (j:=(0 + 1)) (v:=.slice A100_1 cap0.fR.length c100_1) gP (RdL.under hcap0) rfl rfl) (qY (sT rfl rfl rfl rfl hp9) (yMI rfl) ?_))
      obtain ⟨hg21,h⟩:=gOs h
      refine qY (sT rfl rfl rfl rfl hp9) (yI kC (by decide) hg21.1 hg21.2 (RdL.under hr100_1) (eL ar rfl) rfl rfl) ?_
      refine qY (sT rfl rfl rfl rfl hp9) (yM (A:=A100_1) (j:=(Int.toNat p0 * 5)) [vI ((rdL cap0.fR p0).fID),vI ((rdL cap0.fR p0).fH.fLo),vI ((rdL cap0.fR p0).fH.fHi),vI ((rdL cap0.fR p0).fD),vI ((rdL cap0.fR p0).fW)] qV (Nat.succ_pos _) (RdL.under hr100_1) rfl (bl ar hg21.1 (ah hg21.2 rfl))) (qY (sT rfl rfl rfl rfl hp9) (yN 3 [vI ((rdL cap0.fB s3.2.1).fID),vI ((rdL cap0.fB s3.2.1).fHour),vI ((rdL cap0.fB s3.2.1).fD)] ag_69 rfl rfl rfl) ?_)
      obtain ⟨y22,hy23,h⟩:=bOs h
      refine qY (sT rfl rfl rfl rfl hp9) (yC [.agg #[vI ((rdL cap0.fR p0).fID),vI ((rdL cap0.fR p0).fH.fLo),vI ((rdL cap0.fR p0).fH.fHi),vI ((rdL cap0.fR p0).fD),vI ((rdL cap0.fR p0).fW)],.agg #[vI ((rdL cap0.fB s3.2.1).fID),vI ((rdL cap0.fB s3.2.1).fHour),vI ((rdL cap0.fB s3.2.1).fD)]] go_101 rfl (fun W2 hW2 => p8 (TO.mk ((rdL cap0.fR p0).fID) (TSpan.mk ((rdL cap0.fR p0).fH.fLo) ((rdL cap0.fR p0).fH.fHi)) ((rdL cap0.fR p0).fD) ((rdL cap0.fR p0).fW)) (TBay.mk ((rdL cap0.fB s3.2.1).fID) ((rdL cap0.fB s3.2.1).fHour) ((rdL cap0.fB s3.2.1).fD)) y22 hy23 W2 ) rfl) (qY (sT rfl rfl rfl rfl hp9) (bQ rfl) (qY rfl (ad (vB hp9) rfl) ?_))
      obtain rfl:=sI h
      exact key _ _ (kp4 (kp4 (kp4 (kp rfl))))
   ·refine cF (vB hp5) (aH (ag ?_))
    obtain rfl:=sI h
    exact ax ⟨rfl,_,rfl,(kp4 (kp4 (kp rfl)))⟩
  ·intro e L tm hJ
   rcases u4 with u25 | u26
   ·dsimp only at h hJ
    obtain ⟨rfl,tm0_u25,rfl,rfl⟩:=hJ
    refine ⟨(by intro hc; cases hc),?_⟩
    refine ak (aa (mI ?_))
    obtain rfl:=sI h
    exact al (.inl rfl) rfl (rVt (v:=.bool u25.1) rfl) (fun W2 hW2 => ⟨(),trivial,rfl,hW2.take 3⟩)
   ·dsimp only at h hJ
    obtain ⟨rfl,tm0_u26,rfl,rfl⟩:=hJ
    refine ⟨(by intro hc; cases hc),?_⟩
    refine ac (eT (cS (cR (oY rfl (yAB rfl) (oN (eT (am (mI ?_))))))))
    obtain rfl:=sI h
    exact al (.inl rfl) rfl (rVt (v:=.bool false) rfl) (fun W2 hW2 => ⟨(),trivial,rfl,hW2.take 3⟩)
theorem iT (p0:(List (Int × Int))) (p1:TY) (p2:Int) (res:(Bool × (List (Int × Int)))) (h:gh p0 p1 p2 = some res) (W:World) (w0:World) (R:Res) (bm0:Nat) (Ac:Option Addr) (n1_0 cc : Nat) (hn1_0:n1_0 = p1.fB.length) (hr1_0:∀ W2,Below w0.heap.size w0 W2 → R.holds W2 → Rd W2 Ac n1_0 cc (encL aG p1.fB)) (A1_1:Option Addr) (n1_1 c1_1 : Nat) (hn1_1:n1_1 = p1.fR.length) (hr1_1:∀ W2,Below w0.heap.size w0 W2 → R.holds W2 → Rd W2 A1_1 n1_1 c1_1 (encL aB p1.fR)) (hW:Ext w0 W [R,mapV Tryz.prog 3 kI dW kI 0 bm0 p0]) :
  Calls Tryz.prog 117 [.map (some bm0),.agg #[.slice Ac n1_0 cc,.slice A1_1 n1_1 c1_1],vI p2].toArray W fun e W2 => ∃ x : Unit,True ∧ e = .returned (.bool res.1) ∧ Ext w0 W2 [R,mapV Tryz.prog 3 kI dW kI 0 bm0 res.2]:=by
 subst hn1_0
 subst hn1_1
 unfold gh at h
 refine a8 (m:=14) Tryz.func117 rfl rfl (nB rfl) hW (cS (cR ?_))
 refine aW [.map (some bm0)] rfl rfl rfl (fun b1 => ?_)
 refine aW [.slice Ac p1.fB.length cc,.slice A1_1 p1.fR.length c1_1] rfl rfl rfl (fun b2 => ?_)
 refine oY rfl (yAB rfl) (oN (eT (cS (cR ?_))))
 refine jR 3 kI dW kB false rfl (fun b3 => ?_)
 refine aE ze_189 rfl (fun b4 => ?_)
 try dsimp only [lna,lca,lsz,lss]
 refine cr rfl (dt 5 (v:=.map (some b3)) sz_189 rfl (Nat.lt_of_lt_of_le (Nat.lt_succ_self _) (nB rfl)) rfl rfl rfl) (oN (eT (cS (cR ?_))))
 refine aE ze_127 rfl (fun b5 => ?_)
 try dsimp only [lna,lca,lsz,lss]
 refine oN (eT (cS (cR (oY rfl (ct [.pointer (some ⟨b2,0,none⟩),.pointer (some ⟨b4,0,none⟩),.pointer (some ⟨b1,0,none⟩),.pointer (some ⟨b5,0,none⟩)] rfl rfl) (cr rfl (dt 6 (v:=.func (.func 156) #[] #[.pointer (some ⟨b2,0,none⟩),.pointer (some ⟨b4,0,none⟩),.pointer (some ⟨b1,0,none⟩),.pointer (some ⟨b5,0,none⟩)]) sz_127 rfl (Nat.lt_of_lt_of_le (Nat.lt_succ_self _) (nB rfl)) rfl rfl rfl) (oN (eT (cS (cR (oY rfl (yL 6 sc_127 rfl rfl rfl) (oY rfl (yMI rfl) ?_)))))))))))
 obtain ⟨y6,hy7,h⟩:=bOs h
 refine gg [4,1] [] [vI p2] [.pointer (some ⟨b2,0,none⟩),.pointer (some ⟨b4,0,none⟩),.pointer (some ⟨b1,0,none⟩),.pointer (some ⟨b5,0,none⟩)] (fun (_:Unit) => True) (fun _ => .bool y6.1) (fun _ => [mapV Tryz.prog 3 kI dW kB false b3 y6.2.1,mapV Tryz.prog 3 kI dW kI 0 bm0 y6.2.2]) (fun _ => []) (Foc.c2 rfl rfl) (by decide) rfl go_156 rfl rfl (fun _ => rfl) (fun W2 hW2 => lb (p1.fB.length + 2) p2 p1 [] p0 y6 hy7 W2 _ (bB [R,mapV Tryz.prog 3 kI dW kI 0 bm0 p0,ai b1 152 [.map (some bm0)],ai b2 53 [.slice Ac p1.fB.length cc,.slice A1_1 p1.fR.length c1_1],mapV Tryz.prog 3 kI dW kB false b3 [],ai b4 189 [.map (some b3)],ai b5 127 [.func (.func 156) #[] #[.pointer (some ⟨b2,0,none⟩),.pointer (some ⟨b4,0,none⟩),.pointer (some ⟨b1,0,none⟩),.pointer (some ⟨b5,0,none⟩)]]] [4,1]) b3 bm0 b2 Ac p1.fB.length cc rfl (fun W3 hb hR => (RdL.under hr1_0) W3 (hW2.restL hb hR)) A1_1 p1.fR.length c1_1 rfl (fun W3 hb hR => (RdL.under hr1_1) W3 (hW2.restL hb hR)) (fun W3 hb hR => (RdL.cells 3 rfl) W3 (hW2.restL hb hR)) b4 (fun W3 hb hR => (RdL.cells 5 rfl) W3 (hW2.restL hb hR)) b1 (fun W3 hb hR => (RdL.cells 2 rfl) W3 (hW2.restL hb hR)) b5 (fun W3 hb hR => (RdL.cells 6 rfl) W3 (hW2.restL hb hR)) hW2) ?_
 rintro - -
 try dsimp only [ll,lsz,lss,List.append_nil]
 refine oY rfl (yAB rfl) (oN (eT (am ?_)))
 obtain rfl:=sI h
 exact al (.inl rfl) rfl (rVt (v:=.bool y6.1) rfl) (fun W2 hW2 => ⟨(),trivial,rfl,hW2.take 2⟩)
theorem fZ (p0:(List Int)) (p1:Int) (p2:Int) (p3:Int → Int → Option Int) (res:(List Int)) (h:bX p0 p1 p2 p3 = some res) (W:World) (w0:World) (R:Res) (Aa:Option Addr) (n0_0 ca : Nat) (hn0_0:n0_0 = p0.length) (fid3:Nat) (fst3 caps3 : List Value) (hgo3:bC Tryz.prog fid3 = true) (hof3:∀ W2,Below w0.heap.size w0 W2 → R.holds W2 → ∀ x0 x1,∀ y,p3 x0 x1 = some y → Calls Tryz.prog fid3 (fst3 ++ (([vI x0,vI x1] : List Value) ++ caps3)).toArray W2 fun e W3 => e = .returned (vI y) ∧ Ext W2 W3 []) (hW:Ext w0 W [R,aL Aa ca 3 1 n0_0 (encL cI p0)]) :
  Calls Tryz.prog 190 [.slice Aa n0_0 ca,vI p1,vI p2,.func (.func fid3) fst3.toArray caps3.toArray].toArray W fun e W2 => e = .returned (.tuple #[]) ∧ n0_0 = res.length ∧ Ext w0 W2 [R,aL Aa ca 3 1 n0_0 (encL cI res)]:=by
 subst hn0_0
 unfold bX at h
 refine a8 (m:=53) Tryz.func190 rfl rfl (nB rfl) hW (cS (cR (oY rfl (yMI rfl) (oY rfl (aT rfl rfl) (oY rfl (yAI rfl) (oN (eT (cB ?_))))))))
 obtain ⟨u4,hl24,h⟩:=bOs h
 refine ba (fun (s:(Int × (List Int))) L tm => ∃ (tm0:Nat → Value),p0.length = s.2.length ∧ L = [R,aL Aa ca 3 1 p0.length (encL cI s.2)] ∧ tm = (upd (upd (upd (upd (upd tm0 0 (.slice Aa p0.length ca)) 1 (vI p1)) 2 (vI p2)) 3 (.func (.func fid3) fst3.toArray caps3.toArray)) 8 (vI s.1))) 0 hl24 ⟨_,rfl,rfl,(kp4 (kp rfl))⟩ ?_ ?_
 ·rintro s3 L tm st ⟨tm0_s3,hn1_s3,rfl,rfl⟩ h
  unfold c8 at h
  refine cS (cS (cR (oY rfl (yMI rfl) (oY rfl (yMI rfl) (oY rfl (bj rfl rfl) (oN (eT ?_)))))))
  rcases iOs h with ⟨hp5,h⟩ | ⟨hp5,h⟩
  ·refine cT (vB hp5) (cK (eT (cS (cB (cS (cR (oY rfl (yMI rfl) (oY rfl (yAI rfl) (oN (eT (cB ?_)))))))))))
   obtain ⟨u9,hl23,h⟩:=bOs h
   refine ba (fun (s:(Int × (List Int))) L tm => ∃ (tm0:Nat → Value),p0.length = s.2.length ∧ L = [R,aL Aa ca 3 1 p0.length (encL cI s.2)] ∧ tm = (upd (upd (upd (upd (upd (upd (upd tm0 0 (.slice Aa p0.length ca)) 1 (vI p1)) 2 (vI p2)) 3 (.func (.func fid3) fst3.toArray caps3.toArray)) 8 (vI s3.1)) 14 (.bool (decide (s3.1 < p2)))) 9 (vI s.1))) 2 hl23 ⟨_,hn1_s3,rfl,(kp4 (kp (kp (kp rfl))))⟩ ?_ ?_
   ·rintro s8 L tm st ⟨tm0_s8,hn1_s8,rfl,rfl⟩ h
    unfold cZ at h
    refine cS (cS ?_)
    refine bh 17 cD (by kernel_rfl) (by kernel_rfl) ?_
    refine qY rfl (yMI rfl) (qY rfl (yMI rfl) (qY rfl (gK rfl rfl) (qY rfl (yMB rfl) ?_)))
    obtain ⟨b11,hb12,h⟩:=bOs h
    refine qJ 13 (fun tm0 => (upd (upd (upd (upd (upd (upd (upd (upd tm0 0 (.slice Aa p0.length ca)) 1 (vI p1)) 2 (vI p2)) 3 (.func (.func fid3) fst3.toArray caps3.toArray)) 8 (vI s3.1)) 14 (.bool (decide (s3.1 < p2)))) 9 (vI s8.1)) 34 (.bool b11))) (fun tm0 => ?_) (fun key => ?_)
    ·refine cd (oN (eT ?_))
     rcases iOs h with ⟨hp13,h⟩ | ⟨hp13,h⟩
     ·refine cT (vB hp13) (cK (eT (cS (cB ?_))))
      obtain ⟨hg15,h⟩:=gOs h
      obtain ⟨hg16,h⟩:=gOs h
      obtain ⟨hg17,h⟩:=gOs h
      obtain ⟨hg18,h⟩:=gOs h
      refine eF [[],[],[],[],[3],[],[],[6],[5,6,7],[5,6,7,8],[],[],[10,11],[10,11,12],[0,1,5,6,7,8,9,10,11,12,13],[0,1,5,6,7,8,9,10,11,12,13,14],[0,1,2,3,4,5,6,7,8,9,10,11,12,13,14,15],[0,1,2,3,4,5,6,7,8,9,10,11,12,13,14,15,16]] [(none,0,[true,true]),(none,0,[true,true]),(none,0,[true,false]),(none,0,[true,false]),(none,0,[true,false]),(none,0,[true,true]),(none,0,[true,true]),(none,0,[true,true]),(none,0,[true,true]),(none,0,[true,true]),(none,0,[true,true]),(none,0,[true,true]),(none,0,[true,true]),(none,0,[true,true]),(none,0,[true,true]),(some 1,0,[true,true]),(none,0,[true,true]),(some 1,0,[true,true])] [⟨fun _ => .slice Aa p0.length ca,fun _ => noR,fun _ => []⟩,⟨fun _ => vI s8.1,fun _ => noR,fun _ => []⟩,⟨fun _ => .slice Aa p0.length ca,fun _ => noR,fun _ => []⟩,⟨fun _ => vI s8.1,fun _ => noR,fun _ => []⟩,⟨fun _ => vI (w64 (s8.1 - 1)),fun _ => noR,fun _ => []⟩,⟨fun _ => .slice Aa p0.length ca,fun _ => noR,fun _ => []⟩,⟨fun _ => vI s8.1,fun _ => noR,fun _ => []⟩,⟨fun _ => vI (w64 (s8.1 - 1)),fun _ => noR,fun _ => []⟩,⟨fun _ => slA Aa (Int.toNat (w64 (s8.1 - 1)) * 1),fun _ => noR,fun _ => []⟩,⟨fun _ => vI (rdL s8.2 (w64 (s8.1 - 1))),fun _ => noR,fun _ => []⟩,⟨fun _ => .slice Aa p0.length ca,fun _ => noR,fun _ => []⟩,⟨fun _ => vI s8.1,fun _ => noR,fun _ => []⟩,⟨fun _ => slA Aa (Int.toNat s8.1 * 1),fun _ => noR,fun _ => []⟩,⟨fun _ => vI (rdL s8.2 s8.1),fun _ => noR,fun _ => []⟩,⟨fun _ => slA Aa (Int.toNat s8.1 * 1),fun _ => noR,fun _ => []⟩,⟨fun _ => undef,fun _ => aL Aa ca 3 1 p0.length (encL cI (s8.2.set (Int.toNat s8.1) (rdL s8.2 (w64 (s8.1 - 1))))),fun _ => []⟩,⟨fun _ => slA Aa (Int.toNat (w64 (s8.1 - 1)) * 1),fun _ => noR,fun _ => []⟩,⟨fun _ => undef,fun _ => aL Aa ca 3 1 p0.length (encL cI ((s8.2.set (Int.toNat s8.1) (rdL s8.2 (w64 (s8.1 - 1)))).set (Int.toNat (w64 (s8.1 - 1))) (rdL s8.2 s8.1))),fun _ => []⟩] 2 cD (by kernel_rfl) (by kernel_rfl) ⟨⟨fun ξ14 ξ14' h => ⟨rfl,rfl,rfl⟩,fun _ => rfl⟩,⟨fun ξ14 ξ14' h => ⟨rfl,rfl,rfl⟩,fun _ => rfl⟩,⟨fun ξ14 ξ14' h => ⟨rfl,rfl,rfl⟩,fun _ => rfl⟩,⟨fun ξ14 ξ14' h => ⟨rfl,rfl,rfl⟩,fun _ => rfl⟩,⟨fun ξ14 ξ14' h => ⟨rfl,rfl,rfl⟩,fun _ => rfl⟩,⟨fun ξ14 ξ14' h => ⟨rfl,rfl,rfl⟩,fun _ => rfl⟩,⟨fun ξ14 ξ14' h => ⟨rfl,rfl,rfl⟩,fun _ => rfl⟩,⟨fun ξ14 ξ14' h => ⟨rfl,rfl,rfl⟩,fun _ => rfl⟩,⟨fun ξ14 ξ14' h => ⟨rfl,rfl,rfl⟩,fun _ => rfl⟩,⟨fun ξ14 ξ14' h => ⟨rfl,rfl,rfl⟩,fun _ => rfl⟩,⟨fun ξ14 ξ14' h => ⟨rfl,rfl,rfl⟩,fun _ => rfl⟩,⟨fun ξ14 ξ14' h => ⟨rfl,rfl,rfl⟩,fun _ => rfl⟩,⟨fun ξ14 ξ14' h => ⟨rfl,rfl,rfl⟩,fun _ => rfl⟩,⟨fun ξ14 ξ14' h => ⟨rfl,rfl,rfl⟩,fun _ => rfl⟩,⟨fun ξ14 ξ14' h => ⟨rfl,rfl,rfl⟩,fun _ => rfl⟩,⟨fun ξ14 ξ14' h => ⟨rfl,rfl,rfl⟩,fun _ => rfl⟩,⟨fun ξ14 ξ14' h => ⟨rfl,rfl,rfl⟩,fun _ => rfl⟩,⟨fun ξ14 ξ14' h => ⟨rfl,rfl,rfl⟩,fun _ => rfl⟩,trivial⟩ rfl (fun ξ14 => ?_)
      refine bN rfl (fun L2 => ?_) ?_
      ·dsimp only [aF,lca,lna]
       refine oY rfl (yMS rfl) (oN ?_)
       exact ap (fun _ => (none,0,0,[],noR)) rfl (List.append_nil _)
      dsimp only [bx,lsz,lss,lna,lca,List.append_nil]
      refine bN rfl (fun L2 => ?_) ?_
      ·dsimp only [aF,lca,lna]
       refine oY rfl (yMI rfl) (oN ?_)
       exact ap (fun _ => (none,0,0,[],noR)) rfl (List.append_nil _)
      dsimp only [bx,lsz,lss,lna,lca,List.append_nil]
      refine bN rfl (fun L2 => ?_) ?_
      ·dsimp only [aF,lca,lna]
       refine oY rfl (yMS rfl) (oN ?_)
       exact ap (fun _ => (none,0,0,[],noR)) rfl (List.append_nil _)
      dsimp only [bx,lsz,lss,lna,lca,List.append_nil]
      refine bN rfl (fun L2 => ?_) ?_
      ·dsimp only [aF,lca,lna]
       refine oY rfl (yMI rfl) (oN ?_)
       exact ap (fun _ => (none,0,0,[],noR)) rfl (List.append_nil _)
      dsimp only [bx,lsz,lss,lna,lca,List.append_nil]
      refine bN rfl (fun L2 => ?_) ?_
      ·dsimp only [aF,lca,lna]
       refine oY rfl (eH rfl rfl) (oN ?_)
       exact ap (fun _ => (none,0,0,[],noR)) rfl (List.append_nil _)
      dsimp only [bx,lsz,lss,lna,lca,List.append_nil]
      refine bN rfl (fun L2 => ?_) ?_
      ·dsimp only [aF,lca,lna]
       refine oY rfl (yMS rfl) (oN ?_)
       exact ap (fun _ => (none,0,0,[],noR)) rfl (List.append_nil _)
      dsimp only [bx,lsz,lss,lna,lca,List.append_nil]
      refine bN rfl (fun L2 => ?_) ?_
      ·dsimp only [aF,lca,lna]
       refine oY rfl (yMI rfl) (oN ?_)
       exact ap (fun _ => (none,0,0,[],noR)) rfl (List.append_nil _)
      dsimp only [bx,lsz,lss,lna,lca,List.append_nil]
      refine bN rfl (fun L2 => ?_) ?_
      ·dsimp only [aF,lca,lna]
       refine oY rfl (eH rfl rfl) (oN ?_)
       exact ap (fun _ => (none,0,0,[],noR)) rfl (List.append_nil _)
      dsimp only [bx,lsz,lss,lna,lca,List.append_nil]
      refine bN rfl (fun L2 => ?_) ?_
      ·dsimp only [aF,lca,lna]
       refine oY rfl (yI bZ (by decide) hg15.1 hg15.2 (RdL.row 1 rfl) (eL aA hn1_s8) rfl rfl) ?_
       refine oN ?_
       exact ap (fun _ => (none,0,0,[],noR)) rfl (List.append_nil _)
      dsimp only [bx,lsz,lss,lna,lca,List.append_nil]
      refine bN rfl (fun L2 => ?_) ?_
      ·dsimp only [aF,lca,lna]
       refine oY rfl (yR (A:=Aa) (j:=(Int.toNat (w64 (s8.1 - 1)) * 1)) (v:=vI (rdL s8.2 (w64 (s8.1 - 1)))) aV (RdL.row 1 rfl) rfl (aC aA hg15.1 (ah hg15.2 hn1_s8) rfl)) (oN ?_)
       exact ap (fun _ => (none,0,0,[],noR)) rfl (List.append_nil _)
      dsimp only [bx,lsz,lss,lna,lca,List.append_nil]
      refine bN rfl (fun L2 => ?_) ?_
      ·dsimp only [aF,lca,lna]
       refine oY rfl (yMS rfl) (oN ?_)
       exact ap (fun _ => (none,0,0,[],noR)) rfl (List.append_nil _)
      dsimp only [bx,lsz,lss,lna,lca,List.append_nil]
      refine bN rfl (fun L2 => ?_) ?_
      ·dsimp only [aF,lca,lna]
       refine oY rfl (yMI rfl) (oN ?_)
       exact ap (fun _ => (none,0,0,[],noR)) rfl (List.append_nil _)
      dsimp only [bx,lsz,lss,lna,lca,List.append_nil]
      refine bN rfl (fun L2 => ?_) ?_
      ·dsimp only [aF,lca,lna]
       refine oY rfl (yI bZ (by decide) hg16.1 hg16.2 (RdL.row 1 rfl) (eL aA hn1_s8) rfl rfl) ?_
       refine oN ?_
       exact ap (fun _ => (none,0,0,[],noR)) rfl (List.append_nil _)
      dsimp only [bx,lsz,lss,lna,lca,List.append_nil]
      refine bN rfl (fun L2 => ?_) ?_
      ·dsimp only [aF,lca,lna]
       refine oY rfl (yR (A:=Aa) (j:=(Int.toNat s8.1 * 1)) (v:=vI (rdL s8.2 s8.1)) aV (RdL.row 1 rfl) rfl (aC aA hg16.1 (ah hg16.2 hn1_s8) rfl)) (oN ?_)
       exact ap (fun _ => (none,0,0,[],noR)) rfl (List.append_nil _)
      dsimp only [bx,lsz,lss,lna,lca,List.append_nil]
      refine bN rfl (fun L2 => ?_) ?_
      ·dsimp only [aF,lca,lna]
       refine oY rfl (yI bZ (by decide) hg17.1 hg17.2 (RdL.row 1 rfl) (eL aA hn1_s8) rfl rfl) ?_
       refine oN ?_
       exact ap (fun _ => (none,0,0,[],noR)) rfl (List.append_nil _)
      dsimp only [bx,lsz,lss,lna,lca,List.append_nil]
      refine tr rfl (fun L2 => ?_) ?_
      ·dsimp only [aF,lca,lna]
       refine cr rfl (gO 1 (xs:=s8.2) aA (rdL s8.2 (w64 (s8.1 - 1))) qk rfl hg17.1 (ah hg17.2 hn1_s8) rfl rfl rfl rfl) (oN ?_)
       first | exact bP (fun _ => (none,0,0,[],noR)) rfl | exact bP (fun _ => (none,0,0,[],noR)) (List.append_nil _)
      dsimp only [bx,lsz,lss,lna,lca,List.append_nil]
      refine bN rfl (fun L2 => ?_) ?_
      ·dsimp only [aF,lca,lna]
       refine oY rfl (yI bZ (by decide) hg18.1 hg18.2 (RdL.row 1 rfl) (eL aA (cP hn1_s8)) rfl rfl) ?_
       refine oN ?_
       exact ap (fun _ => (none,0,0,[],noR)) rfl (List.append_nil _)
      dsimp only [bx,lsz,lss,lna,lca,List.append_nil]
      refine tr rfl (fun L2 => ?_) ?_
      ·dsimp only [aF,lca,lna]
       refine cr rfl (gO 1 (xs:=(s8.2.set (Int.toNat s8.1) (rdL s8.2 (w64 (s8.1 - 1))))) aA (rdL s8.2 s8.1) qk rfl hg18.1 (ah hg18.2 (cP hn1_s8)) rfl rfl rfl rfl) (oN ?_)
       first | exact bP (fun _ => (none,0,0,[],noR)) rfl | exact bP (fun _ => (none,0,0,[],noR)) (List.append_nil _)
      dsimp only [bx,lsz,lss,lna,lca,List.append_nil]
      refine kx (aw (eT (cR (oY rfl (yMI rfl) (oY rfl (eH rfl rfl) (oY rfl (yAI rfl) (oN ?_)))))))
      obtain rfl:=sI h
      exact eN ⟨_,(cP (cP hn1_s8)),rfl,(kp4 (kp (kp (kp rfl))))⟩
     ·refine cF (vB hp13) (aH (ag ?_))
      obtain rfl:=sI h
      exact ax ⟨rfl,_,hn1_s8,rfl,(kp4 (kp (kp (kp rfl))))⟩
    ·clear h; rcases iOs hb12 with ⟨hp10,h⟩ | ⟨hp10,h⟩
     ·refine qY (sT rfl rfl rfl rfl hp10) (bR (v:=.func (.func fid3) fst3.toArray caps3.toArray) rfl) (qY (sT rfl rfl rfl rfl hp10) (yMS rfl) (qY (sT rfl rfl rfl rfl hp10) (yMI rfl) ?_))
      obtain ⟨hg19,h⟩:=gOs h
      refine qY (sT rfl rfl rfl rfl hp10) (yI bZ (by decide) hg19.1 hg19.2 (RdL.row 1 rfl) (eL aA hn1_s8) rfl rfl) ?_
      refine qY (sT rfl rfl rfl rfl hp10) (yR (A:=Aa) (j:=(Int.toNat s8.1 * 1)) (v:=vI (rdL s8.2 s8.1)) aV (RdL.row 1 rfl) rfl (aC aA hg19.1 (ah hg19.2 hn1_s8) rfl)) (qY (sT rfl rfl rfl rfl hp10) (yMS rfl) (qY (sT rfl rfl rfl rfl hp10) (yMI rfl) (qY (sT rfl rfl rfl rfl hp10) (eH rfl rfl) ?_)))
      obtain ⟨hg20,h⟩:=gOs h
      refine qY (sT rfl rfl rfl rfl hp10) (yI bZ (by decide) hg20.1 hg20.2 (RdL.row 1 rfl) (eL aA hn1_s8) rfl rfl) ?_
      refine qY (sT rfl rfl rfl rfl hp10) (yR (A:=Aa) (j:=(Int.toNat (w64 (s8.1 - 1)) * 1)) (v:=vI (rdL s8.2 (w64 (s8.1 - 1)))) aV (RdL.row 1 rfl) rfl (aC aA hg20.1 (ah hg20.2 hn1_s8) rfl)) ?_
      obtain ⟨y21,hy22,h⟩:=bOs h
      refine qY (sT rfl rfl rfl rfl hp10) (ie [vI (rdL s8.2 s8.1),vI (rdL s8.2 (w64 (s8.1 - 1)))] hgo3 rfl rfl (fun W2 hW2 => hof3 W2 hW2.below (hW2.mem (i:=0) rfl) (rdL s8.2 s8.1) (rdL s8.2 (w64 (s8.1 - 1))) y21 hy22)) (qY (sT rfl rfl rfl rfl hp10) (bj rfl rfl) (qY rfl (ab (vB hp10) rfl) ?_))
      obtain rfl:=sI h
      exact key _ _ (kp4 (kp4 rfl))
     ·refine av (sF rfl rfl rfl rfl hp10) (av (sF rfl rfl rfl rfl hp10) (av (sF rfl rfl rfl rfl hp10) (av (sF rfl rfl rfl rfl hp10) (av (sF rfl rfl rfl rfl hp10) (av (sF rfl rfl rfl rfl hp10) (av (sF rfl rfl rfl rfl hp10) (av (sF rfl rfl rfl rfl hp10) (av (sF rfl rfl rfl rfl hp10) (av (sF rfl rfl rfl rfl hp10) (av (sF rfl rfl rfl rfl hp10) (av (sF rfl rfl rfl rfl hp10) (qY rfl (ad (vB hp10) rfl) ?_))))))))))))
      obtain rfl:=sI h
      exact key _ _ (kp4 (kp4 rfl))
   ·intro e L tm hJ
    obtain ⟨rfl,tm0_u9,hn1_u9,rfl,rfl⟩:=hJ
    refine ⟨(by intro hc; cases hc),?_⟩
    refine ac (aw (eT (cR (oY rfl (yMI rfl) (oY rfl (aT rfl rfl) (oY rfl (yAI rfl) (oN ?_)))))))
    obtain rfl:=sI h
    exact eN ⟨_,hn1_u9,rfl,(kp4 (kp rfl))⟩
  ·refine cF (vB hp5) (aH (ag ?_))
   obtain rfl:=sI h
   exact ax ⟨rfl,_,hn1_s3,rfl,(kp4 (kp rfl))⟩
 ·intro e L tm hJ
  obtain ⟨rfl,tm0_u4,hn1_u4,rfl,rfl⟩:=hJ
  refine ⟨(by intro hc; cases hc),?_⟩
  refine ac ?_
  obtain rfl:=sI h
  exact cH (.inr rfl) rfl  (fun W2 hW2 => ⟨rfl,hn1_u4,hW2.take 2⟩)
theorem iL (p0:(List Int)) (p1:Int) (p2:Int → Int → Option Int) (res:(List Int)) (h:dG p0 p1 p2 = some res) (W:World) (w0:World) (R:Res) (Aa:Option Addr) (n0_0 ca : Nat) (hn0_0:n0_0 = p0.length) (fid2:Nat) (fst2 caps2 : List Value) (hgo2:bC Tryz.prog fid2 = true) (hof2:∀ W2,Below w0.heap.size w0 W2 → R.holds W2 → ∀ x0 x1,∀ y,p2 x0 x1 = some y → Calls Tryz.prog fid2 (fst2 ++ (([vI x0,vI x1] : List Value) ++ caps2)).toArray W2 fun e W3 => e = .returned (vI y) ∧ Ext W2 W3 []) (hW:Ext w0 W [R,aL Aa ca 3 1 n0_0 (encL cI p0)]) :
  Calls Tryz.prog 175 [.slice Aa n0_0 ca,vI p1,.func (.func fid2) fst2.toArray caps2.toArray].toArray W fun e W2 => e = .returned (.tuple #[]) ∧ n0_0 = res.length ∧ Ext w0 W2 [R,aL Aa ca 3 1 n0_0 (encL cI res)]:=by
 subst hn0_0
 unfold dG at h
 refine a8 (m:=63) Tryz.func175 rfl rfl (nB rfl) hW (cS (cR (oY rfl (yAI rfl) (oN (eT (cS (cR (oY rfl (yMI rfl) (oY rfl (yAI rfl) (oY rfl (yAI rfl) (oN (eT (cS (cB ?_))))))))))))))
 obtain ⟨u3,hl5,h⟩:=bOs h
 refine ba (fun (s:(Int × Int)) L tm => ∃ (tm0:Nat → Value),L = [R,aL Aa ca 3 1 p0.length (encL cI p0)] ∧ tm = (upd (upd (upd (upd (upd (upd tm0 0 (.slice Aa p0.length ca)) 1 (vI p1)) 2 (.func (.func fid2) fst2.toArray caps2.toArray)) 6 (vI 20)) 7 (vI s.1)) 8 (vI s.2))) 0 hl5 ⟨_,rfl,(kp4 (kp (kp rfl)))⟩ ?_ ?_
 ·rintro s2 L tm st ⟨tm0_s2,rfl,rfl⟩ h
  unfold er at h
  refine cS (cS (cR (oY rfl (yMI rfl) (oY rfl (yMI rfl) (oY rfl (jw rfl rfl) (oN (eT ?_)))))))
  obtain ⟨hp4,h⟩:=gOs h
  refine cF (vB hp4) (aH (ag ?_))
  obtain rfl:=sI h
  exact ax ⟨rfl,_,rfl,(kp4 (kp (kp rfl)))⟩
 ·intro e L tm hJ
  obtain ⟨rfl,tm0_u3,rfl,rfl⟩:=hJ
  refine ⟨(by intro hc; cases hc),?_⟩
  refine ac (eT (cS (cR (oY rfl (yMS rfl) (oY rfl (yMI rfl) (oY rfl (yMI rfl) (oY rfl (bR (v:=.func (.func fid2) fst2.toArray caps2.toArray) rfl) ?_)))))))
  obtain ⟨y6,hy7,h⟩:=bOs h
  refine fu 1 [.slice Aa p0.length ca,vI u3.1,vI p1,.func (.func fid2) fst2.toArray caps2.toArray] (fun (_:Unit) => p0.length = y6.length) (fun _ => .tuple #[]) (fun _ => aL Aa ca 3 1 p0.length (encL cI y6)) (fun _ => []) rfl rfl go_190 rfl (fun W2 hW2 => (fZ p0 u3.1 p1 p2 y6 hy7 W2 _ (bB [R,aL Aa ca 3 1 p0.length (encL cI p0)] [1]) Aa p0.length ca rfl fid2 fst2 caps2 hgo2 (fun W3 hb hR => hof2 W3 hb (hR.1 0 _ (by decide) rfl)) hW2).mono (fun e W3 h3 => ⟨(),h3.2.1,h3.1,h3.2.2⟩)) ?_
  rintro - hn8
  try dsimp only [lsz,lss,List.append_nil]
  refine oN (eT (cB ?_))
  obtain ⟨u11,hl13,h⟩:=bOs h
  refine ba (fun (s:(Int × Int × Int)) L tm => ∃ (tm0:Nat → Value),L = [R,aL Aa ca 3 1 p0.length (encL cI y6)] ∧ tm = (upd (upd (upd (upd (upd (upd tm0 0 (.slice Aa p0.length ca)) 1 (vI p1)) 2 (.func (.func fid2) fst2.toArray caps2.toArray)) 6 (vI s.1)) 7 (vI s.2.1)) 8 (vI s.2.2))) 2 hl13 ⟨_,rfl,(kp4 (kp (kp rfl)))⟩ ?_ ?_
  ·rintro s10 L tm st ⟨tm0_s10,rfl,rfl⟩ h
   unfold eB at h
   refine cS (cS (cR (oY rfl (yMI rfl) (oY rfl (yMI rfl) (oY rfl (bj rfl rfl) (oN (eT ?_)))))))
   obtain ⟨hp12,h⟩:=gOs h
   refine cF (vB hp12) (aH (ag ?_))
   obtain rfl:=sI h
   exact ax ⟨rfl,_,rfl,(kp4 (kp (kp rfl)))⟩
  ·intro e L tm hJ
   obtain ⟨rfl,tm0_u11,rfl,rfl⟩:=hJ
   refine ⟨(by intro hc; cases hc),?_⟩
   refine ac ?_
   obtain rfl:=sI h
   exact cH (.inr rfl) rfl  (fun W2 hW2 => ⟨rfl,hn8,hW2.take 2⟩)
theorem gm (p0:(List Int)) (p1:Int → Int → Option Int) (res:(List Int)) (h:cy p0 p1 = some res) (W:World) (w0:World) (R:Res) (Aa:Option Addr) (n0_0 ca : Nat) (hn0_0:n0_0 = p0.length) (fid1:Nat) (fst1 caps1 : List Value) (hgo1:bC Tryz.prog fid1 = true) (hof1:∀ W2,Below w0.heap.size w0 W2 → R.holds W2 → ∀ x0 x1,∀ y,p1 x0 x1 = some y → Calls Tryz.prog fid1 (fst1 ++ (([vI x0,vI x1] : List Value) ++ caps1)).toArray W2 fun e W3 => e = .returned (vI y) ∧ Ext W2 W3 []) (hW:Ext w0 W [R,aL Aa ca 3 1 n0_0 (encL cI p0)]) :
  Calls Tryz.prog 143 [.slice Aa n0_0 ca,.func (.func fid1) fst1.toArray caps1.toArray].toArray W fun e W2 => e = .returned (.tuple #[]) ∧ n0_0 = res.length ∧ Ext w0 W2 [R,aL Aa ca 3 1 n0_0 (encL cI res)]:=by
 subst hn0_0
 unfold cy at h
 refine a8 (m:=9) Tryz.func143 rfl rfl (nB rfl) hW (cR (oY rfl (yMS rfl) (oY rfl (yMS rfl) (oY rfl (bp (us:=[]) cV rfl) (oY rfl (bR (v:=.func (.func fid1) fst1.toArray caps1.toArray) rfl) ?_)))))
 obtain ⟨y1,hy2,h⟩:=bOs h
 refine fu 1 [.slice Aa p0.length ca,vI (p0.length:Int),.func (.func fid1) fst1.toArray caps1.toArray] (fun (_:Unit) => p0.length = y1.length) (fun _ => .tuple #[]) (fun _ => aL Aa ca 3 1 p0.length (encL cI y1)) (fun _ => []) rfl rfl go_175 rfl (fun W2 hW2 => (iL p0 (p0.length:Int) p1 y1 hy2 W2 _ (bB [R,aL Aa ca 3 1 p0.length (encL cI p0)] [1]) Aa p0.length ca rfl fid1 fst1 caps1 hgo1 (fun W3 hb hR => hof1 W3 hb (hR.1 0 _ (by decide) rfl)) hW2).mono (fun e W3 h3 => ⟨(),h3.2.1,h3.1,h3.2.2⟩)) ?_
 rintro - hn3
 try dsimp only [lsz,lss,List.append_nil]
 refine oN ?_
 obtain rfl:=sI h
 exact cH (.inr rfl) rfl  (fun W2 hW2 => ⟨rfl,hn3,hW2.take 2⟩)
theorem l7 (p0:Int) (p1:Int) (res:Int) (h:iH p0 p1 = some res) (W:World)  :
  Calls Tryz.prog 145 [vI p0,vI p1].toArray W fun e W2 => e = .returned (vI res) ∧ Ext W W2 []:=by
 unfold iH at h
 refine ae (m:=20) Tryz.func145 rfl rfl (nB rfl) (cS (cR (oY rfl (yAI rfl) (oN (eT (cS (cR (oY rfl (yMI rfl) ?_))))))))
 obtain ⟨y1,hy2,h⟩:=bOs h
 refine oY rfl (yC [vI p0] sh rfl (fun W2 hW2 => fm p0 y1 hy2 W2 ) rfl) (oY rfl (yAB rfl) (oN (eT (cS (cR (oY rfl (yMI rfl) ?_))))))
 obtain ⟨y3,hy4,h⟩:=bOs h
 refine oY rfl (yC [vI p1] sh rfl (fun W2 hW2 => fm p1 y3 hy4 W2 ) rfl) (oY rfl (yAB rfl) (oN (eT (cS (cS (cR (oY rfl (yMB rfl) (oN (eT ?_)))))))))
 rcases iOs h with ⟨hp5,h⟩ | ⟨hp5,h⟩
 ·refine cT (vB hp5) (cS (cS (cR (oY rfl (yMB rfl) (oN (eT ?_))))))
  rcases iOs h with ⟨hp6,h⟩ | ⟨hp6,h⟩
  ·refine cT (vB hp6) (cS (cR (oY rfl (yAI rfl) (oN (eT (am (aa (aa ?_))))))))
   obtain rfl:=sI h
   exact al (.inl rfl) rfl (rVt (v:=vI 0) rfl) (fun W2 hW2 => ⟨rfl,hW2.none⟩)
  ·refine cF (vB hp6) (cK (eT (cS (cR (oY rfl (yAI rfl) (oN (eT (am (aa ?_)))))))))
   obtain rfl:=sI h
   exact al (.inl rfl) rfl (rVt (v:=vI (-1)) rfl) (fun W2 hW2 => ⟨rfl,hW2.none⟩)
 ·refine cF (vB hp5) (cK (eT (cS (cS (cR (oY rfl (yMB rfl) (oN (eT ?_))))))))
  rcases iOs h with ⟨hp7,h⟩ | ⟨hp7,h⟩
  ·refine cT (vB hp7) (cS (cR (oY rfl (yAI rfl) (oN (eT (am (aa ?_)))))))
   obtain rfl:=sI h
   exact al (.inl rfl) rfl (rVt (v:=vI 1) rfl) (fun W2 hW2 => ⟨rfl,hW2.none⟩)
  ·refine cF (vB hp7) (cK (eT (cS (cS (cR (oY rfl (yMI rfl) (oY rfl (yMI rfl) (oY rfl (bj rfl rfl) (oN (eT ?_))))))))))
   rcases iOs h with ⟨hp8,h⟩ | ⟨hp8,h⟩
   ·refine cT (vB hp8) (cS (cR (oY rfl (yAI rfl) (oN (eT (am (aa ?_)))))))
    obtain rfl:=sI h
    exact al (.inl rfl) rfl (rVt (v:=vI (-1)) rfl) (fun W2 hW2 => ⟨rfl,hW2.none⟩)
   ·refine cF (vB hp8) (cK (eT (cS (cS (cR (oY rfl (yMI rfl) (oY rfl (yMI rfl) (oY rfl (gK rfl rfl) (oN (eT ?_))))))))))
    rcases iOs h with ⟨hp9,h⟩ | ⟨hp9,h⟩
    ·refine cT (vB hp9) (cS (cR (oY rfl (yAI rfl) (oN (eT (am (aa ?_)))))))
     obtain rfl:=sI h
     exact al (.inl rfl) rfl (rVt (v:=vI 1) rfl) (fun W2 hW2 => ⟨rfl,hW2.none⟩)
    ·refine cF (vB hp9) (cK (eT (cS (cR (oY rfl (yAI rfl) (oN (eT (am ?_))))))))
     obtain rfl:=sI h
     exact al (.inl rfl) rfl (rVt (v:=vI 0) rfl) (fun W2 hW2 => ⟨rfl,hW2.none⟩)
theorem nL (p0:Int) (p1:Int) (cap0:TY) (res:Int) (h:iY p0 p1 cap0 = some res) (W:World) (bc0:Nat) (A100_0:Option Addr) (n100_0 c100_0 : Nat) (hn100_0:n100_0 = cap0.fB.length) (hr100_0:Rd W A100_0 n100_0 c100_0 (encL aG cap0.fB)) (A100_1:Option Addr) (n100_1 c100_1 : Nat) (hn100_1:n100_1 = cap0.fR.length) (hr100_1:Rd W A100_1 n100_1 c100_1 (encL aB cap0.fR)) (hcap0:Rd W (some ⟨bc0,0,none⟩) 1 1 [.slice A100_0 n100_0 c100_0,.slice A100_1 n100_1 c100_1]) :
  Calls Tryz.prog 144 [vI p0,vI p1,.pointer (some ⟨bc0,0,none⟩)].toArray W fun e W2 => e = .returned (vI res) ∧ Ext W W2 []:=by
 subst hn100_0
 subst hn100_1
 unfold iY at h
 refine ae (m:=19) Tryz.func144 rfl rfl (nB rfl) (cS (cR (oY rfl (yAI rfl) (oN (eT (cS ?_))))))
 refine bh 14 cD (by kernel_rfl) (by kernel_rfl) ?_
 refine qY rfl (yFR (A:=(some ⟨bc0,0,none⟩)) (j:=0) cn rfl) (qY rfl (yR (A:=(some ⟨bc0,0,none⟩)) (j:=(0 + 1)) (v:=.slice A100_1 cap0.fR.length c100_1) gP (RdL.arg hcap0) rfl rfl) (qY rfl (yMI rfl) ?_))
 obtain ⟨hg1,h⟩:=gOs h
 refine qY rfl (yI kC (by decide) hg1.1 hg1.2 (RdL.arg hr100_1) (eL ar rfl) rfl rfl) ?_
 refine qY rfl (yFR (A:=A100_1) (j:=(Int.toNat p1 * 5)) jc rfl) (qY rfl (yR (A:=A100_1) (j:=((Int.toNat p1 * 5) + 4)) (v:=vI ((rdL cap0.fR p1).fW)) aV (RdL.arg hr100_1) rfl (eG ar hg1.1 (ah hg1.2 rfl) rfl)) (qY rfl (yFR (A:=(some ⟨bc0,0,none⟩)) (j:=0) cn rfl) (qY rfl (yR (A:=(some ⟨bc0,0,none⟩)) (j:=(0 + 1)) (v:=.slice A100_1 cap0.fR.length c100_1) gP (RdL.arg hcap0) rfl rfl) (qY rfl (yMI rfl) ?_))))
 obtain ⟨hg2,h⟩:=gOs h
 refine qY rfl (yI kC (by decide) hg2.1 hg2.2 (RdL.arg hr100_1) (eL ar rfl) rfl rfl) ?_
 refine qY rfl (yFR (A:=A100_1) (j:=(Int.toNat p0 * 5)) jc rfl) (qY rfl (yR (A:=A100_1) (j:=((Int.toNat p0 * 5) + 4)) (v:=vI ((rdL cap0.fR p0).fW)) aV (RdL.arg hr100_1) rfl (eG ar hg2.1 (ah hg2.2 rfl) rfl)) ?_)
 obtain ⟨y3,hy4,h⟩:=bOs h
 refine qY rfl (yC [vI ((rdL cap0.fR p1).fW),vI ((rdL cap0.fR p0).fW)] go_145 rfl (fun W2 hW2 => l7 ((rdL cap0.fR p1).fW) ((rdL cap0.fR p0).fW) y3 hy4 W2 ) rfl) (qY rfl (yAI rfl) (cd (oN (eT (am ?_)))))
 obtain rfl:=sI h
 exact al (.inl rfl) rfl (rVt (v:=vI y3) rfl) (fun W2 hW2 => ⟨rfl,hW2.none⟩)
theorem lN (p0:TY) (res:(List (Int × Int))) (h:kY p0 = some res) (W:World) (Aa:Option Addr) (n0_0 ca : Nat) (hn0_0:n0_0 = p0.fB.length) (hr0_0:Rd W Aa n0_0 ca (encL aG p0.fB)) (Ab:Option Addr) (n0_1 cb : Nat) (hn0_1:n0_1 = p0.fR.length) (hr0_1:Rd W Ab n0_1 cb (encL aB p0.fR)) :
  Calls Tryz.prog 100 [.agg #[.slice Aa n0_0 ca,.slice Ab n0_1 cb]].toArray W fun e W2 => ∃ x : Nat,e = .returned (.map (some x)) ∧ Ext W W2 [mapV Tryz.prog 3 kI dW kI 0 x res]:=by
 subst hn0_0
 subst hn0_1
 unfold kY at h
 refine ae (m:=35) Tryz.func100 rfl rfl (nB rfl) (cS (cR ?_))
 refine aW [.slice Aa p0.fB.length ca,.slice Ab p0.fR.length cb] rfl rfl rfl (fun b1 => ?_)
 refine oY rfl (eo rfl) (oN (eT (cS (cR (oY rfl (yAS rfl) (oN (eT (cS (cS (cR (oY rfl (yFA cn rfl) (oY rfl (yL 0 gP rfl rfl rfl) (oY rfl (bp (us:=[]) lC rfl) (oY rfl (yMI rfl) (oN (eT (cB ?_)))))))))))))))))
 obtain ⟨u5,hl11,h⟩:=bOs h
 refine cQ 3 1 ?_
 refine ba (fun (s:(Int × (List Int))) L tm => ∃ (tm0:Nat → Value) (A1_s:Option Addr) (c1_s:Nat) (n1_s:Nat),n1_s = s.2.length ∧ L = [ai b1 53 [.slice Aa p0.fB.length ca,.slice Ab p0.fR.length cb],aL A1_s c1_s 3 1 n1_s (encL cI s.2)] ∧ tm = (upd (upd (upd (upd (upd tm0 1 (.pointer (some ⟨b1,0,none⟩))) 2 (.map none)) 3 (.slice A1_s n1_s c1_s)) 10 (vI (p0.fR.length:Int))) 11 (vI s.1))) 0 hl11 ⟨_,none,0,0,rfl,rfl,(kp4 (kp rfl))⟩ ?_ ?_
 ·rintro s4 L tm st ⟨tm0_s4,A1_s4,c1_s4,n1_s4,rfl,rfl,rfl⟩ h
  unfold mg at h
  refine cS (cR (oY rfl (bj rfl rfl) (oN (eT (cS ?_)))))
  rcases iOs h with ⟨hp6,h⟩ | ⟨hp6,h⟩
  ·refine cT (vB hp6) (cK (eT (cS (cB (cS (cR (oY rfl (yMI rfl) (oY rfl (yAI rfl) (oN (eT (cR (oY rfl (yMS rfl) (oY rfl (yMI rfl) ?_)))))))))))))
   refine aJ 1 (encL cI [s4.1]) _ mM cV lj m4 (by decide) (by decide) (by kernel_rfl) (eL aA rfl) rfl (fun b7 => ?_)
   obtain ⟨hg10,h⟩:=gOs h
   refine bE 1 cV lj m4 rfl rfl rfl (RdL.row 2 rfl) (eL aA rfl) (cv lG _) (cA hg10 (by decide)) rfl (fun A8 c9 => ?_)
   refine oY rfl (yAS rfl) (oN (aw (eT (cR (oY rfl (aT rfl rfl) (oY rfl (yMI rfl) (oN (aU 2 ?_))))))))
   obtain rfl:=sI h
   exact eN ⟨_,A8,c9,(s4.2.length + 1),(gb rfl rfl),rfl,(kp4 (kp rfl))⟩
  ·refine cF (vB hp6) (aH (ag ?_))
   obtain rfl:=sI h
   exact ax ⟨rfl,_,A1_s4,c1_s4,s4.2.length,rfl,rfl,(kp4 (kp rfl))⟩
 ·intro e L tm hJ
  obtain ⟨rfl,tm0_u5,A1_u5,c1_u5,n1_u5,rfl,rfl,rfl⟩:=hJ
  refine ⟨(by intro hc; cases hc),?_⟩
  refine ac (eT (cS (cR (oY rfl (yMS rfl) (oY rfl (ct [.pointer (some ⟨b1,0,none⟩)] rfl rfl) ?_)))))
  obtain ⟨y14,hy15,h⟩:=bOs h
  refine fu 1 [.slice A1_u5 u5.2.length c1_u5,.func (.func 144) #[] #[.pointer (some ⟨b1,0,none⟩)]] (fun (_:Unit) => u5.2.length = y14.length) (fun _ => .tuple #[]) (fun _ => aL A1_u5 c1_u5 3 1 u5.2.length (encL cI y14)) (fun _ => []) rfl rfl go_143 rfl (fun W2 hW2 => (gm u5.2 (fun x12 x13 => iY x12 x13 p0) y14 hy15 W2 _ (bB [ai b1 53 [.slice Aa p0.fB.length ca,.slice Ab p0.fR.length cb],aL A1_u5 c1_u5 3 1 u5.2.length (encL cI u5.2)] [1]) A1_u5 u5.2.length c1_u5 rfl 144 [] [.pointer (some ⟨b1,0,none⟩)] go_144 (fun W3 hb hR x0 x1 y hxy => nL  x0 x1 p0 y hxy W3 b1 Aa p0.fB.length ca rfl ((RdL.arg hr0_0) W3 (hW2.rest hb hR)) Ab p0.fR.length cb rfl ((RdL.arg hr0_1) W3 (hW2.rest hb hR)) ((RdL.cells 0 rfl) W3 (hW2.rest hb hR))) hW2).mono (fun e W3 h3 => ⟨(),h3.2.1,h3.1,h3.2.2⟩)) ?_
  rintro - hn16
  try dsimp only [lsz,lss,List.append_nil]
  refine oN (eT (cS (cR ?_)))
  refine jR 3 kI dW kI 0 rfl (fun b17 => ?_)
  refine oY rfl (eo rfl) (oN (eT (cS (cS (cR (oY rfl (yMS rfl) (oY rfl (bp (us:=[]) cV rfl) (oY rfl (yMI rfl) (oN (eT (cB ?_)))))))))))
  obtain ⟨u21,hl26,h⟩:=bOs h
  refine ba (fun (s:(Int × (List (Int × Int)))) L tm => ∃ (tm0:Nat → Value),L = [ai b1 53 [.slice Aa p0.fB.length ca,.slice Ab p0.fR.length cb],aL A1_u5 c1_u5 3 1 u5.2.length (encL cI y14),mapV Tryz.prog 3 kI dW kI 0 b17 s.2] ∧ tm = (upd (upd (upd (upd (upd (upd tm0 1 (.pointer (some ⟨b1,0,none⟩))) 2 (.map none)) 5 (.map (some b17))) 23 (.slice A1_u5 u5.2.length c1_u5)) 24 (vI (u5.2.length:Int))) 25 (vI s.1))) 2 hl26 ⟨_,rfl,(kp4 (kp (kp rfl)))⟩ ?_ ?_
  ·rintro s20 L tm st ⟨tm0_s20,rfl,rfl⟩ h
   unfold lL at h
   refine cS (cR (oY rfl (bj rfl rfl) (oN (eT (cS ?_)))))
   rcases iOs h with ⟨hp22,h⟩ | ⟨hp22,h⟩
   ·refine cT (vB hp22) (cK (eT (cS (cB (cS (cR ?_))))))
    obtain ⟨hg23,h⟩:=gOs h
    refine oY rfl (yI bZ (by decide) hg23.1 hg23.2 (RdL.row 1 rfl) (eL aA hn16) rfl rfl) ?_
    refine oY rfl (yR (A:=A1_u5) (j:=(Int.toNat s20.1 * 1)) (v:=vI (rdL y14 s20.1)) aV (RdL.row 1 rfl) rfl (aC aA hg23.1 (ah hg23.2 hn16) rfl)) (oY rfl (yAI rfl) (oN (eT (cR (oY rfl (cN rfl) (oY rfl (yN 0 [.slice Aa p0.fB.length ca,.slice Ab p0.fR.length cb] dp rfl rfl rfl) (oY rfl (yMI rfl) ?_)))))))
    obtain ⟨y24,hy25,h⟩:=bOs h
    refine gg [2] [] [.map (some b17),.agg #[.slice Aa p0.fB.length ca,.slice Ab p0.fR.length cb],vI (rdL y14 s20.1)] [] (fun (_:Unit) => True) (fun _ => .bool y24.1) (fun _ => [mapV Tryz.prog 3 kI dW kI 0 b17 y24.2]) (fun _ => []) (Foc.c1 rfl) (by decide) rfl go_117 rfl rfl (fun _ => rfl) (fun W2 hW2 => iT s20.2 p0 (rdL y14 s20.1) y24 hy25 W2 _ (bB [ai b1 53 [.slice Aa p0.fB.length ca,.slice Ab p0.fR.length cb],aL A1_u5 c1_u5 3 1 u5.2.length (encL cI y14),mapV Tryz.prog 3 kI dW kI 0 b17 s20.2] [2]) b17 Aa p0.fB.length ca rfl (fun W3 hb hR => (RdL.arg hr0_0) W3 (hW2.restL hb hR)) Ab p0.fR.length cb rfl (fun W3 hb hR => (RdL.arg hr0_1) W3 (hW2.restL hb hR)) hW2) ?_
    rintro - -
    try dsimp only [ll,lsz,lss,List.append_nil]
    refine oN (aw (eT (cR (oY rfl (aT rfl rfl) (oY rfl (yMI rfl) (oN ?_))))))
    obtain rfl:=sI h
    exact eN ⟨_,rfl,(kp4 (kp (kp rfl)))⟩
   ·refine cF (vB hp22) (aH (ag ?_))
    obtain rfl:=sI h
    exact ax ⟨rfl,_,rfl,(kp4 (kp (kp rfl)))⟩
  ·intro e L tm hJ
   obtain ⟨rfl,tm0_u21,rfl,rfl⟩:=hJ
   refine ⟨(by intro hc; cases hc),?_⟩
   refine ac (eT (cS (cR (oY rfl (cN rfl) (oY rfl (eo rfl) (oN (eT (am ?_))))))))
   obtain rfl:=sI h
   exact al (.inl rfl) rfl (rVt (v:=.map (some b17)) rfl) (fun W2 hW2 => ⟨b17,rfl,(hW2.pick 2 rfl)⟩)
theorem iy (p0:(List (Int × Int))) (p1:TY) (res:Int) (h:fv p0 p1 = some res) (W:World) (bm0_0:Nat) (hm0_0:(mapV Tryz.prog 3 kI dW kI 0 bm0_0 p0).holds W) (Ac:Option Addr) (n1_0 cc : Nat) (hn1_0:n1_0 = p1.fB.length) (hr1_0:Rd W Ac n1_0 cc (encL aG p1.fB)) (A1_1:Option Addr) (n1_1 c1_1 : Nat) (hn1_1:n1_1 = p1.fR.length) (hr1_1:Rd W A1_1 n1_1 c1_1 (encL aB p1.fR)) :
  Calls Tryz.prog 130 [.map (some bm0_0),.agg #[.slice Ac n1_0 cc,.slice A1_1 n1_1 c1_1]].toArray W fun e W2 => e = .returned (vI res) ∧ Ext W W2 []:=by
 subst hn1_0
 subst hn1_1
 unfold fv at h
 refine ae (m:=23) Tryz.func130 rfl rfl (nB rfl) (cS (cR ?_))
 refine aW [.slice Ac p1.fB.length cc,.slice A1_1 p1.fR.length c1_1] rfl rfl rfl (fun b1 => ?_)
 refine oY rfl (yAI rfl) (oN (eT (cS (cR (oY rfl (yAI rfl) (oN (eT (cS (cS (cR (oY rfl (cN rfl) (qx hm0_0 ke_3 qK rfl rfl (fun b2 k3 hk4 => (oN (eT ?_)))))))))))))))
 obtain ⟨hg14,h⟩:=gOs h
 refine cB (sv (fun (s12:Nat × (Int → Bool) × Int) L tm => FoldI dW p0 (fun a y5 => w64 (a + ((rdL p1.fR (az 0 p0 y5)).fW))) 0 s12 ∧ ∃ (tm0:Nat → Value),L = [ai b1 53 [.slice Ac p1.fB.length cc,.slice A1_1 p1.fR.length c1_1],rngA W Tryz.prog 3 kI dW kI 0 bm0_0 b2 p0 s12.2.1 s12.1 none] ∧ tm = (upd (upd (upd (upd (upd (upd tm0 0 (.map (some bm0_0))) 1 (.agg #[.slice Ac p1.fB.length cc,.slice A1_1 p1.fR.length c1_1])) 3 (.pointer (some ⟨b1,0,none⟩))) 4 (vI 0)) 5 (vI s12.2.2)) 9 (.pointer (some ⟨b2,0,none⟩)))) (fun s => s.1) (k3,(fun y => bi p0 y),0) ⟨FoldI.start,_,rfl,(kp4 (kp (kp rfl)))⟩ ?_)
 rintro s12 L tm ⟨hI13,tm0,rfl,rfl⟩
 refine cS (cR ?_)
 refine rY 1 ((mapV Tryz.prog 3 kI dW kI 0 bm0_0 p0).inb _ hm0_0 _ rfl) rfl ke_3 rfl rfl (fun hno11 => ?_) (fun y5 k6 hy7 hly8 hM9 hk10 => ?_)
 ·refine oY rfl (yE rfl rfl) (oN (eT (cS (cF rfl (aH (ag ?_))))))
  refine ex_outM (by intro h; cases h) ?_
  have hS16:=hI13.done (C:=(fun y5 => ((0:Int) ≤ az 0 p0 y5 ∧ az 0 p0 y5 < (p1.fR.length:Int)))) hg14 hno11 (fun x _ y _ z => w64_comm (fun y5 => ((rdL p1.fR (az 0 p0 y5)).fW)) x y z)
  rw [hS16]
  refine ac (eT (cS (cR (oY rfl (yMI rfl) (oY rfl (yAI rfl) (oN (eT (am ?_))))))))
  obtain rfl:=sI h
  exact al (.inl rfl) rfl (rVt (v:=vI ((gW p0).foldl (fun a y5 => w64 (a + ((rdL p1.fR (az 0 p0 y5)).fW))) 0)) rfl) (fun W2 hW2 => ⟨rfl,hW2.none⟩)
 ·refine oY rfl (yE rfl rfl) (oN (eT (cS (cT rfl (cK (eT (cB (cS (cR (oY rfl (rH 1 ((mapV Tryz.prog 3 kI dW kI 0 bm0_0 p0).inb _ hm0_0 _ rfl) rfl rfl) (oY rfl (yE rfl rfl) (oY rfl (yAI rfl) (oN (eT (cR (oY rfl (yMI rfl) (oY rfl (yFA cn rfl) (oY rfl (yL 0 gP rfl rfl rfl) (oY rfl (yMI rfl) ?_)))))))))))))))))))
  refine oY rfl (yI kC (by decide) (j6 (C:=(fun y5 => ((0:Int) ≤ az 0 p0 y5 ∧ az 0 p0 y5 < (p1.fR.length:Int)))) hg14 hM9).1 (j6 (C:=(fun y5 => ((0:Int) ≤ az 0 p0 y5 ∧ az 0 p0 y5 < (p1.fR.length:Int)))) hg14 hM9).2 (RdL.arg hr1_1) (eL ar rfl) rfl rfl) ?_
  refine oY rfl (yFR (A:=A1_1) (j:=(Int.toNat (az 0 p0 y5) * 5)) jc rfl) (oY rfl (yR (A:=A1_1) (j:=((Int.toNat (az 0 p0 y5) * 5) + 4)) (v:=vI ((rdL p1.fR (az 0 p0 y5)).fW)) aV (RdL.arg hr1_1) rfl (eG ar (j6 (C:=(fun y5 => ((0:Int) ≤ az 0 p0 y5 ∧ az 0 p0 y5 < (p1.fR.length:Int)))) hg14 hM9).1 (ah (j6 (C:=(fun y5 => ((0:Int) ≤ az 0 p0 y5 ∧ az 0 p0 y5 < (p1.fR.length:Int)))) hg14 hM9).2 rfl) rfl)) (oY rfl (aT rfl rfl) (oY rfl (yAI rfl) (oN (aw (nW 1 rfl ?_))))))
  exact rZ (k6,(fun q => s12.2.1 q && !decide (q = y5)),w64 (s12.2.2 + ((rdL p1.fR (az 0 p0 y5)).fW))) ⟨hI13.step hy7 hly8 hM9,_,rfl,(kp4 (kp (kp rfl)))⟩ hk10
theorem eQ (p0:TY) (res:Int) (h:fS p0 = some res) (W:World) (Aa:Option Addr) (n0_0 ca : Nat) (hn0_0:n0_0 = p0.fB.length) (hr0_0:Rd W Aa n0_0 ca (encL aG p0.fB)) (Ab:Option Addr) (n0_1 cb : Nat) (hn0_1:n0_1 = p0.fR.length) (hr0_1:Rd W Ab n0_1 cb (encL aB p0.fR)) :
  Calls Tryz.prog 83 [.agg #[.slice Aa n0_0 ca,.slice Ab n0_1 cb]].toArray W fun e W2 => e = .returned (vI res) ∧ Ext W W2 []:=by
 subst hn0_0
 subst hn0_1
 unfold fS at h
 refine ae (m:=10) Tryz.func83 rfl rfl (nB rfl) (cS (cR ?_))
 refine aW [.slice Aa p0.fB.length ca,.slice Ab p0.fR.length cb] rfl rfl rfl (fun b1 => ?_)
 refine oY rfl (yAI rfl) (oN (eT (cS (cR (oY rfl (yN 0 [.slice Aa p0.fB.length ca,.slice Ab p0.fR.length cb] dp rfl rfl rfl) ?_)))))
 obtain ⟨y2,hy3,h⟩:=bOs h
 refine l6 [.agg #[.slice Aa p0.fB.length ca,.slice Ab p0.fR.length cb]] _ _ rfl go_100 rfl (fun W2 hW2 => lN p0 y2 hy3 W2 Aa p0.fB.length ca rfl ((RdL.arg hr0_0) W2 hW2) Ab p0.fR.length cb rfl ((RdL.arg hr0_1) W2 hW2)) ?_
 rintro b4
 refine oY rfl (rf [.map (some b4)] [] rfl rfl) (oY rfl (eV rfl) (oN (eT (cS (cR (oY rfl (di rfl) (oY rfl (yN 0 [.slice Aa p0.fB.length ca,.slice Ab p0.fR.length cb] dp rfl rfl rfl) ?_)))))))
 obtain ⟨y5,hy6,h⟩:=bOs h
 refine oY rfl (ie (fst:=[.map (some b4)]) (caps:=[]) [.agg #[.slice Aa p0.fB.length ca,.slice Ab p0.fR.length cb]] go_130 rfl rfl (fun W2 hW2 => iy y2 p0 y5 hy6 W2 b4 ((MpL.own 1 rfl) W2 hW2) Aa p0.fB.length ca rfl ((RdL.arg hr0_0) W2 hW2) Ab p0.fR.length cb rfl ((RdL.arg hr0_1) W2 hW2))) (oY rfl (yAI rfl) (oN (eT (am ?_))))
 obtain rfl:=sI h
 exact al (.inl rfl) rfl (rVt (v:=vI y5) rfl) (fun W2 hW2 => ⟨rfl,hW2.none⟩)
theorem m8 (p0__:TO) (p1:Int → Option Int) (cap0:Int) (res:Bool) (h:jI p0__ p1 cap0 = some res) (W:World) (fid1:Nat) (fst1 caps1 : List Value) (hgo1:bC Tryz.prog fid1 = true) (hof1:∀ W2,Below W.heap.size W W2 → ∀ x,∀ y,p1 x = some y → Calls Tryz.prog fid1 (fst1 ++ (([vI x] : List Value) ++ caps1)).toArray W2 fun e W3 => e = .returned (vI y) ∧ Ext W2 W3 []) (bc0:Nat) (hcap0:Rd W (some ⟨bc0,0,none⟩) 1 1 (cI cap0)) :
  Calls Tryz.prog 85 [.agg #[vI p0__.fID,vI p0__.fH.fLo,vI p0__.fH.fHi,vI p0__.fD,vI p0__.fW],.func (.func fid1) fst1.toArray caps1.toArray,.pointer (some ⟨bc0,0,none⟩)].toArray W fun e W2 => e = .returned (.bool res) ∧ Ext W W2 []:=by
 unfold jI at h
 refine ae (m:=10) Tryz.func85 rfl rfl (nB rfl) (cS (cR ?_))
 refine aW [vI p0__.fID,vI p0__.fH.fLo,vI p0__.fH.fHi,vI p0__.fD,vI p0__.fW] rfl rfl rfl (fun b1 => ?_)
 refine oY rfl (yAB rfl) (oN (eT (cS ?_)))
 refine bh 5 cD (by kernel_rfl) (by kernel_rfl) ?_
 refine qY rfl (bR (v:=.func (.func fid1) fst1.toArray caps1.toArray) rfl) ?_
 obtain ⟨y2,hy3,h⟩:=bOs h
 refine qY rfl (ie [vI 0] hgo1 rfl rfl (fun W2 hW2 => hof1 W2 hW2.below 0 y2 hy3)) (qY rfl (yR (A:=(some ⟨bc0,0,none⟩)) (j:=0) (v:=vI cap0) aV (RdL.arg hcap0) rfl rfl) (qY rfl (bj rfl rfl) (qY rfl (yAB rfl) (cd (oN (eT (am ?_)))))))
 obtain rfl:=sI h
 exact al (.inl rfl) rfl (rVt (v:=.bool (decide (y2 < cap0))) rfl) (fun W2 hW2 => ⟨rfl,hW2.none⟩)
theorem ol (p0:TO) (p1:Int → Option Int) (cap0:Int) (res:Bool) (h:kA p0 p1 cap0 = some res) (W:World) (fid1:Nat) (fst1 caps1 : List Value) (hgo1:bC Tryz.prog fid1 = true) (hof1:∀ W2,Below W.heap.size W W2 → ∀ x,∀ y,p1 x = some y → Calls Tryz.prog fid1 (fst1 ++ (([vI x] : List Value) ++ caps1)).toArray W2 fun e W3 => e = .returned (vI y) ∧ Ext W2 W3 []) (bc0:Nat) (hcap0:Rd W (some ⟨bc0,0,none⟩) 1 1 (cI cap0)) :
  Calls Tryz.prog 88 [.agg #[vI p0.fID,vI p0.fH.fLo,vI p0.fH.fHi,vI p0.fD,vI p0.fW],.func (.func fid1) fst1.toArray caps1.toArray,.pointer (some ⟨bc0,0,none⟩)].toArray W fun e W2 => e = .returned (.bool res) ∧ Ext W W2 []:=by
 unfold kA at h
 refine ae (m:=13) Tryz.func88 rfl rfl (nB rfl) (cS (cR ?_))
 refine aW [vI p0.fID,vI p0.fH.fLo,vI p0.fH.fHi,vI p0.fD,vI p0.fW] rfl rfl rfl (fun b1 => ?_)
 refine oY rfl (yAB rfl) (oN (eT (cS ?_)))
 refine bh 8 cD (by kernel_rfl) (by kernel_rfl) ?_
 refine qY rfl (bR (v:=.func (.func fid1) fst1.toArray caps1.toArray) rfl) (qY rfl (yFA jc rfl) (qY rfl (yL 0 aV rfl rfl rfl) (qY rfl (aT rfl rfl) ?_)))
 obtain ⟨y2,hy3,h⟩:=bOs h
 refine qY rfl (ie [vI (w64 (p0.fW + 1))] hgo1 rfl rfl (fun W2 hW2 => hof1 W2 hW2.below (w64 (p0.fW + 1)) y2 hy3)) (qY rfl (yR (A:=(some ⟨bc0,0,none⟩)) (j:=0) (v:=vI cap0) aV (RdL.arg hcap0) rfl rfl) (qY rfl (da rfl rfl) (qY rfl (yAB rfl) (cd (oN (eT (am ?_)))))))
 obtain rfl:=sI h
 exact al (.inl rfl) rfl (rVt (v:=.bool (y2 == cap0)) rfl) (fun W2 hW2 => ⟨rfl,hW2.none⟩)
theorem iI (p0:(List TO)) (res:(List TO)) (h:du p0 = some res) (W:World) (Aa:Option Addr) (n0_0 ca : Nat) (hn0_0:n0_0 = p0.length) (hr0_0:Rd W Aa n0_0 ca (encL aB p0)) :
  Calls Tryz.prog 115 [.slice Aa n0_0 ca].toArray W fun e W2 => ∃ x : Option Addr × Nat × Nat,x.2.1 = res.length ∧ e = .returned (.slice x.1 x.2.1 x.2.2) ∧ Ext W W2 [aL x.1 x.2.2 65 5 x.2.1 (encL aB res)]:=by
 subst hn0_0
 unfold du at h
 refine ae (m:=8) Tryz.func115 rfl rfl (nB rfl) (cS (cR (oY rfl (yAS rfl) (oN (eT (cS (cS (cR (oY rfl (yMS rfl) (oY rfl (qe lC rfl rfl) (oN (eT ?_))))))))))))
 rcases ao (Option.isNone Aa) with hp1 | hp1
 ·refine cT (vB hp1) ?_
  have z6:=pO (Option.isNone_iff_eq_none.1 hp1 ▸ hr0_0) ar (by decide)
  replace h:=(gOs h).2
  rw [z6] at h
  refine cS (cR (oY rfl (yAS rfl) (oN (eT (am (aa ?_))))))
  obtain rfl:=sI h
  exact al (.inl rfl) rfl (rVt (v:=.slice none 0 0) rfl) (fun W2 hW2 => ⟨(none,0,0),rfl,rfl,((hW2.nilrow 65 5).pick 0 rfl)⟩)
 ·refine cF (vB hp1) (cK (eT (cS (cR ?_))))
  refine dZ aB lC oQ by_65 rfl (fun b2 => ?_)
  refine oY rfl (yMS rfl) ?_
  obtain ⟨hg5,h⟩:=gOs h
  refine bE 0 lC oQ by_65 rfl rfl rfl (RdL.arg hr0_0) (eL ar rfl) (cv mY _) (cA hg5 (by decide)) rfl (fun A3 c4 => ?_)
  refine oY rfl (yAS rfl) (oN (eT (am ?_)))
  obtain rfl:=sI h
  exact al (.inl rfl) rfl (rVt (v:=.slice A3 (0 + p0.length) c4) rfl) (fun W2 hW2 => ⟨(A3,(0 + p0.length),c4),(gb rfl rfl),rfl,(hW2.pick 0 rfl)⟩)
end Go.Proofs.YthndghnkebboaaaGreat
set_option maxHeartbeats 4000000
set_option maxRecDepth 100000
namespace Go.Proofs.YthndghnkebboaaaGreat
open Go.RowKit (Below)
attribute [local irreducible] OX QX CX EX OpY Calls CallsIn
theorem kR (p0:Int) (cap0:TY) (cap1:Int) (res:Int) (h:fM p0 cap0 cap1 = some res) (W:World) (bc0:Nat) (A100_0:Option Addr) (n100_0 c100_0 : Nat) (hn100_0:n100_0 = cap0.fB.length) (hr100_0:Rd W A100_0 n100_0 c100_0 (encL aG cap0.fB)) (A100_1:Option Addr) (n100_1 c100_1 : Nat) (hn100_1:n100_1 = cap0.fR.length) (hr100_1:Rd W A100_1 n100_1 c100_1 (encL aB cap0.fR)) (hcap0:Rd W (some ⟨bc0,0,none⟩) 1 1 [.slice A100_0 n100_0 c100_0,.slice A100_1 n100_1 c100_1]) (bc1:Nat) (hcap1:Rd W (some ⟨bc1,0,none⟩) 1 1 (cI cap1)) :
  Calls Tryz.prog 131 [vI p0,.pointer (some ⟨bc0,0,none⟩),.pointer (some ⟨bc1,0,none⟩)].toArray W fun e W2 => e = .returned (vI res) ∧ Ext W W2 []:=by
 subst hn100_0
 subst hn100_1
 unfold fM at h
 refine ae (m:=20) Tryz.func131 rfl rfl (nB rfl) (cS (cR (oY rfl (yAI rfl) (oN (eT (cS ?_))))))
 obtain ⟨y2,hy3,h⟩:=bOs h
 refine eF [[],[0],[],[2],[2,3],[0,1,2,3,4],[],[0,1,2,3,4,5,6]] [(none,0,[]),(none,0,[]),(none,0,[]),(none,0,[]),(none,1,[]),(none,0,[true]),(none,1,[false]),(some 1,0,[true,true])] [⟨fun _ => slA (some ⟨bc0,0,none⟩) (0 + 0),fun _ => noR,fun _ => []⟩,⟨fun _ => .slice A100_0 cap0.fB.length c100_0,fun _ => noR,fun _ => []⟩,⟨fun _ => slA (some ⟨bc0,0,none⟩) (0 + 1),fun _ => noR,fun _ => []⟩,⟨fun _ => .slice A100_1 cap0.fR.length c100_1,fun _ => noR,fun _ => []⟩,⟨fun ξ1 => .slice (ξ1 4 0).1 y2.length (ξ1 4 0).2.2.1,fun _ => noR,fun ξ1 => [aL (ξ1 4 0).1 (ξ1 4 0).2.2.1 65 5 y2.length (encL aB y2)]⟩,⟨fun ξ1 => .agg #[.slice A100_0 cap0.fB.length c100_0,.slice (ξ1 4 0).1 y2.length (ξ1 4 0).2.2.1],fun _ => noR,fun _ => []⟩,⟨fun ξ1 => .pointer (some ⟨(ξ1 6 0).2.1,0,none⟩),fun _ => noR,fun ξ1 => [ai (ξ1 6 0).2.1 53 [.slice none 0 0,.slice none 0 0]]⟩,⟨fun _ => undef,fun ξ1 => ai (ξ1 6 0).2.1 53 [.slice A100_0 cap0.fB.length c100_0,.slice (ξ1 4 0).1 y2.length (ξ1 4 0).2.2.1],fun _ => []⟩] 0 cD (by kernel_rfl) (by kernel_rfl) ⟨⟨fun ξ1 ξ1' h => ⟨rfl,rfl,rfl⟩,fun _ => rfl⟩,⟨fun ξ1 ξ1' h => ⟨rfl,rfl,rfl⟩,fun _ => rfl⟩,⟨fun ξ1 ξ1' h => ⟨rfl,rfl,rfl⟩,fun _ => rfl⟩,⟨fun ξ1 ξ1' h => ⟨rfl,rfl,rfl⟩,fun _ => rfl⟩,⟨fun ξ1 ξ1' h => ⟨by simp only [h 4 (.inl rfl)],rfl,by simp only [h 4 (.inl rfl)]⟩,fun _ => rfl⟩,⟨fun ξ1 ξ1' h => ⟨by simp only [h 4 (.inr rfl)],rfl,rfl⟩,fun _ => rfl⟩,⟨fun ξ1 ξ1' h => ⟨by simp only [h 6 (.inl rfl)],rfl,by simp only [h 6 (.inl rfl)]⟩,fun _ => rfl⟩,⟨fun ξ1 ξ1' h => ⟨rfl,by simp only [h 4 (.inr rfl),h 6 (.inr rfl)],rfl⟩,fun _ => rfl⟩,trivial⟩ rfl (fun ξ1 => ?_)
 refine bN rfl (fun L2 => ?_) ?_
 ·dsimp only [aF,lca,lna]
  refine oY rfl (yFR (A:=(some ⟨bc0,0,none⟩)) (j:=0) eM rfl) (oN ?_)
  exact ap (fun _ => (none,0,0,[],noR)) rfl (List.append_nil _)
 dsimp only [bx,lsz,lss,lna,lca,List.append_nil]
 refine bN rfl (fun L2 => ?_) ?_
 ·dsimp only [aF,lca,lna]
  refine oY rfl (yR (A:=(some ⟨bc0,0,none⟩)) (j:=(0 + 0)) (v:=.slice A100_0 cap0.fB.length c100_0) ky (RdL.arg hcap0) rfl rfl) (oN ?_)
  exact ap (fun _ => (none,0,0,[],noR)) rfl (List.append_nil _)
 dsimp only [bx,lsz,lss,lna,lca,List.append_nil]
 refine bN rfl (fun L2 => ?_) ?_
 ·dsimp only [aF,lca,lna]
  refine oY rfl (yFR (A:=(some ⟨bc0,0,none⟩)) (j:=0) cn rfl) (oN ?_)
  exact ap (fun _ => (none,0,0,[],noR)) rfl (List.append_nil _)
 dsimp only [bx,lsz,lss,lna,lca,List.append_nil]
 refine bN rfl (fun L2 => ?_) ?_
 ·dsimp only [aF,lca,lna]
  refine oY rfl (yR (A:=(some ⟨bc0,0,none⟩)) (j:=(0 + 1)) (v:=.slice A100_1 cap0.fR.length c100_1) gP (RdL.arg hcap0) rfl rfl) (oN ?_)
  exact ap (fun _ => (none,0,0,[],noR)) rfl (List.append_nil _)
 dsimp only [bx,lsz,lss,lna,lca,List.append_nil]
 refine bN rfl (fun L2 => ?_) ?_
 ·dsimp only [aF,lca,lna]
  refine oC [.slice A100_1 cap0.fR.length c100_1] _ _ _ rfl go_115 rfl (fun W2 hW2 => iI cap0.fR y2 hy3 W2 A100_1 cap0.fR.length c100_1 rfl ((RdL.arg hr100_1) W2 hW2)) ?_
  rintro ⟨A4,n6,c5⟩ hn7
  replace hn7 : n6 = y2.length:=hn7; subst hn7
  refine oN ?_
  exact ap (fun _ => (A4,0,c5,[],noR)) rfl rfl
 dsimp only [bx,lsz,lss,lna,lca,List.append_nil]
 refine bN rfl (fun L2 => ?_) ?_
 ·dsimp only [aF,lca,lna]
  refine oY rfl (aY [.slice A100_0 cap0.fB.length c100_0,.slice (ξ1 4 0).1 y2.length (ξ1 4 0).2.2.1] [(0,1),(1,1)] ust_53 q9 (by kernel_rfl)) ?_
  refine oN ?_
  exact ap (fun _ => (none,0,0,[],noR)) rfl (List.append_nil _)
 dsimp only [bx,lsz,lss,lna,lca,List.append_nil]
 refine bN rfl (fun L2 => ?_) ?_
 ·dsimp only [aF,lca,lna]
  refine aE q9 rfl (fun b8 => ?_)
  refine oN ?_
  exact ap (fun _ => (none,b8,0,[],noR)) rfl rfl
 dsimp only [bx,lsz,lss,lna,lca,List.append_nil]
 refine tr rfl (fun L2 => ?_) ?_
 ·dsimp only [aF,lca,lna]
  refine cr rfl (yS 1 [.slice A100_0 cap0.fB.length c100_0,.slice (ξ1 4 0).1 y2.length (ξ1 4 0).2.2.1] sz_53 rfl (nB rfl) rfl rfl rfl) (oN ?_)
  first | exact bP (fun _ => (none,0,0,[],noR)) rfl | exact bP (fun _ => (none,0,0,[],noR)) (List.append_nil _)
 dsimp only [bx,lsz,lss,lna,lca,List.append_nil]
 refine kx (eT (cS (cR (oY rfl (yFA cn rfl) (oY rfl (yL 1 gP rfl rfl rfl) (oY rfl (yR (A:=(some ⟨bc1,0,none⟩)) (j:=0) (v:=vI cap1) aV (RdL.arg hcap1) rfl rfl) (oY rfl (yMI rfl) ?_)))))))
 obtain ⟨hg9,h⟩:=gOs h
 refine oY rfl (yI kC (by decide) hg9.1 hg9.2 (RdL.row 0 rfl) (eL ar rfl) rfl rfl) ?_
 refine oY rfl (yFR (A:=(ξ1 4 0).1) (j:=(Int.toNat cap1 * 5)) jc rfl) ?_
 refine cr rfl (tB 0 (xs:=y2) ar (TO.mk ((rdL y2 cap1).fID) (TSpan.mk ((rdL y2 cap1).fH.fLo) ((rdL y2 cap1).fH.fHi)) ((rdL y2 cap1).fD) p0) 4 (by decide) qk rfl hg9.1 (ah hg9.2 rfl) rfl rfl rfl rfl) ?_
 refine oN (eT (cS (cR (oY rfl (yN 1 [.slice A100_0 cap0.fB.length c100_0,.slice (ξ1 4 0).1 y2.length (ξ1 4 0).2.2.1] dp rfl rfl rfl) ?_))))
 obtain ⟨y10,hy11,h⟩:=bOs h
 refine oY rfl (yC [.agg #[.slice A100_0 cap0.fB.length c100_0,.slice (ξ1 4 0).1 y2.length (ξ1 4 0).2.2.1]] sP rfl (fun W2 hW2 => eQ (TY.mk cap0.fB (y2.set (Int.toNat cap1) (TO.mk ((rdL y2 cap1).fID) (TSpan.mk ((rdL y2 cap1).fH.fLo) ((rdL y2 cap1).fH.fHi)) ((rdL y2 cap1).fD) p0))) y10 hy11 W2 A100_0 cap0.fB.length c100_0 rfl ((RdL.arg hr100_0) W2 hW2) (ξ1 4 0).1 y2.length (ξ1 4 0).2.2.1 (cP rfl) ((RdL.row 0 rfl) W2 hW2)) rfl) (oY rfl (yAI rfl) (oN (eT (am ?_))))
 obtain rfl:=sI h
 exact al (.inl rfl) rfl (rVt (v:=vI y10) rfl) (fun W2 hW2 => ⟨rfl,hW2.none⟩)
theorem kq (p0:TY) (cap0:Int) (res:(List Int)) (h:gi p0 cap0 = some res) (W:World) (Aa:Option Addr) (n0_0 ca : Nat) (hn0_0:n0_0 = p0.fB.length) (hr0_0:Rd W Aa n0_0 ca (encL aG p0.fB)) (Ab:Option Addr) (n0_1 cb : Nat) (hn0_1:n0_1 = p0.fR.length) (hr0_1:Rd W Ab n0_1 cb (encL aB p0.fR)) (bc0:Nat) (hcap0:Rd W (some ⟨bc0,0,none⟩) 1 1 (cI cap0)) :
  Calls Tryz.prog 84 [.agg #[.slice Aa n0_0 ca,.slice Ab n0_1 cb],.func (.func 85) #[] #[.pointer (some ⟨bc0,0,none⟩)]].toArray W fun e W2 => ∃ x : Option Addr × Nat × Nat,x.2.1 = res.length ∧ e = .returned (.slice x.1 x.2.1 x.2.2) ∧ Ext W W2 [aL x.1 x.2.2 3 1 x.2.1 (encL cI res)]:=by
 subst hn0_0
 subst hn0_1
 unfold gi at h
 refine ae (m:=31) Tryz.func84 rfl rfl (nB rfl) (cS (cR ?_))
 refine aW [.slice Aa p0.fB.length ca,.slice Ab p0.fR.length cb] rfl rfl rfl (fun b1 => ?_)
 refine oY rfl (yAS rfl) (oN (eT (cS (cR (oY rfl (yAS rfl) (oN (eT (cS (cS (cR (oY rfl (yFA cn rfl) (oY rfl (yL 0 gP rfl rfl rfl) (oY rfl (bp (us:=[]) lC rfl) (oY rfl (yMI rfl) (oN (eT (cB ?_)))))))))))))))))
 obtain ⟨u5,hl18,h⟩:=bOs h
 refine cQ 3 1 ?_
 refine ba (fun (s:(Int × (List Int))) L tm => ∃ (tm0:Nat → Value) (A1_s:Option Addr) (c1_s:Nat) (n1_s:Nat),n1_s = s.2.length ∧ L = [ai b1 53 [.slice Aa p0.fB.length ca,.slice Ab p0.fR.length cb],aL A1_s c1_s 3 1 n1_s (encL cI s.2)] ∧ tm = (upd (upd (upd (upd (upd (upd (upd tm0 1 (.func (.func 85) #[] #[slA (some ⟨bc0,0,none⟩) 0])) 2 (.pointer (some ⟨b1,0,none⟩))) 4 (.slice none 0 0)) 5 (.slice A1_s n1_s c1_s)) 10 (.slice Ab p0.fR.length cb)) 11 (vI (p0.fR.length:Int))) 12 (vI s.1))) 0 hl18 ⟨_,none,0,0,rfl,rfl,(kp4 (kp (kp (kp rfl))))⟩ ?_ ?_
 ·rintro s4 L tm st ⟨tm0_s4,A1_s4,c1_s4,n1_s4,rfl,rfl,rfl⟩ h
  unfold gE at h
  refine cS (cR (oY rfl (bj rfl rfl) (oN (eT (cS ?_)))))
  rcases iOs h with ⟨hp6,h⟩ | ⟨hp6,h⟩
  ·refine cT (vB hp6) (cK (eT (cS (cB (cS (cR (oY rfl (yMI rfl) ?_)))))))
   obtain ⟨hg7,h⟩:=gOs h
   refine oY rfl (yI kC (by decide) hg7.1 hg7.2 (RdL.arg hr0_1) (eL ar rfl) rfl rfl) ?_
   refine oY rfl (yM (A:=Ab) (j:=(Int.toNat s4.1 * 5)) [vI ((rdL p0.fR s4.1).fID),vI ((rdL p0.fR s4.1).fH.fLo),vI ((rdL p0.fR s4.1).fH.fHi),vI ((rdL p0.fR s4.1).fD),vI ((rdL p0.fR s4.1).fW)] qV (Nat.succ_pos _) (RdL.arg hr0_1) rfl (bl ar hg7.1 (ah hg7.2 rfl))) ?_
   refine aE lj rfl (fun b8 => ?_)
   refine aE oQ rfl (fun b9 => ?_)
   refine cr rfl (dt 2 (v:=vI s4.1) qk rfl (Nat.lt_of_lt_of_le (Nat.lt_succ_self _) (nB rfl)) rfl rfl rfl) (cr rfl (yS 3 [vI ((rdL p0.fR s4.1).fID),vI ((rdL p0.fR s4.1).fH.fLo),vI ((rdL p0.fR s4.1).fH.fHi),vI ((rdL p0.fR s4.1).fD),vI ((rdL p0.fR s4.1).fW)] sz_65 rfl (nB rfl) rfl rfl rfl) (oN (eT (cS (cR (oY rfl (ct [.pointer (some ⟨b1,0,none⟩),.pointer (some ⟨b8,0,none⟩)] rfl rfl) (oY rfl (eV rfl) (oN (eT (cS (cR (oY rfl (di rfl) (oY rfl (yN 3 [vI ((rdL p0.fR s4.1).fID),vI ((rdL p0.fR s4.1).fH.fLo),vI ((rdL p0.fR s4.1).fH.fHi),vI ((rdL p0.fR s4.1).fD),vI ((rdL p0.fR s4.1).fW)] qV rfl rfl rfl) (oY rfl (di rfl) ?_))))))))))))))
   obtain ⟨y11,hy12,h⟩:=bOs h
   refine oY rfl (nR (caps:=[slA (some ⟨bc0,0,none⟩) 0]) [.agg #[vI ((rdL p0.fR s4.1).fID),vI ((rdL p0.fR s4.1).fH.fLo),vI ((rdL p0.fR s4.1).fH.fHi),vI ((rdL p0.fR s4.1).fD),vI ((rdL p0.fR s4.1).fW)],.func (.func 131) #[] #[.pointer (some ⟨b1,0,none⟩),.pointer (some ⟨b8,0,none⟩)]] go_85 rfl rfl (fun W2 hW2 => m8 (TO.mk ((rdL p0.fR s4.1).fID) (TSpan.mk ((rdL p0.fR s4.1).fH.fLo) ((rdL p0.fR s4.1).fH.fHi)) ((rdL p0.fR s4.1).fD) ((rdL p0.fR s4.1).fW)) (fun x10 => fM x10 p0 s4.1) cap0 y11 hy12 W2 131 [] [.pointer (some ⟨b1,0,none⟩),.pointer (some ⟨b8,0,none⟩)] go_131 (fun W3 hb x y hxy => kR  x p0 s4.1 y hxy W3 b1 Aa p0.fB.length ca rfl (((RdL.arg hr0_0) W2 hW2).later hb) Ab p0.fR.length cb rfl (((RdL.arg hr0_1) W2 hW2).later hb) (((RdL.cells 0 rfl) W2 hW2).later hb) b8 (((RdL.cells 2 rfl) W2 hW2).later hb)) bc0 ((RdL.arg hcap0) W2 hW2))) (oN (eT ?_))
   rcases iOs h with ⟨hp13,h⟩ | ⟨hp13,h⟩
   ·refine cT (vB hp13) (cR (oY rfl (yMS rfl) (oY rfl (yFA ku rfl) (oY rfl (yL 3 aV rfl rfl rfl) ?_))))
    refine aJ 1 (encL cI [(rdL p0.fR s4.1).fID]) _ mM cV lj m4 (by decide) (by decide) (by kernel_rfl) (eL aA rfl) rfl (fun b14 => ?_)
    obtain ⟨hg17,h⟩:=gOs h
    refine bE 1 cV lj m4 rfl rfl rfl (RdL.row 4 rfl) (eL aA rfl) (cv lG _) (cA hg17 (by decide)) rfl (fun A15 c16 => ?_)
    refine oY rfl (yAS rfl) (oN (aw (eT (cR (oY rfl (aT rfl rfl) (oY rfl (yMI rfl) (oN (aU 2 ?_))))))))
    obtain rfl:=sI h
    exact eN ⟨_,A15,c16,(s4.2.length + 1),(gb rfl rfl),rfl,(kp4 (kp (kp (kp rfl))))⟩
   ·refine cF (vB hp13) (cK (aw (eT (cR (oY rfl (aT rfl rfl) (oY rfl (yMI rfl) (oN (aU 2 ?_))))))))
    obtain rfl:=sI h
    exact eN ⟨_,A1_s4,c1_s4,s4.2.length,rfl,rfl,(kp4 (kp (kp (kp rfl))))⟩
  ·refine cF (vB hp6) (aH (ag ?_))
   obtain rfl:=sI h
   exact ax ⟨rfl,_,A1_s4,c1_s4,s4.2.length,rfl,rfl,(kp4 (kp (kp (kp rfl))))⟩
 ·intro e L tm hJ
  obtain ⟨rfl,tm0_u5,A1_u5,c1_u5,n1_u5,rfl,rfl,rfl⟩:=hJ
  refine ⟨(by intro hc; cases hc),?_⟩
  refine ac (eT (cS (cR (oY rfl (yMS rfl) ?_))))
  obtain ⟨y19,hy20,h⟩:=bOs h
  refine fu 1 [.slice A1_u5 u5.2.length c1_u5] (fun (_:Unit) => u5.2.length = y19.length) (fun _ => .tuple #[]) (fun _ => aL A1_u5 c1_u5 3 1 u5.2.length (encL cI y19)) (fun _ => []) rfl rfl go_81 rfl (fun W2 hW2 => (d6 u5.2 y19 hy20 W2 _ (bB [ai b1 53 [.slice Aa p0.fB.length ca,.slice Ab p0.fR.length cb],aL A1_u5 c1_u5 3 1 u5.2.length (encL cI u5.2)] [1]) A1_u5 u5.2.length c1_u5 rfl hW2).mono (fun e W3 h3 => ⟨(),h3.2.1,h3.1,h3.2.2⟩)) ?_
  rintro - hn21
  try dsimp only [lsz,lss,List.append_nil]
  refine oN (eT (cS (cR (oY rfl (yMS rfl) (oY rfl (yAS rfl) (oN (eT (am ?_))))))))
  obtain rfl:=sI h
  exact al (.inl rfl) rfl (rVt (v:=.slice A1_u5 u5.2.length c1_u5) rfl) (fun W2 hW2 => ⟨(A1_u5,u5.2.length,c1_u5),hn21,rfl,(hW2.pick 1 rfl)⟩)
theorem k9 (p0:TY) (cap0:Int) (res:(List Int)) (h:gu p0 cap0 = some res) (W:World) (Aa:Option Addr) (n0_0 ca : Nat) (hn0_0:n0_0 = p0.fB.length) (hr0_0:Rd W Aa n0_0 ca (encL aG p0.fB)) (Ab:Option Addr) (n0_1 cb : Nat) (hn0_1:n0_1 = p0.fR.length) (hr0_1:Rd W Ab n0_1 cb (encL aB p0.fR)) (bc0:Nat) (hcap0:Rd W (some ⟨bc0,0,none⟩) 1 1 (cI cap0)) :
  Calls Tryz.prog 84 [.agg #[.slice Aa n0_0 ca,.slice Ab n0_1 cb],.func (.func 88) #[] #[.pointer (some ⟨bc0,0,none⟩)]].toArray W fun e W2 => ∃ x : Option Addr × Nat × Nat,x.2.1 = res.length ∧ e = .returned (.slice x.1 x.2.1 x.2.2) ∧ Ext W W2 [aL x.1 x.2.2 3 1 x.2.1 (encL cI res)]:=by
 subst hn0_0
 subst hn0_1
 unfold gu at h
 refine ae (m:=31) Tryz.func84 rfl rfl (nB rfl) (cS (cR ?_))
 refine aW [.slice Aa p0.fB.length ca,.slice Ab p0.fR.length cb] rfl rfl rfl (fun b1 => ?_)
 refine oY rfl (yAS rfl) (oN (eT (cS (cR (oY rfl (yAS rfl) (oN (eT (cS (cS (cR (oY rfl (yFA cn rfl) (oY rfl (yL 0 gP rfl rfl rfl) (oY rfl (bp (us:=[]) lC rfl) (oY rfl (yMI rfl) (oN (eT (cB ?_)))))))))))))))))
 obtain ⟨u5,hl18,h⟩:=bOs h
 refine cQ 3 1 ?_
 refine ba (fun (s:(Int × (List Int))) L tm => ∃ (tm0:Nat → Value) (A1_s:Option Addr) (c1_s:Nat) (n1_s:Nat),n1_s = s.2.length ∧ L = [ai b1 53 [.slice Aa p0.fB.length ca,.slice Ab p0.fR.length cb],aL A1_s c1_s 3 1 n1_s (encL cI s.2)] ∧ tm = (upd (upd (upd (upd (upd (upd (upd tm0 1 (.func (.func 88) #[] #[slA (some ⟨bc0,0,none⟩) 0])) 2 (.pointer (some ⟨b1,0,none⟩))) 4 (.slice none 0 0)) 5 (.slice A1_s n1_s c1_s)) 10 (.slice Ab p0.fR.length cb)) 11 (vI (p0.fR.length:Int))) 12 (vI s.1))) 0 hl18 ⟨_,none,0,0,rfl,rfl,(kp4 (kp (kp (kp rfl))))⟩ ?_ ?_
 ·rintro s4 L tm st ⟨tm0_s4,A1_s4,c1_s4,n1_s4,rfl,rfl,rfl⟩ h
  unfold g7 at h
  refine cS (cR (oY rfl (bj rfl rfl) (oN (eT (cS ?_)))))
  rcases iOs h with ⟨hp6,h⟩ | ⟨hp6,h⟩
  ·refine cT (vB hp6) (cK (eT (cS (cB (cS (cR (oY rfl (yMI rfl) ?_)))))))
   obtain ⟨hg7,h⟩:=gOs h
   refine oY rfl (yI kC (by decide) hg7.1 hg7.2 (RdL.arg hr0_1) (eL ar rfl) rfl rfl) ?_
   refine oY rfl (yM (A:=Ab) (j:=(Int.toNat s4.1 * 5)) [vI ((rdL p0.fR s4.1).fID),vI ((rdL p0.fR s4.1).fH.fLo),vI ((rdL p0.fR s4.1).fH.fHi),vI ((rdL p0.fR s4.1).fD),vI ((rdL p0.fR s4.1).fW)] qV (Nat.succ_pos _) (RdL.arg hr0_1) rfl (bl ar hg7.1 (ah hg7.2 rfl))) ?_
   refine aE lj rfl (fun b8 => ?_)
   refine aE oQ rfl (fun b9 => ?_)
   refine cr rfl (dt 2 (v:=vI s4.1) qk rfl (Nat.lt_of_lt_of_le (Nat.lt_succ_self _) (nB rfl)) rfl rfl rfl) (cr rfl (yS 3 [vI ((rdL p0.fR s4.1).fID),vI ((rdL p0.fR s4.1).fH.fLo),vI ((rdL p0.fR s4.1).fH.fHi),vI ((rdL p0.fR s4.1).fD),vI ((rdL p0.fR s4.1).fW)] sz_65 rfl (nB rfl) rfl rfl rfl) (oN (eT (cS (cR (oY rfl (ct [.pointer (some ⟨b1,0,none⟩),.pointer (some ⟨b8,0,none⟩)] rfl rfl) (oY rfl (eV rfl) (oN (eT (cS (cR (oY rfl (di rfl) (oY rfl (yN 3 [vI ((rdL p0.fR s4.1).fID),vI ((rdL p0.fR s4.1).fH.fLo),vI ((rdL p0.fR s4.1).fH.fHi),vI ((rdL p0.fR s4.1).fD),vI ((rdL p0.fR s4.1).fW)] qV rfl rfl rfl) (oY rfl (di rfl) ?_))))))))))))))
   obtain ⟨y11,hy12,h⟩:=bOs h
   refine oY rfl (nR (caps:=[slA (some ⟨bc0,0,none⟩) 0]) [.agg #[vI ((rdL p0.fR s4.1).fID),vI ((rdL p0.fR s4.1).fH.fLo),vI ((rdL p0.fR s4.1).fH.fHi),vI ((rdL p0.fR s4.1).fD),vI ((rdL p0.fR s4.1).fW)],.func (.func 131) #[] #[.pointer (some ⟨b1,0,none⟩),.pointer (some ⟨b8,0,none⟩)]] go_88 rfl rfl (fun W2 hW2 => ol (TO.mk ((rdL p0.fR s4.1).fID) (TSpan.mk ((rdL p0.fR s4.1).fH.fLo) ((rdL p0.fR s4.1).fH.fHi)) ((rdL p0.fR s4.1).fD) ((rdL p0.fR s4.1).fW)) (fun x10 => fM x10 p0 s4.1) cap0 y11 hy12 W2 131 [] [.pointer (some ⟨b1,0,none⟩),.pointer (some ⟨b8,0,none⟩)] go_131 (fun W3 hb x y hxy => kR  x p0 s4.1 y hxy W3 b1 Aa p0.fB.length ca rfl (((RdL.arg hr0_0) W2 hW2).later hb) Ab p0.fR.length cb rfl (((RdL.arg hr0_1) W2 hW2).later hb) (((RdL.cells 0 rfl) W2 hW2).later hb) b8 (((RdL.cells 2 rfl) W2 hW2).later hb)) bc0 ((RdL.arg hcap0) W2 hW2))) (oN (eT ?_))
   rcases iOs h with ⟨hp13,h⟩ | ⟨hp13,h⟩
   ·refine cT (vB hp13) (cR (oY rfl (yMS rfl) (oY rfl (yFA ku rfl) (oY rfl (yL 3 aV rfl rfl rfl) ?_))))
    refine aJ 1 (encL cI [(rdL p0.fR s4.1).fID]) _ mM cV lj m4 (by decide) (by decide) (by kernel_rfl) (eL aA rfl) rfl (fun b14 => ?_)
    obtain ⟨hg17,h⟩:=gOs h
    refine bE 1 cV lj m4 rfl rfl rfl (RdL.row 4 rfl) (eL aA rfl) (cv lG _) (cA hg17 (by decide)) rfl (fun A15 c16 => ?_)
    refine oY rfl (yAS rfl) (oN (aw (eT (cR (oY rfl (aT rfl rfl) (oY rfl (yMI rfl) (oN (aU 2 ?_))))))))
    obtain rfl:=sI h
    exact eN ⟨_,A15,c16,(s4.2.length + 1),(gb rfl rfl),rfl,(kp4 (kp (kp (kp rfl))))⟩
   ·refine cF (vB hp13) (cK (aw (eT (cR (oY rfl (aT rfl rfl) (oY rfl (yMI rfl) (oN (aU 2 ?_))))))))
    obtain rfl:=sI h
    exact eN ⟨_,A1_s4,c1_s4,s4.2.length,rfl,rfl,(kp4 (kp (kp (kp rfl))))⟩
  ·refine cF (vB hp6) (aH (ag ?_))
   obtain rfl:=sI h
   exact ax ⟨rfl,_,A1_s4,c1_s4,s4.2.length,rfl,rfl,(kp4 (kp (kp (kp rfl))))⟩
 ·intro e L tm hJ
  obtain ⟨rfl,tm0_u5,A1_u5,c1_u5,n1_u5,rfl,rfl,rfl⟩:=hJ
  refine ⟨(by intro hc; cases hc),?_⟩
  refine ac (eT (cS (cR (oY rfl (yMS rfl) ?_))))
  obtain ⟨y19,hy20,h⟩:=bOs h
  refine fu 1 [.slice A1_u5 u5.2.length c1_u5] (fun (_:Unit) => u5.2.length = y19.length) (fun _ => .tuple #[]) (fun _ => aL A1_u5 c1_u5 3 1 u5.2.length (encL cI y19)) (fun _ => []) rfl rfl go_81 rfl (fun W2 hW2 => (d6 u5.2 y19 hy20 W2 _ (bB [ai b1 53 [.slice Aa p0.fB.length ca,.slice Ab p0.fR.length cb],aL A1_u5 c1_u5 3 1 u5.2.length (encL cI u5.2)] [1]) A1_u5 u5.2.length c1_u5 rfl hW2).mono (fun e W3 h3 => ⟨(),h3.2.1,h3.1,h3.2.2⟩)) ?_
  rintro - hn21
  try dsimp only [lsz,lss,List.append_nil]
  refine oN (eT (cS (cR (oY rfl (yMS rfl) (oY rfl (yAS rfl) (oN (eT (am ?_))))))))
  obtain rfl:=sI h
  exact al (.inl rfl) rfl (rVt (v:=.slice A1_u5 u5.2.length c1_u5) rfl) (fun W2 hW2 => ⟨(A1_u5,u5.2.length,c1_u5),hn21,rfl,(hW2.pick 1 rfl)⟩)
theorem oP (p0:TY) (res:((List Int) × Int)) (h:lw p0 = some res) (W:World) (Aa:Option Addr) (n0_0 ca : Nat) (hn0_0:n0_0 = p0.fB.length) (hr0_0:Rd W Aa n0_0 ca (encL aG p0.fB)) (Ab:Option Addr) (n0_1 cb : Nat) (hn0_1:n0_1 = p0.fR.length) (hr0_1:Rd W Ab n0_1 cb (encL aB p0.fR)) :
  Calls Tryz.prog 27 [.agg #[.slice Aa n0_0 ca,.slice Ab n0_1 cb]].toArray W fun e W2 => ∃ x : Option Addr × Nat × Nat,x.2.1 = res.1.length ∧ e = .returned (.tuple #[.slice x.1 x.2.1 x.2.2,vI res.2]) ∧ Ext W W2 [aL x.1 x.2.2 3 1 x.2.1 (encL cI res.1)]:=by
 subst hn0_0
 subst hn0_1
 unfold lw at h
 refine ae (m:=16) Tryz.func27 rfl rfl (nB rfl) (cS (cR ?_))
 refine aW [.slice Aa p0.fB.length ca,.slice Ab p0.fR.length cb] rfl rfl rfl (fun b1 => ?_)
 refine oY rfl (yAS rfl) (oY rfl (yAI rfl) (oN (eT (cS (cS (cR (oY rfl (yN 0 [.slice Aa p0.fB.length ca,.slice Ab p0.fR.length cb] dp rfl rfl rfl) ?_)))))))
 obtain ⟨y2,hy3,h⟩:=bOs h
 refine oY rfl (yC [.agg #[.slice Aa p0.fB.length ca,.slice Ab p0.fR.length cb]] go_45 rfl (fun W2 hW2 => dv p0 y2 hy3 W2 Aa p0.fB.length ca rfl ((RdL.arg hr0_0) W2 hW2) Ab p0.fR.length cb rfl ((RdL.arg hr0_1) W2 hW2)) rfl) (oY rfl (yAI rfl) (oN (eT (cS (cR (oY rfl (yMI rfl) (oY rfl (dl rfl rfl) (oN (eT ?_)))))))))
 rcases iOs h with ⟨hp4,h⟩ | ⟨hp4,h⟩
 ·refine cT (vB hp4) (cS (cR (oY rfl (yMI rfl) (oY rfl (yAS rfl) (oY rfl (yAI rfl) (oN (eT (am (aa ?_)))))))))
  obtain rfl:=sI h
  exact bI (.inl rfl) rfl (rVt (v:=.slice none 0 0) rfl) (rVt (v:=vI y2) rfl) (fun W2 hW2 => ⟨(none,0,0),rfl,rfl,((hW2.nilrow 3 1).pick 1 rfl)⟩)
 ·refine cF (vB hp4) (cK (eT (cS (cR (oY rfl (yN 0 [.slice Aa p0.fB.length ca,.slice Ab p0.fR.length cb] dp rfl rfl rfl) ?_)))))
  obtain ⟨y5,hy6,h⟩:=bOs h
  refine oY rfl (yC [.agg #[.slice Aa p0.fB.length ca,.slice Ab p0.fR.length cb]] sP rfl (fun W2 hW2 => eQ p0 y5 hy6 W2 Aa p0.fB.length ca rfl ((RdL.arg hr0_0) W2 hW2) Ab p0.fR.length cb rfl ((RdL.arg hr0_1) W2 hW2)) rfl) ?_
  refine aE lj rfl (fun b7 => ?_)
  refine cr rfl (dt 1 (v:=vI y5) qk rfl (Nat.lt_of_lt_of_le (Nat.lt_succ_self _) (nB rfl)) rfl rfl rfl) (oN (eT (cS (cR (oY rfl (yN 0 [.slice Aa p0.fB.length ca,.slice Ab p0.fR.length cb] dp rfl rfl rfl) (oY rfl (ct [.pointer (some ⟨b7,0,none⟩)] rfl rfl) ?_))))))
  obtain ⟨y8,hy9,h⟩:=bOs h
  refine oC [.agg #[.slice Aa p0.fB.length ca,.slice Ab p0.fR.length cb],.func (.func 85) #[] #[.pointer (some ⟨b7,0,none⟩)]] _ _ _ rfl go_84 rfl (fun W2 hW2 => kq p0 y5 y8 hy9 W2 Aa p0.fB.length ca rfl ((RdL.arg hr0_0) W2 hW2) Ab p0.fR.length cb rfl ((RdL.arg hr0_1) W2 hW2) b7 ((RdL.cells 1 rfl) W2 hW2)) ?_
  rintro ⟨A12,n10,c13⟩ hn11
  replace hn11 : n10 = y8.length:=hn11; subst hn11
  refine oY rfl (yAS rfl) (oY rfl (yAI rfl) (oN (eT (am ?_))))
  obtain rfl:=sI h
  exact bI (.inl rfl) rfl (rVt (v:=.slice A12 y8.length c13) rfl) (rVt (v:=vI 0) rfl) (fun W2 hW2 => ⟨(A12,y8.length,c13),rfl,rfl,(hW2.pick 2 rfl)⟩)
theorem pY (p0:TY) (res:((List Int) × Int)) (h:my p0 = some res) (W:World) (Aa:Option Addr) (n0_0 ca : Nat) (hn0_0:n0_0 = p0.fB.length) (hr0_0:Rd W Aa n0_0 ca (encL aG p0.fB)) (Ab:Option Addr) (n0_1 cb : Nat) (hn0_1:n0_1 = p0.fR.length) (hr0_1:Rd W Ab n0_1 cb (encL aB p0.fR)) :
  Calls Tryz.prog 29 [.agg #[.slice Aa n0_0 ca,.slice Ab n0_1 cb]].toArray W fun e W2 => ∃ x : Option Addr × Nat × Nat,x.2.1 = res.1.length ∧ e = .returned (.tuple #[.slice x.1 x.2.1 x.2.2,vI res.2]) ∧ Ext W W2 [aL x.1 x.2.2 3 1 x.2.1 (encL cI res.1)]:=by
 subst hn0_0
 subst hn0_1
 unfold my at h
 refine ae (m:=16) Tryz.func29 rfl rfl (nB rfl) (cS (cR ?_))
 refine aW [.slice Aa p0.fB.length ca,.slice Ab p0.fR.length cb] rfl rfl rfl (fun b1 => ?_)
 refine oY rfl (yAS rfl) (oY rfl (yAI rfl) (oN (eT (cS (cS (cR (oY rfl (yN 0 [.slice Aa p0.fB.length ca,.slice Ab p0.fR.length cb] dp rfl rfl rfl) ?_)))))))
 obtain ⟨y2,hy3,h⟩:=bOs h
 refine oY rfl (yC [.agg #[.slice Aa p0.fB.length ca,.slice Ab p0.fR.length cb]] go_45 rfl (fun W2 hW2 => dv p0 y2 hy3 W2 Aa p0.fB.length ca rfl ((RdL.arg hr0_0) W2 hW2) Ab p0.fR.length cb rfl ((RdL.arg hr0_1) W2 hW2)) rfl) (oY rfl (yAI rfl) (oN (eT (cS (cR (oY rfl (yMI rfl) (oY rfl (dl rfl rfl) (oN (eT ?_)))))))))
 rcases iOs h with ⟨hp4,h⟩ | ⟨hp4,h⟩
 ·refine cT (vB hp4) (cS (cR (oY rfl (yMI rfl) (oY rfl (yAS rfl) (oY rfl (yAI rfl) (oN (eT (am (aa ?_)))))))))
  obtain rfl:=sI h
  exact bI (.inl rfl) rfl (rVt (v:=.slice none 0 0) rfl) (rVt (v:=vI y2) rfl) (fun W2 hW2 => ⟨(none,0,0),rfl,rfl,((hW2.nilrow 3 1).pick 1 rfl)⟩)
 ·refine cF (vB hp4) (cK (eT (cS (cR (oY rfl (yN 0 [.slice Aa p0.fB.length ca,.slice Ab p0.fR.length cb] dp rfl rfl rfl) ?_)))))
  obtain ⟨y5,hy6,h⟩:=bOs h
  refine oY rfl (yC [.agg #[.slice Aa p0.fB.length ca,.slice Ab p0.fR.length cb]] sP rfl (fun W2 hW2 => eQ p0 y5 hy6 W2 Aa p0.fB.length ca rfl ((RdL.arg hr0_0) W2 hW2) Ab p0.fR.length cb rfl ((RdL.arg hr0_1) W2 hW2)) rfl) ?_
  refine aE lj rfl (fun b7 => ?_)
  refine cr rfl (dt 1 (v:=vI y5) qk rfl (Nat.lt_of_lt_of_le (Nat.lt_succ_self _) (nB rfl)) rfl rfl rfl) (oN (eT (cS (cR (oY rfl (yN 0 [.slice Aa p0.fB.length ca,.slice Ab p0.fR.length cb] dp rfl rfl rfl) (oY rfl (ct [.pointer (some ⟨b7,0,none⟩)] rfl rfl) ?_))))))
  obtain ⟨y8,hy9,h⟩:=bOs h
  refine oC [.agg #[.slice Aa p0.fB.length ca,.slice Ab p0.fR.length cb],.func (.func 88) #[] #[.pointer (some ⟨b7,0,none⟩)]] _ _ _ rfl go_84 rfl (fun W2 hW2 => k9 p0 y5 y8 hy9 W2 Aa p0.fB.length ca rfl ((RdL.arg hr0_0) W2 hW2) Ab p0.fR.length cb rfl ((RdL.arg hr0_1) W2 hW2) b7 ((RdL.cells 1 rfl) W2 hW2)) ?_
  rintro ⟨A12,n10,c13⟩ hn11
  replace hn11 : n10 = y8.length:=hn11; subst hn11
  refine oY rfl (yAS rfl) (oY rfl (yAI rfl) (oN (eT (am ?_))))
  obtain rfl:=sI h
  exact bI (.inl rfl) rfl (rVt (v:=.slice A12 y8.length c13) rfl) (rVt (v:=vI 0) rfl) (fun W2 hW2 => ⟨(A12,y8.length,c13),rfl,rfl,(hW2.pick 2 rfl)⟩)
theorem pR (p0:Int) (cap0:(List (Int × Int))) (cap1:TY) (res:(Bool × (List (Int × Int)))) (h:mr p0 cap0 cap1 = some res) (W:World) (w0:World) (R:Res) (bmc0:Nat) (bc0:Nat) (hcap0:∀ W2,Below w0.heap.size w0 W2 → R.holds W2 → Rd W2 (some ⟨bc0,0,none⟩) 1 1 [.map (some bmc0)]) (bc1:Nat) (A101_0:Option Addr) (n101_0 c101_0 : Nat) (hn101_0:n101_0 = cap1.fB.length) (hr101_0:∀ W2,Below w0.heap.size w0 W2 → R.holds W2 → Rd W2 A101_0 n101_0 c101_0 (encL aG cap1.fB)) (A101_1:Option Addr) (n101_1 c101_1 : Nat) (hn101_1:n101_1 = cap1.fR.length) (hr101_1:∀ W2,Below w0.heap.size w0 W2 → R.holds W2 → Rd W2 A101_1 n101_1 c101_1 (encL aB cap1.fR)) (hcap1:∀ W2,Below w0.heap.size w0 W2 → R.holds W2 → Rd W2 (some ⟨bc1,0,none⟩) 1 1 [.slice A101_0 n101_0 c101_0,.slice A101_1 n101_1 c101_1]) (hW:Ext w0 W [R,mapV Tryz.prog 3 kI dW kI 0 bmc0 cap0]) :
  Calls Tryz.prog 137 [vI p0,.pointer (some ⟨bc0,0,none⟩),.pointer (some ⟨bc1,0,none⟩)].toArray W fun e W2 => ∃ x : Unit,True ∧ e = .returned (.bool res.1) ∧ Ext w0 W2 [R,mapV Tryz.prog 3 kI dW kI 0 bmc0 res.2]:=by
 subst hn101_0
 subst hn101_1
 unfold mr at h
 refine a8 (m:=12) Tryz.func137 rfl rfl (nB rfl) hW (cS (cR (oY rfl (yAB rfl) (oN (eT (cS ?_))))))
 refine bh 5 cD (by kernel_rfl) (by kernel_rfl) ?_
 refine qY rfl (yR (A:=(some ⟨bc0,0,none⟩)) (j:=0) (v:=.map (some bmc0)) sg (RdL.under hcap0) rfl rfl) (qY rfl (yM (A:=(some ⟨bc1,0,none⟩)) (j:=0) [.slice A101_0 cap1.fB.length c101_0,.slice A101_1 cap1.fR.length c101_1] dp (Nat.succ_pos _) (RdL.under hcap1) rfl (pw rfl)) (qY rfl (yM (A:=(some ⟨bc1,0,none⟩)) (j:=0) [.slice A101_0 cap1.fB.length c101_0,.slice A101_1 cap1.fR.length c101_1] dp (Nat.succ_pos _) (RdL.under hcap1) rfl (pw rfl)) (qY rfl (yMI rfl) ?_)))
 obtain ⟨y1,hy2,h⟩:=bOs h
 refine qY rfl (yC [.agg #[.slice A101_0 cap1.fB.length c101_0,.slice A101_1 cap1.fR.length c101_1],vI p0] go_90 rfl (fun W2 hW2 => jM cap1 p0 y1 hy2 W2 A101_0 cap1.fB.length c101_0 rfl ((RdL.under hr101_0) W2 hW2) A101_1 cap1.fR.length c101_1 rfl ((RdL.under hr101_1) W2 hW2)) rfl) (cd ?_)
 obtain ⟨y3,hy4,h⟩:=bOs h
 refine gg [1] [] [.map (some bmc0),.agg #[.slice A101_0 cap1.fB.length c101_0,.slice A101_1 cap1.fR.length c101_1],vI y1] [] (fun (_:Unit) => True) (fun _ => .bool y3.1) (fun _ => [mapV Tryz.prog 3 kI dW kI 0 bmc0 y3.2]) (fun _ => []) (Foc.c1 rfl) (by decide) rfl go_117 rfl rfl (fun _ => rfl) (fun W2 hW2 => iT cap0 cap1 y1 y3 hy4 W2 _ (bB [R,mapV Tryz.prog 3 kI dW kI 0 bmc0 cap0] [1]) bmc0 A101_0 cap1.fB.length c101_0 rfl (fun W3 hb hR => (RdL.under hr101_0) W3 (hW2.restL hb hR)) A101_1 cap1.fR.length c101_1 rfl (fun W3 hb hR => (RdL.under hr101_1) W3 (hW2.restL hb hR)) hW2) ?_
 rintro - -
 try dsimp only [ll,lsz,lss,List.append_nil]
 refine oY rfl (bQ rfl) (oY rfl (yAB rfl) (oN (eT (am ?_))))
 obtain rfl:=sI h
 exact al (.inl rfl) rfl (rVt (v:=.bool (!y3.1)) rfl) (fun W2 hW2 => ⟨(),trivial,rfl,hW2.take 2⟩)
theorem gn (p0:(List Int)) (cap0:(List (Int × Int))) (cap1:TY) (res:(Int × (List (Int × Int)))) (h:cw p0 cap0 cap1 = some res) (W:World) (w0:World) (R:Res) (bmc0:Nat) (Aa:Option Addr) (n0_0 ca : Nat) (hn0_0:n0_0 = p0.length) (hr0_0:∀ W2,Below w0.heap.size w0 W2 → R.holds W2 → Rd W2 Aa n0_0 ca (encL cI p0)) (bc0:Nat) (hcap0:∀ W2,Below w0.heap.size w0 W2 → R.holds W2 → Rd W2 (some ⟨bc0,0,none⟩) 1 1 [.map (some bmc0)]) (bc1:Nat) (A101_0:Option Addr) (n101_0 c101_0 : Nat) (hn101_0:n101_0 = cap1.fB.length) (hr101_0:∀ W2,Below w0.heap.size w0 W2 → R.holds W2 → Rd W2 A101_0 n101_0 c101_0 (encL aG cap1.fB)) (A101_1:Option Addr) (n101_1 c101_1 : Nat) (hn101_1:n101_1 = cap1.fR.length) (hr101_1:∀ W2,Below w0.heap.size w0 W2 → R.holds W2 → Rd W2 A101_1 n101_1 c101_1 (encL aB cap1.fR)) (hcap1:∀ W2,Below w0.heap.size w0 W2 → R.holds W2 → Rd W2 (some ⟨bc1,0,none⟩) 1 1 [.slice A101_0 n101_0 c101_0,.slice A101_1 n101_1 c101_1]) (hW:Ext w0 W [R,mapV Tryz.prog 3 kI dW kI 0 bmc0 cap0]) :
  Calls Tryz.prog 138 [.slice Aa n0_0 ca,.func (.func 137) #[] #[.pointer (some ⟨bc0,0,none⟩),.pointer (some ⟨bc1,0,none⟩)]].toArray W fun e W2 => ∃ x : Unit,True ∧ e = .returned (vI res.1) ∧ Ext w0 W2 [R,mapV Tryz.prog 3 kI dW kI 0 bmc0 res.2]:=by
 subst hn0_0
 subst hn101_0
 subst hn101_1
 unfold cw at h
 refine a8 (m:=19) Tryz.func138 rfl rfl (nB rfl) hW (cS (cR (oY rfl (yAI rfl) (oN (eT (cS (cS (cR (oY rfl (yMS rfl) (oY rfl (bp (us:=[]) cV rfl) (oY rfl (yMI rfl) (oN (eT (cB ?_))))))))))))))
 obtain ⟨u4,hl10,h⟩:=bOs h
 refine bF (fun (s:(Int × Int × (List (Int × Int)))) L tm => ∃ (tm0:Nat → Value),L = [R,mapV Tryz.prog 3 kI dW kI 0 bmc0 s.2.2] ∧ tm = (upd (upd (upd (upd (upd tm0 0 (.slice Aa p0.length ca)) 1 (.func (.func 137) #[] #[slA (some ⟨bc0,0,none⟩) 0,slA (some ⟨bc1,0,none⟩) 0])) 4 (vI s.1)) 7 (vI (p0.length:Int))) 8 (vI s.2.1))) 0 hl10 ⟨_,rfl,(kp4 (kp rfl))⟩ ?_ ?_
 ·rintro s3 L tm st ⟨tm0_s3,rfl,rfl⟩ h
  unfold dm at h
  refine cS (cR (oY rfl (bj rfl rfl) (oN (eT (cS ?_)))))
  rcases iOs h with ⟨hp5,h⟩ | ⟨hp5,h⟩
  ·refine cT (vB hp5) (cK (eT (cS (cB (cS (cR (oY rfl (yMI rfl) (oY rfl (yAI rfl) (oN (eT (cS (cR (oY rfl (di rfl) (oY rfl (yMS rfl) (oY rfl (yMI rfl) ?_)))))))))))))))
   obtain ⟨hg6,h⟩:=gOs h
   refine oY rfl (yI bZ (by decide) hg6.1 hg6.2 (RdL.under hr0_0) (eL aA rfl) rfl rfl) ?_
   refine oY rfl (yR (A:=Aa) (j:=(Int.toNat s3.2.1 * 1)) (v:=vI (rdL p0 s3.2.1)) aV (RdL.under hr0_0) rfl (aC aA hg6.1 (ah hg6.2 rfl) rfl)) ?_
   obtain ⟨y7,hy8,h⟩:=bOs h
   refine gg [1] [] [vI (rdL p0 s3.2.1)] [slA (some ⟨bc0,0,none⟩) 0,slA (some ⟨bc1,0,none⟩) 0] (fun (_:Unit) => True) (fun _ => .bool y7.1) (fun _ => [mapV Tryz.prog 3 kI dW kI 0 bmc0 y7.2]) (fun _ => []) (Foc.c1 rfl) (by decide) rfl go_137 rfl rfl (fun _ => rfl) (fun W2 hW2 => pR (rdL p0 s3.2.1) s3.2.2 cap1 y7 hy8 W2 _ (bB [R,mapV Tryz.prog 3 kI dW kI 0 bmc0 s3.2.2] [1]) bmc0 bc0 (fun W3 hb hR => (RdL.under hcap0) W3 (hW2.restL hb hR)) bc1 A101_0 cap1.fB.length c101_0 rfl (fun W3 hb hR => (RdL.under hr101_0) W3 (hW2.restL hb hR)) A101_1 cap1.fR.length c101_1 rfl (fun W3 hb hR => (RdL.under hr101_1) W3 (hW2.restL hb hR)) (fun W3 hb hR => (RdL.under hcap1) W3 (hW2.restL hb hR)) hW2) ?_
   rintro - -
   try dsimp only [ll,lsz,lss,List.append_nil]
   refine oN (eT ?_)
   rcases iOs h with ⟨hp9,h⟩ | ⟨hp9,h⟩
   ·refine cT (vB hp9) (cS (cR (oY rfl (yMI rfl) (oY rfl (yAI rfl) (oN (eT (am (ak (aa ?_)))))))))
    obtain rfl:=sI h
    exact ax ⟨rfl,_,rfl,(kp4 (kp rfl))⟩
   ·refine cF (vB hp9) (cK (aw (eT (cR (oY rfl (aT rfl rfl) (oY rfl (yMI rfl) (oN ?_)))))))
    obtain rfl:=sI h
    exact eN ⟨_,rfl,(kp4 (kp rfl))⟩
  ·refine cF (vB hp5) (aH (ag ?_))
   obtain rfl:=sI h
   exact ax ⟨rfl,_,rfl,(kp4 (kp rfl))⟩
 ·intro e L tm hJ
  rcases u4 with u11 | u12
  ·dsimp only at h hJ
   obtain ⟨rfl,tm0_u11,rfl,rfl⟩:=hJ
   refine ⟨(by intro hc; cases hc),?_⟩
   refine ak (aa ?_)
   obtain rfl:=sI h
   exact al (.inl rfl) rfl (rVt (v:=vI u11.1) rfl) (fun W2 hW2 => ⟨(),trivial,rfl,hW2.take 2⟩)
  ·dsimp only at h hJ
   obtain ⟨rfl,tm0_u12,rfl,rfl⟩:=hJ
   refine ⟨(by intro hc; cases hc),?_⟩
   refine ac (eT (cS (cR (oY rfl (yAI rfl) (oN (eT (am ?_)))))))
   obtain rfl:=sI h
   exact al (.inl rfl) rfl (rVt (v:=vI (-1)) rfl) (fun W2 hW2 => ⟨(),trivial,rfl,hW2.take 2⟩)
theorem iM (p0:(List Int)) (p1:Int → Option Bool) (res:Int) (h:dI p0 p1 = some res) (W:World) (Aa:Option Addr) (n0_0 ca : Nat) (hn0_0:n0_0 = p0.length) (hr0_0:Rd W Aa n0_0 ca (encL cI p0)) (fid1:Nat) (fst1 caps1 : List Value) (hgo1:bC Tryz.prog fid1 = true) (hof1:∀ W2,Below W.heap.size W W2 → ∀ x,∀ y,p1 x = some y → Calls Tryz.prog fid1 (fst1 ++ (([vI x] : List Value) ++ caps1)).toArray W2 fun e W3 => e = .returned (.bool y) ∧ Ext W2 W3 []) :
  Calls Tryz.prog 138 [.slice Aa n0_0 ca,.func (.func fid1) fst1.toArray caps1.toArray].toArray W fun e W2 => e = .returned (vI res) ∧ Ext W W2 []:=by
 subst hn0_0
 unfold dI at h
 refine ae (m:=19) Tryz.func138 rfl rfl (nB rfl) (cS (cR (oY rfl (yAI rfl) (oN (eT (cS (cS (cR (oY rfl (yMS rfl) (oY rfl (bp (us:=[]) cV rfl) (oY rfl (yMI rfl) (oN (eT (cB ?_))))))))))))))
 obtain ⟨u3,hl9,h⟩:=bOs h
 refine bF (fun (s:(Int × Int)) L tm => ∃ (tm0:Nat → Value),L = [] ∧ tm = (upd (upd (upd (upd (upd tm0 0 (.slice Aa p0.length ca)) 1 (.func (.func fid1) fst1.toArray caps1.toArray)) 4 (vI s.1)) 7 (vI (p0.length:Int))) 8 (vI s.2))) 0 hl9 ⟨_,rfl,(kp4 (kp rfl))⟩ ?_ ?_
 ·rintro s2 L tm st ⟨tm0_s2,rfl,rfl⟩ h
  unfold eD at h
  refine cS (cR (oY rfl (bj rfl rfl) (oN (eT (cS ?_)))))
  rcases iOs h with ⟨hp4,h⟩ | ⟨hp4,h⟩
  ·refine cT (vB hp4) (cK (eT (cS (cB (cS (cR (oY rfl (yMI rfl) (oY rfl (yAI rfl) (oN (eT (cS (cR (oY rfl (bR (v:=.func (.func fid1) fst1.toArray caps1.toArray) rfl) (oY rfl (yMS rfl) (oY rfl (yMI rfl) ?_)))))))))))))))
   obtain ⟨hg5,h⟩:=gOs h
   refine oY rfl (yI bZ (by decide) hg5.1 hg5.2 (RdL.arg hr0_0) (eL aA rfl) rfl rfl) ?_
   refine oY rfl (yR (A:=Aa) (j:=(Int.toNat s2.2 * 1)) (v:=vI (rdL p0 s2.2)) aV (RdL.arg hr0_0) rfl (aC aA hg5.1 (ah hg5.2 rfl) rfl)) ?_
   obtain ⟨y6,hy7,h⟩:=bOs h
   refine oY rfl (ie [vI (rdL p0 s2.2)] hgo1 rfl rfl (fun W2 hW2 => hof1 W2 hW2.below (rdL p0 s2.2) y6 hy7)) (oN (eT ?_))
   rcases iOs h with ⟨hp8,h⟩ | ⟨hp8,h⟩
   ·refine cT (vB hp8) (cS (cR (oY rfl (yMI rfl) (oY rfl (yAI rfl) (oN (eT (am (ak (aa ?_)))))))))
    obtain rfl:=sI h
    exact ax ⟨rfl,_,rfl,(kp4 (kp rfl))⟩
   ·refine cF (vB hp8) (cK (aw (eT (cR (oY rfl (aT rfl rfl) (oY rfl (yMI rfl) (oN ?_)))))))
    obtain rfl:=sI h
    exact eN ⟨_,rfl,(kp4 (kp rfl))⟩
  ·refine cF (vB hp4) (aH (ag ?_))
   obtain rfl:=sI h
   exact ax ⟨rfl,_,rfl,(kp4 (kp rfl))⟩
 ·intro e L tm hJ
  rcases u3 with u10 | u11
  ·dsimp only at h hJ
   obtain ⟨rfl,tm0_u10,rfl,rfl⟩:=hJ
   refine ⟨(by intro hc; cases hc),?_⟩
   refine ak (aa ?_)
   obtain rfl:=sI h
   exact al (.inl rfl) rfl (rVt (v:=vI u10.1) rfl) (fun W2 hW2 => ⟨rfl,hW2.none⟩)
  ·dsimp only at h hJ
   obtain ⟨rfl,tm0_u11,rfl,rfl⟩:=hJ
   refine ⟨(by intro hc; cases hc),?_⟩
   refine ac (eT (cS (cR (oY rfl (yAI rfl) (oN (eT (am ?_)))))))
   obtain rfl:=sI h
   exact al (.inl rfl) rfl (rVt (v:=vI (-1)) rfl) (fun W2 hW2 => ⟨rfl,hW2.none⟩)
theorem kh (p0:(List Int)) (cap0:(List (Int × Int))) (cap1:TY) (res:(Int × (List (Int × Int)))) (h:fz p0 cap0 cap1 = some res) (W:World) (w0:World) (R:Res) (bmc0:Nat) (Aa:Option Addr) (n0_0 ca : Nat) (hn0_0:n0_0 = p0.length) (hr0_0:∀ W2,Below w0.heap.size w0 W2 → R.holds W2 → Rd W2 Aa n0_0 ca (encL cI p0)) (bc0:Nat) (hcap0:∀ W2,Below w0.heap.size w0 W2 → R.holds W2 → Rd W2 (some ⟨bc0,0,none⟩) 1 1 [.map (some bmc0)]) (bc1:Nat) (A101_0:Option Addr) (n101_0 c101_0 : Nat) (hn101_0:n101_0 = cap1.fB.length) (hr101_0:∀ W2,Below w0.heap.size w0 W2 → R.holds W2 → Rd W2 A101_0 n101_0 c101_0 (encL aG cap1.fB)) (A101_1:Option Addr) (n101_1 c101_1 : Nat) (hn101_1:n101_1 = cap1.fR.length) (hr101_1:∀ W2,Below w0.heap.size w0 W2 → R.holds W2 → Rd W2 A101_1 n101_1 c101_1 (encL aB cap1.fR)) (hcap1:∀ W2,Below w0.heap.size w0 W2 → R.holds W2 → Rd W2 (some ⟨bc1,0,none⟩) 1 1 [.slice A101_0 n101_0 c101_0,.slice A101_1 n101_1 c101_1]) (hW:Ext w0 W [R,mapV Tryz.prog 3 kI dW kI 0 bmc0 cap0]) :
  Calls Tryz.prog 136 [.slice Aa n0_0 ca,.func (.func 137) #[] #[.pointer (some ⟨bc0,0,none⟩),.pointer (some ⟨bc1,0,none⟩)]].toArray W fun e W2 => ∃ x : Unit,True ∧ e = .returned (vI res.1) ∧ Ext w0 W2 [R,mapV Tryz.prog 3 kI dW kI 0 bmc0 res.2]:=by
 subst hn0_0
 subst hn101_0
 subst hn101_1
 unfold fz at h
 refine a8 (m:=8) Tryz.func136 rfl rfl (nB rfl) hW (cS (cR (oY rfl (yAI rfl) (oN (eT (cS (cR (oY rfl (yMS rfl) (oY rfl (di rfl) ?_)))))))))
 obtain ⟨y1,hy2,h⟩:=bOs h
 refine gg [1] [] [.slice Aa p0.length ca,.func (.func 137) #[] #[slA (some ⟨bc0,0,none⟩) 0,slA (some ⟨bc1,0,none⟩) 0]] [] (fun (_:Unit) => True) (fun _ => vI y1.1) (fun _ => [mapV Tryz.prog 3 kI dW kI 0 bmc0 y1.2]) (fun _ => []) (Foc.c1 rfl) (by decide) rfl go_138 rfl rfl (fun _ => rfl) (fun W2 hW2 => gn p0 cap0 cap1 y1 hy2 W2 _ (bB [R,mapV Tryz.prog 3 kI dW kI 0 bmc0 cap0] [1]) bmc0 Aa p0.length ca rfl (fun W3 hb hR => (RdL.under hr0_0) W3 (hW2.restL hb hR)) bc0 (fun W3 hb hR => (RdL.under hcap0) W3 (hW2.restL hb hR)) bc1 A101_0 cap1.fB.length c101_0 rfl (fun W3 hb hR => (RdL.under hr101_0) W3 (hW2.restL hb hR)) A101_1 cap1.fR.length c101_1 rfl (fun W3 hb hR => (RdL.under hr101_1) W3 (hW2.restL hb hR)) (fun W3 hb hR => (RdL.under hcap1) W3 (hW2.restL hb hR)) hW2) ?_
 rintro - -
 try dsimp only [ll,lsz,lss,List.append_nil]
 refine oY rfl (yAI rfl) (oN (eT (am ?_)))
 obtain rfl:=sI h
 exact al (.inl rfl) rfl (rVt (v:=vI y1.1) rfl) (fun W2 hW2 => ⟨(),trivial,rfl,hW2.take 2⟩)
theorem nJ (p0:TY) (p1:(List Int)) (res:Bool) (h:nb p0 p1 = some res) (W:World) (Aa:Option Addr) (n0_0 ca : Nat) (hn0_0:n0_0 = p0.fB.length) (hr0_0:Rd W Aa n0_0 ca (encL aG p0.fB)) (Ab:Option Addr) (n0_1 cb : Nat) (hn0_1:n0_1 = p0.fR.length) (hr0_1:Rd W Ab n0_1 cb (encL aB p0.fR)) (Ac:Option Addr) (n1_0 cc : Nat) (hn1_0:n1_0 = p1.length) (hr1_0:Rd W Ac n1_0 cc (encL cI p1)) :
  Calls Tryz.prog 91 [.agg #[.slice Aa n0_0 ca,.slice Ab n0_1 cb],.slice Ac n1_0 cc].toArray W fun e W2 => e = .returned (.bool res) ∧ Ext W W2 []:=by
 subst hn0_0
 subst hn0_1
 subst hn1_0
 unfold nb at h
 refine ae (m:=11) Tryz.func91 rfl rfl (nB rfl) (cS (cR ?_))
 refine aW [.slice Aa p0.fB.length ca,.slice Ab p0.fR.length cb] rfl rfl rfl (fun b1 => ?_)
 refine oY rfl (yAB rfl) (oN (eT (cS (cR ?_))))
 refine jR 3 kI dW kI 0 rfl (fun b2 => ?_)
 refine aE ze_152 rfl (fun b3 => ?_)
 refine cr rfl (dt 2 (v:=.map (some b2)) sz_152 rfl (Nat.lt_of_lt_of_le (Nat.lt_succ_self _) (nB rfl)) rfl rfl rfl) (oN (eT (cS (cR (oY rfl (yMS rfl) (oY rfl (ct [.pointer (some ⟨b3,0,none⟩),.pointer (some ⟨b1,0,none⟩)] rfl rfl) ?_))))))
 obtain ⟨y4,hy5,h⟩:=bOs h
 refine gg [1] [] [.slice Ac p1.length cc,.func (.func 137) #[] #[.pointer (some ⟨b3,0,none⟩),.pointer (some ⟨b1,0,none⟩)]] [] (fun (_:Unit) => True) (fun _ => vI y4.1) (fun _ => [mapV Tryz.prog 3 kI dW kI 0 b2 y4.2]) (fun _ => []) (Foc.c1 rfl) (by decide) rfl go_136 rfl rfl (fun _ => rfl) (fun W2 hW2 => kh p1 [] p0 y4 hy5 W2 _ (bB [ai b1 53 [.slice Aa p0.fB.length ca,.slice Ab p0.fR.length cb],mapV Tryz.prog 3 kI dW kI 0 b2 [],ai b3 152 [.map (some b2)]] [1]) b2 Ac p1.length cc rfl (fun W3 hb hR => (RdL.arg hr1_0) W3 (hW2.restL hb hR)) b3 (fun W3 hb hR => (RdL.cells 2 rfl) W3 (hW2.restL hb hR)) b1 Aa p0.fB.length ca rfl (fun W3 hb hR => (RdL.arg hr0_0) W3 (hW2.restL hb hR)) Ab p0.fR.length cb rfl (fun W3 hb hR => (RdL.arg hr0_1) W3 (hW2.restL hb hR)) (fun W3 hb hR => (RdL.cells 0 rfl) W3 (hW2.restL hb hR)) hW2) ?_
 rintro - -
 try dsimp only [ll,lsz,lss,List.append_nil]
 refine oY rfl (bj rfl rfl) (oY rfl (yAB rfl) (oN (eT (am ?_))))
 obtain rfl:=sI h
 exact al (.inl rfl) rfl (rVt (v:=.bool (decide (y4.1 < 0))) rfl) (fun W2 hW2 => ⟨rfl,hW2.none⟩)
theorem dQ (p0:(List Int)) (res:(List Int)) (h:cz p0 = some res) (W:World) (Aa:Option Addr) (n0_0 ca : Nat) (hn0_0:n0_0 = p0.length) (hr0_0:Rd W Aa n0_0 ca (encL cI p0)) :
  Calls Tryz.prog 92 [.slice Aa n0_0 ca].toArray W fun e W2 => ∃ x : Option Addr × Nat × Nat,x.2.1 = res.length ∧ e = .returned (.slice x.1 x.2.1 x.2.2) ∧ Ext W W2 [aL x.1 x.2.2 3 1 x.2.1 (encL cI res)]:=by
 subst hn0_0
 unfold cz at h
 refine ae (m:=8) Tryz.func92 rfl rfl (nB rfl) (cS (cR (oY rfl (yAS rfl) (oN (eT (cS (cS (cR (oY rfl (yMS rfl) (oY rfl (qe cV rfl rfl) (oN (eT ?_))))))))))))
 rcases ao (Option.isNone Aa) with hp1 | hp1
 ·refine cT (vB hp1) ?_
  have z6:=pO (Option.isNone_iff_eq_none.1 hp1 ▸ hr0_0) aA (by decide)
  replace h:=(gOs h).2
  rw [z6] at h
  refine cS (cR (oY rfl (yAS rfl) (oN (eT (am (aa ?_))))))
  obtain rfl:=sI h
  exact al (.inl rfl) rfl (rVt (v:=.slice none 0 0) rfl) (fun W2 hW2 => ⟨(none,0,0),rfl,rfl,((hW2.nilrow 3 1).pick 0 rfl)⟩)
 ·refine cF (vB hp1) (cK (eT (cS (cR ?_))))
  refine dZ cI cV lj m4 rfl (fun b2 => ?_)
  refine oY rfl (yMS rfl) ?_
  obtain ⟨hg5,h⟩:=gOs h
  refine bE 0 cV lj m4 rfl rfl rfl (RdL.arg hr0_0) (eL aA rfl) (cv lG _) (cA hg5 (by decide)) rfl (fun A3 c4 => ?_)
  refine oY rfl (yAS rfl) (oN (eT (am ?_)))
  obtain rfl:=sI h
  exact al (.inl rfl) rfl (rVt (v:=.slice A3 (0 + p0.length) c4) rfl) (fun W2 hW2 => ⟨(A3,(0 + p0.length),c4),(gb rfl rfl),rfl,(hW2.pick 0 rfl)⟩)
theorem il (p0:(List Int)) (p1:Int → Option Bool) (res:(List Int)) (h:dj p0 p1 = some res) (W:World) (w0:World) (R:Res) (Aa:Option Addr) (n0_0 ca : Nat) (hn0_0:n0_0 = p0.length) (fid1:Nat) (fst1 caps1 : List Value) (hgo1:bC Tryz.prog fid1 = true) (hof1:∀ W2,Below w0.heap.size w0 W2 → R.holds W2 → ∀ x,∀ y,p1 x = some y → Calls Tryz.prog fid1 (fst1 ++ (([vI x] : List Value) ++ caps1)).toArray W2 fun e W3 => e = .returned (.bool y) ∧ Ext W2 W3 []) (hW:Ext w0 W [R,aL Aa ca 3 1 n0_0 (encL cI p0)]) :
  Calls Tryz.prog 93 [.slice Aa n0_0 ca,.func (.func fid1) fst1.toArray caps1.toArray].toArray W fun e W2 => ∃ k : Nat,k = res.length ∧ e = .returned (.slice Aa k ca) ∧ Ext w0 W2 [R,aL Aa ca 3 1 k (encL cI res)]:=by
 subst hn0_0
 unfold dj at h
 refine a8 (m:=42) Tryz.func93 rfl rfl (nB rfl) hW (cS (cR (oY rfl (yAS rfl) (oN (eT (cS (cR (oY rfl (yMS rfl) (oY rfl (bR (v:=.func (.func fid1) fst1.toArray caps1.toArray) rfl) ?_)))))))))
 obtain ⟨y1,hy2,h⟩:=bOs h
 refine oY rfl (yC [.slice Aa p0.length ca,.func (.func fid1) fst1.toArray caps1.toArray] go_138 rfl (fun W2 hW2 => iM p0 p1 y1 hy2 W2 Aa p0.length ca rfl ((RdL.row 1 rfl) W2 hW2) fid1 fst1 caps1 hgo1 (fun W3 hb => hof1 W3 (fV hW2.below hb) ((hW2.below' hb).mem (i:=0) rfl))) rfl) (oY rfl (yAI rfl) (oN (eT (cS (cS (cR (oY rfl (yMI rfl) (oY rfl (da rfl rfl) (oN (eT ?_))))))))))
 rcases iOs h with ⟨hp3,h⟩ | ⟨hp3,h⟩
 ·refine cT (vB hp3) (cS (cR (oY rfl (yMS rfl) (oY rfl (yAS rfl) (oN (eT (am (aa ?_))))))))
  obtain rfl:=sI h
  exact al (.inl rfl) rfl (rVt (v:=.slice Aa p0.length ca) rfl) (fun W2 hW2 => ⟨p0.length,rfl,rfl,hW2.take 2⟩)
 ·refine cF (vB hp3) (cK (eT (cS (cS (cR (oY rfl (yMI rfl) (oY rfl (aT rfl rfl) (oY rfl (yAI rfl) (oN (eT (cB ?_)))))))))))
  obtain ⟨u7,hl14,h⟩:=bOs h
  refine ba (fun (s:(Int × Int × (List Int))) L tm => ∃ (tm0:Nat → Value),p0.length = s.2.2.length ∧ L = [R,aL Aa ca 3 1 p0.length (encL cI s.2.2)] ∧ tm = (upd (upd (upd (upd (upd tm0 0 (.slice Aa p0.length ca)) 1 (.func (.func fid1) fst1.toArray caps1.toArray)) 4 (.slice none 0 0)) 5 (vI s.1)) 6 (vI s.2.1))) 0 hl14 ⟨_,rfl,rfl,(kp4 (kp rfl))⟩ ?_ ?_
  ·rintro s6 L tm st ⟨tm0_s6,hn1_s6,rfl,rfl⟩ h
   unfold d9 at h
   refine cS (cS (cR (oY rfl (yMI rfl) (oY rfl (yMS rfl) (oY rfl (bp (us:=[]) cV rfl) (oY rfl (bj rfl rfl) (oN (eT ?_))))))))
   rcases iOs h with ⟨hp8,h⟩ | ⟨hp8,h⟩
   ·refine cT (vB hp8) (cK (eT (cS (cB (cS (cR (oY rfl (yMS rfl) (oY rfl (yMI rfl) ?_))))))))
    obtain ⟨hg9,h⟩:=gOs h
    refine oY rfl (yI bZ (by decide) hg9.1 hg9.2 (RdL.row 1 rfl) (eL aA hn1_s6) rfl rfl) ?_
    refine oY rfl (yR (A:=Aa) (j:=(Int.toNat s6.2.1 * 1)) (v:=vI (rdL s6.2.2 s6.2.1)) aV (RdL.row 1 rfl) rfl (aC aA hg9.1 (ah hg9.2 hn1_s6) rfl)) (oY rfl (yAI rfl) (oN (eT (cS (cR (oY rfl (bR (v:=.func (.func fid1) fst1.toArray caps1.toArray) rfl) (oY rfl (yMI rfl) ?_)))))))
    obtain ⟨y10,hy11,h⟩:=bOs h
    refine oY rfl (ie [vI (rdL s6.2.2 s6.2.1)] hgo1 rfl rfl (fun W2 hW2 => hof1 W2 hW2.below (hW2.mem (i:=0) rfl) (rdL s6.2.2 s6.2.1) y10 hy11)) (oY rfl (bQ rfl) (oN (eT ?_)))
    rcases iOs h with ⟨hp12,h⟩ | ⟨hp12,h⟩
    ·refine cT (vB hp12) (cS (cR (oY rfl (yMS rfl) (oY rfl (yMI rfl) (oY rfl (yMI rfl) ?_)))))
     obtain ⟨hg13,h⟩:=gOs h
     refine oY rfl (yI bZ (by decide) hg13.1 hg13.2 (RdL.row 1 rfl) (eL aA hn1_s6) rfl rfl) ?_
     refine cr rfl (gO 1 (xs:=s6.2.2) aA (rdL s6.2.2 s6.2.1) qk rfl hg13.1 (ah hg13.2 hn1_s6) rfl rfl rfl rfl) (oN (eT (cR (oY rfl (yMI rfl) (oY rfl (aT rfl rfl) (oY rfl (yAI rfl) (oN (aw (eT (cR (oY rfl (yMI rfl) (oY rfl (aT rfl rfl) (oY rfl (yAI rfl) (oN ?_))))))))))))))
     obtain rfl:=sI h
     exact eN ⟨_,(cP hn1_s6),rfl,(kp4 (kp rfl))⟩
    ·refine cF (vB hp12) (cK (aw (eT (cR (oY rfl (yMI rfl) (oY rfl (aT rfl rfl) (oY rfl (yAI rfl) (oN ?_))))))))
     obtain rfl:=sI h
     exact eN ⟨_,hn1_s6,rfl,(kp4 (kp rfl))⟩
   ·refine cF (vB hp8) (aH (ag ?_))
    obtain rfl:=sI h
    exact ax ⟨rfl,_,hn1_s6,rfl,(kp4 (kp rfl))⟩
  ·intro e L tm hJ
   obtain ⟨rfl,tm0_u7,hn1_u7,rfl,rfl⟩:=hJ
   refine ⟨(by intro hc; cases hc),?_⟩
   refine ac (eT (cS (cR (oY rfl (yMS rfl) (oY rfl (yMI rfl) ?_)))))
   obtain ⟨hg15,h⟩:=gOs h
   refine oY rfl (qS bZ hg15.1 hg15.2 (RdL.row 1 rfl) rfl rfl) ?_
   obtain ⟨hg16,h⟩:=gOs h
   refine cr rfl (y_clearH 1 cV lj rfl (by decide) rfl aA rfl hg16.1 hg16.2 rfl) ?_
   refine oN (eT (cS (cR (oY rfl (yMS rfl) (oY rfl (yMI rfl) (oY rfl (y_cutHc bZ hg16.1 (fun W2 hW2 => (eO (hW2.mem (i:=1) rfl)).cap) rfl rfl) (oY rfl (yAS rfl) (oN (eT (am ?_))))))))))
   obtain rfl:=sI h
   exact al (.inl rfl) rfl (rVt (v:=.slice Aa (Int.toNat u7.1) ca) rfl) (fun W2 hW2 => ⟨Int.toNat u7.1,(jV hg16.2 hn1_u7),rfl,hW2.take 2⟩)
theorem mz (p0:Int) (cap0:Int) (res:Bool) (h:gz p0 cap0 = some res) (W:World) (bc0:Nat) (hcap0:Rd W (some ⟨bc0,0,none⟩) 1 1 (cI cap0)) :
  Calls Tryz.prog 94 [vI p0,.pointer (some ⟨bc0,0,none⟩)].toArray W fun e W2 => e = .returned (.bool res) ∧ Ext W W2 []:=by
 unfold gz at h
 refine ae (m:=7) Tryz.func94 rfl rfl (nB rfl) (cS (cR (oY rfl (yAB rfl) (oN (eT (cS (cR (oY rfl (yMI rfl) (oY rfl (yR (A:=(some ⟨bc0,0,none⟩)) (j:=0) (v:=vI cap0) aV (RdL.arg hcap0) rfl rfl) (oY rfl (da rfl rfl) (oY rfl (yAB rfl) (oN (eT (am ?_))))))))))))))
 obtain rfl:=sI h
 exact al (.inl rfl) rfl (rVt (v:=.bool (p0 == cap0)) rfl) (fun W2 hW2 => ⟨rfl,hW2.none⟩)
theorem nV (p0:TY) (p1:(List Int)) (res:((List Int) × Int)) (h:kv p0 p1 = some res) (W:World) (Aa:Option Addr) (n0_0 ca : Nat) (hn0_0:n0_0 = p0.fB.length) (hr0_0:Rd W Aa n0_0 ca (encL aG p0.fB)) (Ab:Option Addr) (n0_1 cb : Nat) (hn0_1:n0_1 = p0.fR.length) (hr0_1:Rd W Ab n0_1 cb (encL aB p0.fR)) (Ac:Option Addr) (n1_0 cc : Nat) (hn1_0:n1_0 = p1.length) (hr1_0:Rd W Ac n1_0 cc (encL cI p1)) :
  Calls Tryz.prog 31 [.agg #[.slice Aa n0_0 ca,.slice Ab n0_1 cb],.slice Ac n1_0 cc].toArray W fun e W2 => ∃ x : Option Addr × Nat × Nat,x.2.1 = res.1.length ∧ e = .returned (.tuple #[.slice x.1 x.2.1 x.2.2,vI res.2]) ∧ Ext W W2 [aL x.1 x.2.2 3 1 x.2.1 (encL cI res.1)]:=by
 subst hn0_0
 subst hn0_1
 subst hn1_0
 unfold kv at h
 refine ae (m:=65) Tryz.func31 rfl rfl (nB rfl) (cS (cR ?_))
 refine aW [.slice Aa p0.fB.length ca,.slice Ab p0.fR.length cb] rfl rfl rfl (fun b1 => ?_)
 refine oY rfl (yAS rfl) (oY rfl (yAI rfl) (oN (eT (cS (cS (cR (oY rfl (yN 0 [.slice Aa p0.fB.length ca,.slice Ab p0.fR.length cb] dp rfl rfl rfl) ?_)))))))
 obtain ⟨y2,hy3,h⟩:=bOs h
 refine oY rfl (yC [.agg #[.slice Aa p0.fB.length ca,.slice Ab p0.fR.length cb]] go_45 rfl (fun W2 hW2 => dv p0 y2 hy3 W2 Aa p0.fB.length ca rfl ((RdL.arg hr0_0) W2 hW2) Ab p0.fR.length cb rfl ((RdL.arg hr0_1) W2 hW2)) rfl) (oY rfl (yAI rfl) (oN (eT (cS (cR (oY rfl (yMI rfl) (oY rfl (dl rfl rfl) (oN (eT ?_)))))))))
 rcases iOs h with ⟨hp4,h⟩ | ⟨hp4,h⟩
 ·refine cT (vB hp4) (cS (cR (oY rfl (yMI rfl) (oY rfl (yAS rfl) (oY rfl (yAI rfl) (oN (eT (am (aa ?_)))))))))
  obtain rfl:=sI h
  exact bI (.inl rfl) rfl (rVt (v:=.slice none 0 0) rfl) (rVt (v:=vI y2) rfl) (fun W2 hW2 => ⟨(none,0,0),rfl,rfl,((hW2.nilrow 3 1).pick 1 rfl)⟩)
 ·refine cF (vB hp4) (cK (eT (cS (cS (cR (oY rfl (yMS rfl) (oY rfl (bp (us:=[]) cV rfl) (oY rfl (yMI rfl) (oN (eT (cB ?_)))))))))))
  obtain ⟨u7,hl20,h⟩:=bOs h
  refine cQ 3 1 ?_
  refine bF (fun (s:(Int × Int)) L tm => ∃ (tm0:Nat → Value),L = [ai b1 53 [.slice Aa p0.fB.length ca,.slice Ab p0.fR.length cb],aL none 0 3 1 0 (encL cI ([]:List Int))] ∧ tm = (upd (upd (upd (upd (upd (upd (upd tm0 1 (.slice Ac p1.length cc)) 2 (.pointer (some ⟨b1,0,none⟩))) 4 (.slice none 0 0)) 5 (vI s.1)) 18 (.slice Ac p1.length cc)) 19 (vI (p1.length:Int))) 20 (vI s.2))) 0 hl20 ⟨_,rfl,(kp4 (kp (kp (kp rfl))))⟩ ?_ ?_
  ·rintro s6 L tm st ⟨tm0_s6,rfl,rfl⟩ h
   unfold kO at h
   refine cS (cR (oY rfl (bj rfl rfl) (oN (eT (cS ?_)))))
   rcases iOs h with ⟨hp8,h⟩ | ⟨hp8,h⟩
   ·refine cT (vB hp8) (cK (eT (cS (cB (cS (cR (oY rfl (yMI rfl) ?_)))))))
    obtain ⟨hg9,h⟩:=gOs h
    refine oY rfl (yI bZ (by decide) hg9.1 hg9.2 (RdL.arg hr1_0) (eL aA rfl) rfl rfl) ?_
    refine oY rfl (yR (A:=Ac) (j:=(Int.toNat s6.2 * 1)) (v:=vI (rdL p1 s6.2)) aV (RdL.arg hr1_0) rfl (aC aA hg9.1 (ah hg9.2 rfl) rfl)) (oY rfl (yAI rfl) (oY rfl (yAI rfl) (oN (eT (cS (cR (oY rfl (yN 0 [.slice Aa p0.fB.length ca,.slice Ab p0.fR.length cb] dp rfl rfl rfl) (oY rfl (yMI rfl) ?_))))))))
    obtain ⟨y10,hy11,h⟩:=bOs h
    refine oY rfl (yC [.agg #[.slice Aa p0.fB.length ca,.slice Ab p0.fR.length cb],vI (rdL p1 s6.2)] go_90 rfl (fun W2 hW2 => jM p0 (rdL p1 s6.2) y10 hy11 W2 Aa p0.fB.length ca rfl ((RdL.arg hr0_0) W2 hW2) Ab p0.fR.length cb rfl ((RdL.arg hr0_1) W2 hW2)) rfl) (oY rfl (bj rfl rfl) (oY rfl (yMB rfl) ?_))
    obtain ⟨b13,hb14,h⟩:=bOs h
    refine oJ 12 (fun tm0 => (upd (upd (upd (upd (upd (upd (upd (upd (upd (upd (upd tm0 1 (.slice Ac p1.length cc)) 2 (.pointer (some ⟨b1,0,none⟩))) 4 (.slice none 0 0)) 5 (vI s6.1)) 18 (.slice Ac p1.length cc)) 19 (vI (p1.length:Int))) 20 (vI s6.2)) 21 (.bool (decide (s6.2 < (p1.length:Int))))) 7 (vI s6.2)) 8 (vI (rdL p1 s6.2))) 41 (.bool b13))) (fun tm0 => ?_) (fun key => ?_)
    ·refine oN (eT ?_)
     rcases iOs h with ⟨hp15,h⟩ | ⟨hp15,h⟩
     ·refine cT (vB hp15) (cS (cR (oY rfl (yAS rfl) (oY rfl (yAI rfl) (oN (eT (am (ak (aa ?_)))))))))
      obtain rfl:=sI h
      exact ax ⟨rfl,_,rfl,(kp4 (kp (kp (kp rfl))))⟩
     ·refine cF (vB hp15) (cK (aw (eT (cR (oY rfl (aT rfl rfl) (oY rfl (yMI rfl) (oN ?_)))))))
      obtain rfl:=sI h
      exact eN ⟨_,rfl,(kp4 (kp (kp (kp rfl))))⟩
    ·clear h; rcases iOs hb14 with ⟨hp12,h⟩ | ⟨hp12,h⟩
     ·refine oSk (sF rfl rfl rfl rfl hp12) (oSk (sF rfl rfl rfl rfl hp12) (oSk (sF rfl rfl rfl rfl hp12) (oSk rfl (oSk rfl (oSk rfl (oSk rfl (oSk rfl (oSk rfl (oSk rfl (oSk (sF rfl rfl rfl rfl hp12) (oY rfl (ab (vB hp12) rfl) ?_)))))))))))
      obtain rfl:=sI h
      exact key _ _ (kp4 (kp4 (kp (kp (kp rfl)))))
     ·refine oY (sT rfl rfl rfl rfl hp12) (yMI rfl) (oY (sT rfl rfl rfl rfl hp12) (gK rfl rfl) (oY (sT rfl rfl rfl rfl hp12) (yMB rfl) ?_))
      obtain ⟨b17,hb18,h⟩:=bOs h
      refine oJ 8 (fun tm0 => (upd (upd (upd (upd (upd (upd (upd (upd (upd (upd (upd (upd tm0 1 (.slice Ac p1.length cc)) 2 (.pointer (some ⟨b1,0,none⟩))) 4 (.slice none 0 0)) 5 (vI s6.1)) 18 (.slice Ac p1.length cc)) 19 (vI (p1.length:Int))) 20 (vI s6.2)) 21 (.bool (decide (s6.2 < (p1.length:Int))))) 7 (vI s6.2)) 8 (vI (rdL p1 s6.2))) 29 (.bool (decide (y10 < 0)))) 40 (.bool b17))) (fun tm0 => ?_) (fun key => ?_)
      ·refine oY rfl (ad (vB hp12) rfl) ?_
       obtain rfl:=sI h
       exact key _ _ (kp4 (kp4 (kp (kp (kp rfl)))))
      ·clear h; rcases iOs hb18 with ⟨hp16,h⟩ | ⟨hp16,h⟩
       ·refine oY (sT rfl rfl rfl rfl hp16) (yMI rfl) (oY (sT rfl rfl rfl rfl hp16) (yMS rfl) (oY (sT rfl rfl rfl rfl hp16) (yMI rfl) (oY (sT rfl rfl rfl rfl hp16) (eH rfl rfl) ?_)))
        obtain ⟨hg19,h⟩:=gOs h
        refine oY (sT rfl rfl rfl rfl hp16) (yI bZ (by decide) hg19.1 hg19.2 (RdL.arg hr1_0) (eL aA rfl) rfl rfl) ?_
        refine oY (sT rfl rfl rfl rfl hp16) (yR (A:=Ac) (j:=(Int.toNat (w64 (s6.2 - 1)) * 1)) (v:=vI (rdL p1 (w64 (s6.2 - 1)))) aV (RdL.arg hr1_0) rfl (aC aA hg19.1 (ah hg19.2 rfl) rfl)) (oY (sT rfl rfl rfl rfl hp16) (jw rfl rfl) (oY (sT rfl rfl rfl rfl hp12) (ab (vB hp16) rfl) ?_))
        obtain rfl:=sI h
        exact key _ _ (kp4 (kp4 (kp4 rfl)))
       ·refine oSk (sF rfl rfl rfl rfl hp16) (oSk (sF rfl rfl rfl rfl hp16) (oSk (sF rfl rfl rfl rfl hp16) (oSk (sF rfl rfl rfl rfl hp16) (oSk (sF rfl rfl rfl rfl hp16) (oSk (sF rfl rfl rfl rfl hp16) (oSk (sF rfl rfl rfl rfl hp16) (oY (sT rfl rfl rfl rfl hp12) (ad (vB hp16) rfl) ?_)))))))
        obtain rfl:=sI h
        exact key _ _ (kp4 (kp4 (kp4 rfl)))
   ·refine cF (vB hp8) (aH (ag ?_))
    obtain rfl:=sI h
    exact ax ⟨rfl,_,rfl,(kp4 (kp (kp (kp rfl))))⟩
  ·intro e L tm hJ
   rcases u7 with u21 | u22
   ·dsimp only at h hJ
    obtain ⟨rfl,tm0_u21,rfl,rfl⟩:=hJ
    refine ⟨(by intro hc; cases hc),?_⟩
    refine ak (aa ?_)
    obtain rfl:=sI h
    exact bI (.inl rfl) rfl (rVt (v:=.slice none 0 0) rfl) (rVt (v:=vI u21.1) rfl) (fun W2 hW2 => ⟨(none,0,0),rfl,rfl,(hW2.pick 1 rfl)⟩)
   ·dsimp only at h hJ
    obtain ⟨rfl,tm0_u22,rfl,rfl⟩:=hJ
    refine ⟨(by intro hc; cases hc),?_⟩
    refine ac (eT (cS (cS (cR (oY rfl (yN 0 [.slice Aa p0.fB.length ca,.slice Ab p0.fR.length cb] dp rfl rfl rfl) (oY rfl (yMS rfl) ?_))))))
    obtain ⟨y23,hy24,h⟩:=bOs h
    refine oY rfl (yC [.agg #[.slice Aa p0.fB.length ca,.slice Ab p0.fR.length cb],.slice Ac p1.length cc] go_91 rfl (fun W2 hW2 => nJ p0 p1 y23 hy24 W2 Aa p0.fB.length ca rfl ((RdL.arg hr0_0) W2 hW2) Ab p0.fR.length cb rfl ((RdL.arg hr0_1) W2 hW2) Ac p1.length cc rfl ((RdL.arg hr1_0) W2 hW2)) rfl) (oN (eT ?_))
    rcases iOs h with ⟨hp25,h⟩ | ⟨hp25,h⟩
    ·refine cT (vB hp25) (cS (cR (oY rfl (yAS rfl) (oY rfl (yAI rfl) (oN (eT (am (aa ?_))))))))
     obtain rfl:=sI h
     exact bI (.inl rfl) rfl (rVt (v:=.slice none 0 0) rfl) (rVt (v:=vI 5) rfl) (fun W2 hW2 => ⟨(none,0,0),rfl,rfl,((hW2.nilrow 3 1).pick 2 rfl)⟩)
    ·refine cF (vB hp25) (cK (eT (cS (cR (oY rfl (yMS rfl) ?_)))))
     obtain ⟨y26,hy27,h⟩:=bOs h
     refine oC [.slice Ac p1.length cc] _ _ _ rfl go_92 rfl (fun W2 hW2 => dQ p1 y26 hy27 W2 Ac p1.length cc rfl ((RdL.arg hr1_0) W2 hW2)) ?_
     rintro ⟨A28,n30,c29⟩ hn31
     replace hn31 : n30 = y26.length:=hn31; subst hn31
     refine oY rfl (yAS rfl) (oN (eT (cS (cS (cR (oY rfl (yMS rfl) (oY rfl (bp (us:=[]) cV rfl) (oY rfl (yMI rfl) (oN (eT (cB ?_)))))))))))
     obtain ⟨u35,hl53,h⟩:=bOs h
     refine ba (fun (s:(Int × (List Int))) L tm => ∃ (tm0:Nat → Value) (A2_s:Option Addr) (c2_s:Nat) (n2_s:Nat),n2_s = s.2.length ∧ L = [ai b1 53 [.slice Aa p0.fB.length ca,.slice Ab p0.fR.length cb],aL none 0 3 1 0 (encL cI ([]:List Int)),aL A2_s c2_s 3 1 n2_s (encL cI s.2)] ∧ tm = (upd (upd (upd (upd (upd (upd (upd tm0 2 (.pointer (some ⟨b1,0,none⟩))) 4 (.slice none 0 0)) 5 (vI u22.1)) 9 (.slice A2_s n2_s c2_s)) 48 (.slice Ac p1.length cc)) 49 (vI (p1.length:Int))) 50 (vI s.1))) 2 hl53 ⟨_,A28,c29,y26.length,rfl,rfl,(kp4 (kp (kp (kp rfl))))⟩ ?_ ?_
     ·rintro s34 L tm st ⟨tm0_s34,A2_s34,c2_s34,n2_s34,rfl,rfl,rfl⟩ h
      unfold kr at h
      refine cS (cR (oY rfl (bj rfl rfl) (oN (eT (cS ?_)))))
      rcases iOs h with ⟨hp36,h⟩ | ⟨hp36,h⟩
      ·refine cT (vB hp36) (cK (eT (cS (cB (cS (cR ?_))))))
       obtain ⟨hg37,h⟩:=gOs h
       refine oY rfl (yI bZ (by decide) hg37.1 hg37.2 (RdL.arg hr1_0) (eL aA rfl) rfl rfl) ?_
       refine oY rfl (yR (A:=Ac) (j:=(Int.toNat s34.1 * 1)) (v:=vI (rdL p1 s34.1)) aV (RdL.arg hr1_0) rfl (aC aA hg37.1 (ah hg37.2 rfl) rfl)) ?_
       refine aE lj rfl (fun b38 => ?_)
       refine cr rfl (dt 3 (v:=vI (rdL p1 s34.1)) qk rfl (Nat.lt_of_lt_of_le (Nat.lt_succ_self _) (nB rfl)) rfl rfl rfl) (oN (eT (cS (cR (oY rfl (yMS rfl) ?_)))))
       obtain ⟨y39,hy40,h⟩:=bOs h
       refine oC [.slice A2_s34 s34.2.length c2_s34] _ _ _ rfl go_92 rfl (fun W2 hW2 => dQ s34.2 y39 hy40 W2 A2_s34 s34.2.length c2_s34 rfl ((RdL.row 2 rfl) W2 hW2)) ?_
       rintro ⟨A41,n43,c42⟩ hn44
       replace hn44 : n43 = y39.length:=hn44; subst hn44
       refine oY rfl (ct [.pointer (some ⟨b38,0,none⟩)] rfl rfl) ?_
       obtain ⟨y46,hy47,h⟩:=bOs h
       refine fu 4 [.slice A41 y39.length c42,.func (.func 94) #[] #[.pointer (some ⟨b38,0,none⟩)]] (fun k : Nat => k = y46.length) (fun k => .slice A41 k c42) (fun k => aL A41 c42 3 1 k (encL cI y46)) (fun _ => []) rfl rfl go_93 rfl (fun W2 hW2 => (il y39 (fun x45 => gz x45 (rdL p1 s34.1)) y46 hy47 W2 _ (bB [ai b1 53 [.slice Aa p0.fB.length ca,.slice Ab p0.fR.length cb],aL none 0 3 1 0 (encL cI ([]:List Int)),aL A2_s34 c2_s34 3 1 s34.2.length (encL cI s34.2),ai b38 3 [vI (rdL p1 s34.1)],aL A41 c42 3 1 y39.length (encL cI y39)] [4]) A41 y39.length c42 rfl 94 [] [.pointer (some ⟨b38,0,none⟩)] go_94 (fun W3 hb hR x y hxy => mz  x (rdL p1 s34.1) y hxy W3 b38 ((RdL.cells 3 rfl) W3 (hW2.rest hb hR))) hW2).mono (fun e W3 h3 => h3)) ?_
       rintro k48 hn49
       subst hn49
       try dsimp only [lsz,lss,List.append_nil]
       refine oY rfl (yAS rfl) (oN (eT (cS (cR (oY rfl (yN 0 [.slice Aa p0.fB.length ca,.slice Ab p0.fR.length cb] dp rfl rfl rfl) (oY rfl (yMS rfl) ?_))))))
       obtain ⟨y50,hy51,h⟩:=bOs h
       refine oY rfl (yC [.agg #[.slice Aa p0.fB.length ca,.slice Ab p0.fR.length cb],.slice A41 y46.length c42] go_91 rfl (fun W2 hW2 => nJ p0 y46 y50 hy51 W2 Aa p0.fB.length ca rfl ((RdL.arg hr0_0) W2 hW2) Ab p0.fR.length cb rfl ((RdL.arg hr0_1) W2 hW2) A41 y46.length c42 rfl ((RdL.row 4 rfl) W2 hW2)) rfl) (oY rfl (bQ rfl) (oN (eT ?_)))
       rcases iOs h with ⟨hp52,h⟩ | ⟨hp52,h⟩
       ·refine cT (vB hp52) (cR (oY rfl (yMS rfl) (oY rfl (yAS rfl) (oN (aw (eT (cR (oY rfl (aT rfl rfl) (oY rfl (yMI rfl) (oN ?_))))))))))
        refine ex_mv 2 4 (by decide) rfl ?_
        try dsimp only [lsz,lss]
        refine aU 3 ?_
        obtain rfl:=sI h
        exact eN ⟨_,A41,c42,y46.length,rfl,rfl,(kp4 (kp (kp (kp rfl))))⟩
       ·refine cF (vB hp52) (cK (aw (eT (cR (oY rfl (aT rfl rfl) (oY rfl (yMI rfl) (oN (aU 3 ?_))))))))
        obtain rfl:=sI h
        exact eN ⟨_,A2_s34,c2_s34,s34.2.length,rfl,rfl,(kp4 (kp (kp (kp rfl))))⟩
      ·refine cF (vB hp36) (aH (ag ?_))
       obtain rfl:=sI h
       exact ax ⟨rfl,_,A2_s34,c2_s34,s34.2.length,rfl,rfl,(kp4 (kp (kp (kp rfl))))⟩
     ·intro e L tm hJ
      obtain ⟨rfl,tm0_u35,A2_u35,c2_u35,n2_u35,rfl,rfl,rfl⟩:=hJ
      refine ⟨(by intro hc; cases hc),?_⟩
      refine ac (eT (cS (cR (oY rfl (yMS rfl) (oY rfl (yAS rfl) (oY rfl (yAI rfl) (oN (eT (am ?_)))))))))
      obtain rfl:=sI h
      exact bI (.inl rfl) rfl (rVt (v:=.slice A2_u35 u35.2.length c2_u35) rfl) (rVt (v:=vI 0) rfl) (fun W2 hW2 => ⟨(A2_u35,u35.2.length,c2_u35),rfl,rfl,(hW2.pick 2 rfl)⟩)
theorem jk (p0:(List TBay)) (p1:Int) (p2:Int) (res:(List TBay)) (h:eh p0 p1 p2 = some res) (W:World) (w0:World) (R:Res) (Aa:Option Addr) (n0_0 ca : Nat) (hn0_0:n0_0 = p0.length) (hW:Ext w0 W [R,aL Aa ca 69 3 n0_0 (encL aG p0)]) :
  Calls Tryz.prog 141 [.slice Aa n0_0 ca,vI p1,vI p2].toArray W fun e W2 => ∃ k : Nat,k = res.length ∧ e = .returned (.slice Aa k ca) ∧ Ext w0 W2 [R,aL Aa ca 69 3 k (encL aG res)]:=by
 subst hn0_0
 unfold eh at h
 refine a8 (m:=33) Tryz.func141 rfl rfl (nB rfl) hW (cS (cR (oY rfl (yAS rfl) (oN (eT (cS (cR (oY rfl (yMS rfl) (oY rfl (yMI rfl) (oY rfl (yMI rfl) (oY rfl (yMS rfl) (oY rfl (bp (us:=[]) kg rfl) ?_))))))))))))
 obtain ⟨hg1,h⟩:=gOs h
 refine oY rfl (y_cut3 mF hg1.1 hg1.2.1 hg1.2.2.1 hg1.2.2.2 (RdL.row 1 rfl) rfl rfl rfl rfl) (oN (eT (cS (cS (cR (oY rfl (yMI rfl) (oY rfl (yMI rfl) (oY rfl (da rfl rfl) (oN (eT ?_))))))))))
 rcases iOs h with ⟨hp2,h⟩ | ⟨hp2,h⟩
 ·refine cT (vB hp2) (cS (cR (oY rfl (yMS rfl) (oY rfl (yAS rfl) (oN (eT (am (aa ?_))))))))
  obtain rfl:=sI h
  exact al (.inl rfl) rfl (rVt (v:=.slice Aa p0.length ca) rfl) (fun W2 hW2 => ⟨p0.length,rfl,rfl,hW2.take 2⟩)
 ·refine cF (vB hp2) (cK (eT (cS (cR (oY rfl (yMS rfl) (oY rfl (bp (us:=[]) kg rfl) (oY rfl (yAI rfl) (oN (eT (cS ?_))))))))))
  refine bh 6 cD (by kernel_rfl) (by kernel_rfl) ?_
  refine qY rfl (yMS rfl) (qY rfl (yMI rfl) ?_)
  obtain ⟨hg3,h⟩:=gOs h
  refine qY rfl (o9 mF hg3.1 hg3.2 (RdL.row 1 rfl) rfl rfl) (qY rfl (yMS rfl) (qY rfl (yMI rfl) ?_))
  obtain ⟨hg4,h⟩:=gOs h
  refine qY rfl (qS mF hg4.1 hg4.2 (RdL.row 1 rfl) rfl rfl) (cd ?_)
  obtain ⟨hg5,h⟩:=gOs h
  refine mP 1 aK li kg oK by_69 rfl rfl hg3.1 hg5 hg4.2 rfl rfl rfl (oY rfl (yAS rfl) (oN (eT (cS (cR (oY rfl (yMS rfl) (oY rfl (yMS rfl) (oY rfl (bp (us:=[]) kg rfl) (oY rfl (yMI rfl) ?_)))))))))
  refine oY rfl (y_cutO mF (by omega) (by have h8:=(lZ hg3.1 hg5 hg4.2); omega) (by have h9:=(eO (hW.mem (i:=1) rfl)).cap; omega) rfl rfl rfl) ?_
  refine cr rfl (rK 1 kg oK rfl (by decide) rfl rfl (by have h8:=(lZ hg3.1 hg5 hg4.2); have h9:=(eO (hW.mem (i:=1) rfl)).cap; simp only [Int.toNat_natCast]; omega) rfl) ?_
  refine oN (eT (cS (cR (oY rfl (yMS rfl) (oY rfl (yAS rfl) (oN (eT (am ?_))))))))
  obtain rfl:=sI h
  exact al (.inl rfl) rfl (rVt (v:=.slice Aa (Int.toNat p1 + (p0.length - Int.toNat p2)) ca) rfl) (fun W2 hW2 => ⟨(Int.toNat p1 + (p0.length - Int.toNat p2)),(pb hg3.1 hg5 hg4.2 rfl),rfl,hW2.take 2⟩)
theorem jL (p0:(List TBay)) (res:(List TBay)) (h:fb p0 = some res) (W:World) (Aa:Option Addr) (n0_0 ca : Nat) (hn0_0:n0_0 = p0.length) (hr0_0:Rd W Aa n0_0 ca (encL aG p0)) :
  Calls Tryz.prog 142 [.slice Aa n0_0 ca].toArray W fun e W2 => ∃ x : Option Addr × Nat × Nat,x.2.1 = res.length ∧ e = .returned (.slice x.1 x.2.1 x.2.2) ∧ Ext W W2 [aL x.1 x.2.2 69 3 x.2.1 (encL aG res)]:=by
 subst hn0_0
 unfold fb at h
 refine ae (m:=8) Tryz.func142 rfl rfl (nB rfl) (cS (cR (oY rfl (yAS rfl) (oN (eT (cS (cS (cR (oY rfl (yMS rfl) (oY rfl (qe kg rfl rfl) (oN (eT ?_))))))))))))
 rcases ao (Option.isNone Aa) with hp1 | hp1
 ·refine cT (vB hp1) ?_
  have z6:=pO (Option.isNone_iff_eq_none.1 hp1 ▸ hr0_0) aK (by decide)
  replace h:=(gOs h).2
  rw [z6] at h
  refine cS (cR (oY rfl (yAS rfl) (oN (eT (am (aa ?_))))))
  obtain rfl:=sI h
  exact al (.inl rfl) rfl (rVt (v:=.slice none 0 0) rfl) (fun W2 hW2 => ⟨(none,0,0),rfl,rfl,((hW2.nilrow 69 3).pick 0 rfl)⟩)
 ·refine cF (vB hp1) (cK (eT (cS (cR ?_))))
  refine dZ aG kg oK by_69 rfl (fun b2 => ?_)
  refine oY rfl (yMS rfl) ?_
  obtain ⟨hg5,h⟩:=gOs h
  refine bE 0 kg oK by_69 rfl rfl rfl (RdL.arg hr0_0) (eL aK rfl) (cv li _) (cA hg5 (by decide)) rfl (fun A3 c4 => ?_)
  refine oY rfl (yAS rfl) (oN (eT (am ?_)))
  obtain rfl:=sI h
  exact al (.inl rfl) rfl (rVt (v:=.slice A3 (0 + p0.length) c4) rfl) (fun W2 hW2 => ⟨(A3,(0 + p0.length),c4),(gb rfl rfl),rfl,(hW2.pick 0 rfl)⟩)
theorem kE (p0:TY) (p1:Int) (res:TY) (h:iX p0 p1 = some res) (W:World) (Aa:Option Addr) (n0_0 ca : Nat) (hn0_0:n0_0 = p0.fB.length) (hr0_0:Rd W Aa n0_0 ca (encL aG p0.fB)) (Ab:Option Addr) (n0_1 cb : Nat) (hn0_1:n0_1 = p0.fR.length) (hr0_1:Rd W Ab n0_1 cb (encL aB p0.fR)) :
  Calls Tryz.prog 97 [.agg #[.slice Aa n0_0 ca,.slice Ab n0_1 cb],vI p1].toArray W fun e W2 => ∃ x : (Option Addr × Nat × Nat),x.2.1 = res.fB.length ∧ e = .returned (.agg #[.slice x.1 x.2.1 x.2.2,.slice Ab n0_1 cb]) ∧ Ext W W2 [aL x.1 x.2.2 69 3 x.2.1 (encL aG res.fB)]:=by
 subst hn0_0
 subst hn0_1
 unfold iX at h
 refine ae (m:=15) Tryz.func97 rfl rfl (nB rfl) (cS (cR ?_))
 refine aW [.slice Aa p0.fB.length ca,.slice Ab p0.fR.length cb] rfl rfl rfl (fun b1 => ?_)
 refine aE q9 rfl (fun b2 => ?_)
 refine oN (eT (cS ?_))
 obtain ⟨y4,hy5,h⟩:=bOs h
 obtain ⟨y10,hy11,h⟩:=bOs h
 refine eF [[],[0],[0,1],[],[],[4],[0,1,2,3,4,5],[],[7],[0,1,2,3,4,5,6,7,8],[0,1,2,3,4,5,6,7,8,9]] [(none,0,[true,true]),(none,0,[true,true]),(none,1,[true,true]),(none,0,[true,true,false]),(none,0,[true,true,false]),(none,0,[true,true,false]),(some 2,0,[true,true,true]),(none,0,[true,true,false]),(none,0,[true,true,false]),(none,0,[true,true,true]),(some 1,0,[true,true,true])] [⟨fun _ => .pointer (some ⟨b1,0 + 0,none⟩),fun _ => noR,fun _ => []⟩,⟨fun _ => .slice Aa p0.fB.length ca,fun _ => noR,fun _ => []⟩,⟨fun ξ3 => .slice (ξ3 2 0).1 y4.length (ξ3 2 0).2.2.1,fun _ => noR,fun ξ3 => [aL (ξ3 2 0).1 (ξ3 2 0).2.2.1 69 3 y4.length (encL aG y4)]⟩,⟨fun _ => vI p1,fun _ => noR,fun _ => []⟩,⟨fun _ => vI p1,fun _ => noR,fun _ => []⟩,⟨fun _ => vI (w64 (p1 + 1)),fun _ => noR,fun _ => []⟩,⟨fun ξ3 => .slice (ξ3 2 0).1 y10.length (ξ3 2 0).2.2.1,fun ξ3 => aL (ξ3 2 0).1 (ξ3 2 0).2.2.1 69 3 y10.length (encL aG y10),fun _ => []⟩,⟨fun _ => .pointer (some ⟨b1,0 + 1,none⟩),fun _ => noR,fun _ => []⟩,⟨fun _ => .slice Ab p0.fR.length cb,fun _ => noR,fun _ => []⟩,⟨fun ξ3 => .agg #[.slice (ξ3 2 0).1 y10.length (ξ3 2 0).2.2.1,.slice Ab p0.fR.length cb],fun _ => noR,fun _ => []⟩,⟨fun _ => undef,fun ξ3 => ai b2 53 [.slice (ξ3 2 0).1 y10.length (ξ3 2 0).2.2.1,.slice Ab p0.fR.length cb],fun _ => []⟩] 2 cD (by kernel_rfl) (by kernel_rfl) ⟨⟨fun ξ3 ξ3' h => ⟨rfl,rfl,rfl⟩,fun _ => rfl⟩,⟨fun ξ3 ξ3' h => ⟨rfl,rfl,rfl⟩,fun _ => rfl⟩,⟨fun ξ3 ξ3' h => ⟨by simp only [h 2 (.inl rfl)],rfl,by simp only [h 2 (.inl rfl)]⟩,fun _ => rfl⟩,⟨fun ξ3 ξ3' h => ⟨rfl,rfl,rfl⟩,fun _ => rfl⟩,⟨fun ξ3 ξ3' h => ⟨rfl,rfl,rfl⟩,fun _ => rfl⟩,⟨fun ξ3 ξ3' h => ⟨rfl,rfl,rfl⟩,fun _ => rfl⟩,⟨fun ξ3 ξ3' h => ⟨by simp only [h 2 (.inr rfl)],by simp only [h 2 (.inr rfl)],rfl⟩,fun _ => rfl⟩,⟨fun ξ3 ξ3' h => ⟨rfl,rfl,rfl⟩,fun _ => rfl⟩,⟨fun ξ3 ξ3' h => ⟨rfl,rfl,rfl⟩,fun _ => rfl⟩,⟨fun ξ3 ξ3' h => ⟨by simp only [h 2 (.inr rfl)],rfl,rfl⟩,fun _ => rfl⟩,⟨fun ξ3 ξ3' h => ⟨rfl,by simp only [h 2 (.inr rfl)],rfl⟩,fun _ => rfl⟩,trivial⟩ rfl (fun ξ3 => ?_)
 refine bN rfl (fun L2 => ?_) ?_
 ·dsimp only [aF,lca,lna]
  refine oY rfl (yFA eM rfl) (oN ?_)
  exact ap (fun _ => (none,0,0,[],noR)) rfl (List.append_nil _)
 dsimp only [bx,lsz,lss,lna,lca,List.append_nil]
 refine bN rfl (fun L2 => ?_) ?_
 ·dsimp only [aF,lca,lna]
  refine oY rfl (yL 0 ky rfl rfl rfl) (oN ?_)
  exact ap (fun _ => (none,0,0,[],noR)) rfl (List.append_nil _)
 dsimp only [bx,lsz,lss,lna,lca,List.append_nil]
 refine bN rfl (fun L2 => ?_) ?_
 ·dsimp only [aF,lca,lna]
  refine oC [.slice Aa p0.fB.length ca] _ _ _ rfl go_142 rfl (fun W2 hW2 => jL p0.fB y4 hy5 W2 Aa p0.fB.length ca rfl ((RdL.arg hr0_0) W2 hW2)) ?_
  rintro ⟨A6,n8,c7⟩ hn9
  replace hn9 : n8 = y4.length:=hn9; subst hn9
  refine oN ?_
  exact ap (fun _ => (A6,0,c7,[],noR)) rfl rfl
 dsimp only [bx,lsz,lss,lna,lca,List.append_nil]
 refine bN rfl (fun L2 => ?_) ?_
 ·dsimp only [aF,lca,lna]
  refine oY rfl (yMI rfl) (oN ?_)
  exact ap (fun _ => (none,0,0,[],noR)) rfl (List.append_nil _)
 dsimp only [bx,lsz,lss,lna,lca,List.append_nil]
 refine bN rfl (fun L2 => ?_) ?_
 ·dsimp only [aF,lca,lna]
  refine oY rfl (yMI rfl) (oN ?_)
  exact ap (fun _ => (none,0,0,[],noR)) rfl (List.append_nil _)
 dsimp only [bx,lsz,lss,lna,lca,List.append_nil]
 refine bN rfl (fun L2 => ?_) ?_
 ·dsimp only [aF,lca,lna]
  refine oY rfl (aT rfl rfl) (oN ?_)
  exact ap (fun _ => (none,0,0,[],noR)) rfl (List.append_nil _)
 dsimp only [bx,lsz,lss,lna,lca,List.append_nil]
 refine bN rfl (fun L2 => ?_) ?_
 ·dsimp only [aF,lca,lna]
  refine fu 2 [.slice (ξ3 2 0).1 y4.length (ξ3 2 0).2.2.1,vI p1,vI (w64 (p1 + 1))] (fun k : Nat => k = y10.length) (fun k => .slice (ξ3 2 0).1 k (ξ3 2 0).2.2.1) (fun k => aL (ξ3 2 0).1 (ξ3 2 0).2.2.1 69 3 k (encL aG y10)) (fun _ => []) rfl rfl go_141 rfl (fun W2 hW2 => (jk y4 p1 (w64 (p1 + 1)) y10 hy11 W2 _ _ (ξ3 2 0).1 y4.length (ξ3 2 0).2.2.1 rfl hW2).mono (fun e W3 h3 => h3)) ?_
  rintro k12 hn13
  subst hn13
  try dsimp only [lsz,lss,List.append_nil]
  refine oN ?_
  first | exact ap (fun _ => (none,0,0,[],noR)) rfl rfl | exact ap (fun _ => (none,0,0,[],noR)) rfl (List.append_nil _)
 dsimp only [bx,lsz,lss,lna,lca,List.append_nil]
 refine bN rfl (fun L2 => ?_) ?_
 ·dsimp only [aF,lca,lna]
  refine oY rfl (yFA cn rfl) (oN ?_)
  exact ap (fun _ => (none,0,0,[],noR)) rfl (List.append_nil _)
 dsimp only [bx,lsz,lss,lna,lca,List.append_nil]
 refine bN rfl (fun L2 => ?_) ?_
 ·dsimp only [aF,lca,lna]
  refine oY rfl (yL 0 gP rfl rfl rfl) (oN ?_)
  exact ap (fun _ => (none,0,0,[],noR)) rfl (List.append_nil _)
 dsimp only [bx,lsz,lss,lna,lca,List.append_nil]
 refine bN rfl (fun L2 => ?_) ?_
 ·dsimp only [aF,lca,lna]
  refine oY rfl (aY [.slice (ξ3 2 0).1 y10.length (ξ3 2 0).2.2.1,.slice Ab p0.fR.length cb] [(0,1),(1,1)] ust_53 q9 (by kernel_rfl)) ?_
  refine oN ?_
  exact ap (fun _ => (none,0,0,[],noR)) rfl (List.append_nil _)
 dsimp only [bx,lsz,lss,lna,lca,List.append_nil]
 refine tr rfl (fun L2 => ?_) ?_
 ·dsimp only [aF,lca,lna]
  refine cr rfl (yS 1 [.slice (ξ3 2 0).1 y10.length (ξ3 2 0).2.2.1,.slice Ab p0.fR.length cb] sz_53 rfl (nB rfl) rfl rfl rfl) (oN ?_)
  first | exact bP (fun _ => (none,0,0,[],noR)) rfl | exact bP (fun _ => (none,0,0,[],noR)) (List.append_nil _)
 dsimp only [bx,lsz,lss,lna,lca,List.append_nil]
 refine kx (eT (am ?_))
 obtain rfl:=sI h
 exact al (.inl rfl) rfl (bz 1 [.slice (ξ3 2 0).1 y10.length (ξ3 2 0).2.2.1,.slice Ab p0.fR.length cb] dp rfl rfl rfl) (fun W2 hW2 => ⟨((ξ3 2 0).1,y10.length,(ξ3 2 0).2.2.1),rfl,rfl,hW2.pickL [2] (by decide) rfl⟩)
theorem qD (p0:TY) (p1:Int) (res:(Int × Int)) (h:nX p0 p1 = some res) (W:World) (Aa:Option Addr) (n0_0 ca : Nat) (hn0_0:n0_0 = p0.fB.length) (hr0_0:Rd W Aa n0_0 ca (encL aG p0.fB)) (Ab:Option Addr) (n0_1 cb : Nat) (hn0_1:n0_1 = p0.fR.length) (hr0_1:Rd W Ab n0_1 cb (encL aB p0.fR)) :
  Calls Tryz.prog 33 [.agg #[.slice Aa n0_0 ca,.slice Ab n0_1 cb],vI p1].toArray W fun e W2 => e = .returned (.tuple #[vI res.1,vI res.2]) ∧ Ext W W2 []:=by
 subst hn0_0
 subst hn0_1
 unfold nX at h
 refine ae (m:=25) Tryz.func33 rfl rfl (nB rfl) (cS (cR ?_))
 refine aW [.slice Aa p0.fB.length ca,.slice Ab p0.fR.length cb] rfl rfl rfl (fun b1 => ?_)
 refine oY rfl (yAI rfl) (oY rfl (yAI rfl) (oN (eT (cS (cS (cR (oY rfl (yN 0 [.slice Aa p0.fB.length ca,.slice Ab p0.fR.length cb] dp rfl rfl rfl) ?_)))))))
 obtain ⟨y2,hy3,h⟩:=bOs h
 refine oY rfl (yC [.agg #[.slice Aa p0.fB.length ca,.slice Ab p0.fR.length cb]] go_45 rfl (fun W2 hW2 => dv p0 y2 hy3 W2 Aa p0.fB.length ca rfl ((RdL.arg hr0_0) W2 hW2) Ab p0.fR.length cb rfl ((RdL.arg hr0_1) W2 hW2)) rfl) (oY rfl (yAI rfl) (oN (eT (cS (cR (oY rfl (yMI rfl) (oY rfl (dl rfl rfl) (oN (eT ?_)))))))))
 rcases iOs h with ⟨hp4,h⟩ | ⟨hp4,h⟩
 ·refine cT (vB hp4) (cS (cR (oY rfl (yMI rfl) (oY rfl (yAI rfl) (oY rfl (yAI rfl) (oN (eT (am (aa ?_)))))))))
  obtain rfl:=sI h
  exact bI (.inl rfl) rfl (rVt (v:=vI 0) rfl) (rVt (v:=vI y2) rfl) (fun W2 hW2 => ⟨rfl,hW2.none⟩)
 ·refine cF (vB hp4) (cK (eT (cS (cR (oY rfl (yN 0 [.slice Aa p0.fB.length ca,.slice Ab p0.fR.length cb] dp rfl rfl rfl) (oY rfl (yMI rfl) ?_))))))
  obtain ⟨y5,hy6,h⟩:=bOs h
  refine oY rfl (yC [.agg #[.slice Aa p0.fB.length ca,.slice Ab p0.fR.length cb],vI p1] go_96 rfl (fun W2 hW2 => ny p0 p1 y5 hy6 W2 Aa p0.fB.length ca rfl ((RdL.arg hr0_0) W2 hW2) Ab p0.fR.length cb rfl ((RdL.arg hr0_1) W2 hW2)) rfl) (oY rfl (yAI rfl) (oN (eT (cS (cS (cR (oY rfl (yMI rfl) (oY rfl (bj rfl rfl) (oN (eT ?_))))))))))
  rcases iOs h with ⟨hp7,h⟩ | ⟨hp7,h⟩
  ·refine cT (vB hp7) (cS (cR (oY rfl (yAI rfl) (oY rfl (yAI rfl) (oN (eT (am (aa ?_))))))))
   obtain rfl:=sI h
   exact bI (.inl rfl) rfl (rVt (v:=vI 0) rfl) (rVt (v:=vI 5) rfl) (fun W2 hW2 => ⟨rfl,hW2.none⟩)
  ·refine cF (vB hp7) (cK (eT (cS ?_)))
   refine bh 4 cD (by kernel_rfl) (by kernel_rfl) ?_
   refine qY rfl (yN 0 [.slice Aa p0.fB.length ca,.slice Ab p0.fR.length cb] dp rfl rfl rfl) ?_
   obtain ⟨y8,hy9,h⟩:=bOs h
   refine qY rfl (yC [.agg #[.slice Aa p0.fB.length ca,.slice Ab p0.fR.length cb]] sP rfl (fun W2 hW2 => eQ p0 y8 hy9 W2 Aa p0.fB.length ca rfl ((RdL.arg hr0_0) W2 hW2) Ab p0.fR.length cb rfl ((RdL.arg hr0_1) W2 hW2)) rfl) (qY rfl (yN 0 [.slice Aa p0.fB.length ca,.slice Ab p0.fR.length cb] dp rfl rfl rfl) (qY rfl (yMI rfl) (cd ?_)))
   obtain ⟨y10,hy11,h⟩:=bOs h
   refine oC [.agg #[.slice Aa p0.fB.length ca,.slice Ab p0.fR.length cb],vI y5] _ _ _ rfl go_97 rfl (fun W2 hW2 => kE p0 y5 y10 hy11 W2 Aa p0.fB.length ca rfl ((RdL.arg hr0_0) W2 hW2) Ab p0.fR.length cb rfl ((RdL.arg hr0_1) W2 hW2)) ?_
   rintro ⟨A16,n18,c17⟩ hn19
   replace hn19 : n18 = y10.fB.length:=hn19; subst hn19
   obtain ⟨y20,hy21,h⟩:=bOs h
   refine oY rfl (yC [.agg #[.slice A16 y10.fB.length c17,.slice Ab p0.fR.length cb]] sP rfl (fun W2 hW2 => eQ (TY.mk y10.fB p0.fR) y20 hy21 W2 A16 y10.fB.length c17 rfl ((RdL.row 1 rfl) W2 hW2) Ab p0.fR.length cb rfl ((RdL.arg hr0_1) W2 hW2)) rfl) (oY rfl (eH rfl rfl) (oY rfl (yAI rfl) (oY rfl (yAI rfl) (oN (eT (am ?_))))))
   obtain rfl:=sI h
   exact bI (.inl rfl) rfl (rVt (v:=vI (w64 (y8 - y20))) rfl) (rVt (v:=vI 0) rfl) (fun W2 hW2 => ⟨rfl,hW2.none⟩)
end Go.Proofs.YthndghnkebboaaaGreat
