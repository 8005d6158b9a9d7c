import Derived.Test.YthndghnkebboaaaGreatF
import Derived.Test.YthndghnkebboaaaGreatGk
import Derived.Test.YthndghnkebboaaaGreatGC
import Derived.Test.YthndghnkebboaaaGreatC0
import Derived.Test.YthndghnkebboaaaGreatC2
set_option maxHeartbeats 4000000
set_option maxRecDepth 100000
set_option linter.unusedVariables false
namespace Go.Proofs.YthndghnkebboaaaGreat
open Go.RowKit (Below)
attribute [local irreducible] OX QX CX EX OpY Calls CallsIn
theorem cd (p0:TY) (res:Int) (h:bF p0 = some res) (W:World) (Aa:Option Addr) (n0_0 ca : Nat) (hn0_0:n0_0 = p0.fB.length) (hr0_0:Rd W Aa n0_0 ca (ap TBay_cells p0.fB)) (Ab:Option Addr) (n0_1 cb : Nat) (hn0_1:n0_1 = p0.fR.length) (hr0_1:Rd W Ab n0_1 cb (ap TOrder_cells p0.fR)) :
  Calls Tryz.prog 45 [.agg #[.slice Aa n0_0 ca,.slice Ab n0_1 cb]].toArray W fun e W2 => e = .returned (vI res) ∧ Ext W W2 []:=by
 subst hn0_0
 subst hn0_1
 unfold bF at h
 refine ab (m:=102) Tryz.func45 rfl rfl (nB rfl) (cS (cR ?_))
 refine aO [.slice Aa p0.fB.length ca,.slice Ab p0.fR.length cb] rfl rfl rfl (fun b1 => ?_)
 refine oY rfl (yAI rfl) (oN (eT (cS (cS (cR (oY rfl (yFA cq rfl) (oY rfl (yL 0 gz rfl rfl rfl) (oY rfl (bi (us:=[]) ib rfl) (oY rfl (iB rfl rfl) (oY rfl (yMB rfl) ?_))))))))))
 refine oJ 5 (fun tm0 => (upd (upd (upd tm0 1 (.pointer (some ⟨b1,0,none⟩))) 2 (vI 0)) 16 (.bool ((decide (24 < (p0.fB.length:Int))) || (decide (24 < (p0.fR.length:Int))))))) (fun tm0 => ?_) (fun key => ?_)
 ·refine oN (eT ?_)
  rcases iOs h with ⟨hp3,h⟩ | ⟨hp3,h⟩
  ·refine cT (vB hp3) (cS (cR (oY rfl (yAI rfl) (oN (eT (ak (aa ?_)))))))
   obtain rfl:=sI h
   exact al (.inl rfl) rfl (rVt (v:=vI 2) rfl) (fun W2 hW2 => ⟨rfl,hW2.none⟩)
  ·refine cF (vB hp3) (cK (eT (cS (cS (cR (oY rfl (yFA cq rfl) (oY rfl (yL 0 gz rfl rfl rfl) (oY rfl (bi (us:=[]) ib rfl) (oY rfl (yMI rfl) (oN (eT (cB ?_))))))))))))
   obtain ⟨u6,hl26,h⟩:=bOs h
   refine bS (fun (s:(Int × Int)) L tm => ∃ (tm0:Nat → Value),L = [ac b1 53 [.slice Aa p0.fB.length ca,.slice Ab p0.fR.length cb]] ∧ tm = (upd (upd (upd (upd (upd tm0 1 (.pointer (some ⟨b1,0,none⟩))) 2 (vI s.1)) 18 (.slice Aa p0.fB.length ca)) 19 (vI (p0.fB.length:Int))) 20 (vI s.2))) 0 hl26 ⟨_,rfl,(kp4 (kp rfl))⟩ ?_ ?_
   ·rintro s5 L tm st ⟨tm0_s5,rfl,rfl⟩ h
    unfold dv at h
    refine cS (cR (oY rfl (bC rfl rfl) (oN (eT (cS ?_)))))
    rcases iOs h with ⟨hp7,h⟩ | ⟨hp7,h⟩
    ·refine cT (vB hp7) (cK (eT (cS (cB (cS (cR (oY rfl (yMI rfl) ?_)))))))
     obtain ⟨hg8,h⟩:=gOs h
     refine oY rfl (yI kw (by decide) hg8.1 hg8.2 (RdL.arg hr0_0) (eL aE rfl) rfl rfl) ?_
     refine oY rfl (yM (A:=Aa) (j:=(Int.toNat s5.2 * 3)) [vI ((rdL p0.fB s5.2).fID),vI ((rdL p0.fB s5.2).fHour),vI ((rdL p0.fB s5.2).fD)] pk (Nat.succ_pos _) (RdL.arg hr0_0) rfl (bg aE hg8.1 (aw hg8.2 rfl))) ?_
     refine ay nu rfl (fun b9 => ?_)
     refine oY rfl (yAI rfl) (cv rfl (yS 1 [vI ((rdL p0.fB s5.2).fID),vI ((rdL p0.fB s5.2).fHour),vI ((rdL p0.fB s5.2).fD)] sz_69 rfl (nB rfl) rfl rfl rfl) (oN (eT (cS (cS (cR (oY rfl (yFA jD rfl) (oY rfl (yL 1 ba rfl rfl rfl) ?_))))))))
     obtain ⟨y10,hy11,h⟩:=bOs h
     refine oY rfl (yC [vI ((rdL p0.fB s5.2).fID),vI 1,vI 1099511627776] gv rfl (fun W2 hW2 => aW ((rdL p0.fB s5.2).fID) 1 1099511627776 y10 hy11 W2 ) rfl) (oY rfl (cj rfl) (oY rfl (yMB rfl) ?_))
     obtain ⟨b13,hb14,h⟩:=bOs h
     refine oJ 5 (fun tm0 => (upd (upd (upd (upd (upd (upd (upd (upd (upd tm0 1 (.pointer (some ⟨b1,0,none⟩))) 2 (vI s5.1)) 18 (.slice Aa p0.fB.length ca)) 19 (vI (p0.fB.length:Int))) 20 (vI s5.2)) 21 (.bool (decide (s5.2 < (p0.fB.length:Int))))) 4 (.pointer (some ⟨b9,0,none⟩))) 3 (vI s5.2)) 34 (.bool b13))) (fun tm0 => ?_) (fun key => ?_)
     ·refine oY rfl (yMB rfl) ?_
      obtain ⟨b16,hb17,h⟩:=bOs h
      refine oJ 5 (fun tm0 => (upd (upd (upd (upd (upd (upd (upd (upd (upd tm0 1 (.pointer (some ⟨b1,0,none⟩))) 2 (vI s5.1)) 18 (.slice Aa p0.fB.length ca)) 19 (vI (p0.fB.length:Int))) 20 (vI s5.2)) 21 (.bool (decide (s5.2 < (p0.fB.length:Int))))) 4 (.pointer (some ⟨b9,0,none⟩))) 3 (vI s5.2)) 40 (.bool b16))) (fun tm0 => ?_) (fun key => ?_)
      ·refine oN (eT ?_)
       rcases iOs h with ⟨hp18,h⟩ | ⟨hp18,h⟩
       ·refine cT (vB hp18) (cS (cR (oY rfl (yAI rfl) (oN (eT (ak (aa (aj (aa (aP 1 ?_))))))))))
        obtain rfl:=sI h
        exact ax ⟨rfl,_,rfl,(kp4 (kp rfl))⟩
       ·refine cF (vB hp18) (cK (eT (cS (cR (oY rfl (yN 0 [.slice Aa p0.fB.length ca,.slice Ab p0.fR.length cb] bO rfl rfl rfl) (oY rfl (yFA jD rfl) (oY rfl (yL 1 ba rfl rfl rfl) ?_)))))))
        obtain ⟨y19,hy20,h⟩:=bOs h
        refine oY rfl (yC [.agg #[.slice Aa p0.fB.length ca,.slice Ab p0.fR.length cb],vI ((rdL p0.fB s5.2).fID)] go_96 rfl (fun W2 hW2 => jd p0 ((rdL p0.fB s5.2).fID) y19 hy20 W2 Aa p0.fB.length ca rfl ((RdL.arg hr0_0) W2 hW2) Ab p0.fR.length cb rfl ((RdL.arg hr0_1) W2 hW2)) rfl) (oY rfl (yMI rfl) (oY rfl (bC rfl rfl) (oN (eT ?_))))
        rcases iOs h with ⟨hp21,h⟩ | ⟨hp21,h⟩
        ·refine cT (vB hp21) (cS (cR (oY rfl (yAI rfl) (oN (eT (ak (aj (aa (aP 1 ?_)))))))))
         obtain rfl:=sI h
         exact ax ⟨rfl,_,rfl,(kp4 (kp rfl))⟩
        ·refine cF (vB hp21) (cK (av (eT (cR (oY rfl (a4 rfl rfl) (oY rfl (yMI rfl) (oN (aP 1 ?_))))))))
         obtain rfl:=sI h
         exact eN ⟨_,rfl,(kp4 (kp rfl))⟩
      ·clear h; rcases iOs hb17 with ⟨hp15,h⟩ | ⟨hp15,h⟩
       ·refine oSk (sF rfl rfl rfl rfl hp15) (oSk (sF rfl rfl rfl rfl hp15) (oSk (sF rfl rfl rfl rfl hp15) (oSk (sF rfl rfl rfl rfl hp15) (oY rfl (ag (vB hp15) rfl) ?_))))
        obtain rfl:=sI h
        exact key _ _ (kp4 (kp4 (kp rfl)))
       ·refine oY (sT rfl rfl rfl rfl hp15) (yFA ol rfl) (oY (sT rfl rfl rfl rfl hp15) (yL 1 ba rfl rfl rfl) ?_)
        obtain ⟨y22,hy23,h⟩:=bOs h
        refine oY (sT rfl rfl rfl rfl hp15) (yC [vI ((rdL p0.fB s5.2).fD),vI 0,vI 9] gv rfl (fun W2 hW2 => aW ((rdL p0.fB s5.2).fD) 0 9 y22 hy23 W2 ) rfl) (oY (sT rfl rfl rfl rfl hp15) (cj rfl) (oY rfl (ah (vB hp15) rfl) ?_))
        obtain rfl:=sI h
        exact key _ _ (kp4 (kp4 (kp rfl)))
     ·clear h; rcases iOs hb14 with ⟨hp12,h⟩ | ⟨hp12,h⟩
      ·refine oSk (sF rfl rfl rfl rfl hp12) (oSk (sF rfl rfl rfl rfl hp12) (oSk (sF rfl rfl rfl rfl hp12) (oSk (sF rfl rfl rfl rfl hp12) (oY rfl (ag (vB hp12) rfl) ?_))))
       obtain rfl:=sI h
       exact key _ _ (kp4 (kp4 (kp rfl)))
      ·refine oY (sT rfl rfl rfl rfl hp12) (yFA ob rfl) (oY (sT rfl rfl rfl rfl hp12) (yL 1 ba rfl rfl rfl) ?_)
       obtain ⟨y24,hy25,h⟩:=bOs h
       refine oY (sT rfl rfl rfl rfl hp12) (yC [vI ((rdL p0.fB s5.2).fHour)] nz rfl (fun W2 hW2 => ee ((rdL p0.fB s5.2).fHour) y24 hy25 W2 ) rfl) (oY (sT rfl rfl rfl rfl hp12) (cj rfl) (oY rfl (ah (vB hp12) rfl) ?_))
       obtain rfl:=sI h
       exact key _ _ (kp4 (kp4 (kp rfl)))
    ·refine cF (vB hp7) (aF (ai ?_))
     obtain rfl:=sI h
     exact ax ⟨rfl,_,rfl,(kp4 (kp rfl))⟩
   ·intro e L tm hJ
    rcases u6 with u27 | u28
    ·dsimp only at h hJ
     obtain ⟨rfl,tm0_u27,rfl,rfl⟩:=hJ
     refine ⟨(by intro hc; cases hc),?_⟩
     refine aj (aa ?_)
     obtain rfl:=sI h
     exact al (.inl rfl) rfl (rVt (v:=vI u27.1) rfl) (fun W2 hW2 => ⟨rfl,hW2.none⟩)
    ·dsimp only at h hJ
     obtain ⟨rfl,tm0_u28,rfl,rfl⟩:=hJ
     refine ⟨(by intro hc; cases hc),?_⟩
     refine ad (eT (cS (cS (cR (oY rfl (yFA bq rfl) (oY rfl (yL 0 dT rfl rfl rfl) (oY rfl (bi (us:=[]) fI rfl) (oY rfl (yMI rfl) (oN (eT (cB ?_)))))))))))
     obtain ⟨u31,hl62,h⟩:=bOs h
     refine bS (fun (s:(Int × Int)) L tm => ∃ (tm0:Nat → Value),L = [ac b1 53 [.slice Aa p0.fB.length ca,.slice Ab p0.fR.length cb]] ∧ tm = (upd (upd (upd (upd (upd tm0 1 (.pointer (some ⟨b1,0,none⟩))) 2 (vI s.1)) 49 (.slice Ab p0.fR.length cb)) 50 (vI (p0.fR.length:Int))) 51 (vI s.2))) 2 hl62 ⟨_,rfl,(kp4 (kp rfl))⟩ ?_ ?_
     ·rintro s30 L tm st ⟨tm0_s30,rfl,rfl⟩ h
      unfold dB at h
      refine cS (cR (oY rfl (bC rfl rfl) (oN (eT (cS ?_)))))
      rcases iOs h with ⟨hp32,h⟩ | ⟨hp32,h⟩
      ·refine cT (vB hp32) (cK (eT (cS (cB (cS (cR (oY rfl (yMI rfl) ?_)))))))
       obtain ⟨hg33,h⟩:=gOs h
       refine oY rfl (yI iK (by decide) hg33.1 hg33.2 (RdL.arg hr0_1) (eL ae rfl) rfl rfl) ?_
       refine oY rfl (yM (A:=Ab) (j:=(Int.toNat s30.2 * 5)) [vI ((rdL p0.fR s30.2).fID),vI ((rdL p0.fR s30.2).fH.fLo),vI ((rdL p0.fR s30.2).fH.fHi),vI ((rdL p0.fR s30.2).fD),vI ((rdL p0.fR s30.2).fW)] jl (Nat.succ_pos _) (RdL.arg hr0_1) rfl (bg ae hg33.1 (aw hg33.2 rfl))) ?_
       refine ay jN rfl (fun b34 => ?_)
       refine oY rfl (yAI rfl) (cv rfl (yS 1 [vI ((rdL p0.fR s30.2).fID),vI ((rdL p0.fR s30.2).fH.fLo),vI ((rdL p0.fR s30.2).fH.fHi),vI ((rdL p0.fR s30.2).fD),vI ((rdL p0.fR s30.2).fW)] r3 rfl (nB rfl) rfl rfl rfl) (oN (eT (cS (cS (cR (oY rfl (yFA jB rfl) (oY rfl (yL 1 ba rfl rfl rfl) ?_))))))))
       obtain ⟨y35,hy36,h⟩:=bOs h
       refine oY rfl (yC [vI ((rdL p0.fR s30.2).fID),vI 1,vI 1099511627776] gv rfl (fun W2 hW2 => aW ((rdL p0.fR s30.2).fID) 1 1099511627776 y35 hy36 W2 ) rfl) (oY rfl (cj rfl) (oY rfl (yMB rfl) ?_))
       obtain ⟨b38,hb39,h⟩:=bOs h
       refine oJ 6 (fun tm0 => (upd (upd (upd (upd (upd (upd (upd (upd (upd tm0 1 (.pointer (some ⟨b1,0,none⟩))) 2 (vI s30.1)) 49 (.slice Ab p0.fR.length cb)) 50 (vI (p0.fR.length:Int))) 51 (vI s30.2)) 52 (.bool (decide (s30.2 < (p0.fR.length:Int))))) 6 (.pointer (some ⟨b34,0,none⟩))) 5 (vI s30.2)) 66 (.bool b38))) (fun tm0 => ?_) (fun key => ?_)
       ·refine oY rfl (yMB rfl) ?_
        obtain ⟨b41,hb42,h⟩:=bOs h
        refine oJ 6 (fun tm0 => (upd (upd (upd (upd (upd (upd (upd (upd (upd tm0 1 (.pointer (some ⟨b1,0,none⟩))) 2 (vI s30.1)) 49 (.slice Ab p0.fR.length cb)) 50 (vI (p0.fR.length:Int))) 51 (vI s30.2)) 52 (.bool (decide (s30.2 < (p0.fR.length:Int))))) 6 (.pointer (some ⟨b34,0,none⟩))) 5 (vI s30.2)) 73 (.bool b41))) (fun tm0 => ?_) (fun key => ?_)
        ·refine oY rfl (yMB rfl) ?_
         refine oJ 8 (fun tm0 => (upd (upd (upd (upd (upd (upd (upd (upd (upd tm0 1 (.pointer (some ⟨b1,0,none⟩))) 2 (vI s30.1)) 49 (.slice Ab p0.fR.length cb)) 50 (vI (p0.fR.length:Int))) 51 (vI s30.2)) 52 (.bool (decide (s30.2 < (p0.fR.length:Int))))) 6 (.pointer (some ⟨b34,0,none⟩))) 5 (vI s30.2)) 82 (.bool (b41 || (decide ((rdL p0.fR s30.2).fH.fHi < (rdL p0.fR s30.2).fH.fLo)))))) (fun tm0 => ?_) (fun key => ?_)
         ·refine oY rfl (yMB rfl) ?_
          obtain ⟨b45,hb46,h⟩:=bOs h
          refine oJ 5 (fun tm0 => (upd (upd (upd (upd (upd (upd (upd (upd (upd tm0 1 (.pointer (some ⟨b1,0,none⟩))) 2 (vI s30.1)) 49 (.slice Ab p0.fR.length cb)) 50 (vI (p0.fR.length:Int))) 51 (vI s30.2)) 52 (.bool (decide (s30.2 < (p0.fR.length:Int))))) 6 (.pointer (some ⟨b34,0,none⟩))) 5 (vI s30.2)) 88 (.bool b45))) (fun tm0 => ?_) (fun key => ?_)
          ·refine oY rfl (yMB rfl) ?_
           obtain ⟨b48,hb49,h⟩:=bOs h
           refine oJ 5 (fun tm0 => (upd (upd (upd (upd (upd (upd (upd (upd (upd tm0 1 (.pointer (some ⟨b1,0,none⟩))) 2 (vI s30.1)) 49 (.slice Ab p0.fR.length cb)) 50 (vI (p0.fR.length:Int))) 51 (vI s30.2)) 52 (.bool (decide (s30.2 < (p0.fR.length:Int))))) 6 (.pointer (some ⟨b34,0,none⟩))) 5 (vI s30.2)) 94 (.bool b48))) (fun tm0 => ?_) (fun key => ?_)
           ·refine oN (eT ?_)
            rcases iOs h with ⟨hp50,h⟩ | ⟨hp50,h⟩
            ·refine cT (vB hp50) (cS (cR (oY rfl (yAI rfl) (oN (eT (ak (aa (aj (aa (aP 1 ?_))))))))))
             obtain rfl:=sI h
             exact ax ⟨rfl,_,rfl,(kp4 (kp rfl))⟩
            ·refine cF (vB hp50) (cK (eT (cS (cR (oY rfl (yN 0 [.slice Aa p0.fB.length ca,.slice Ab p0.fR.length cb] bO rfl rfl rfl) (oY rfl (yFA jB rfl) (oY rfl (yL 1 ba rfl rfl rfl) ?_)))))))
             obtain ⟨y51,hy52,h⟩:=bOs h
             refine oY rfl (yC [.agg #[.slice Aa p0.fB.length ca,.slice Ab p0.fR.length cb],vI ((rdL p0.fR s30.2).fID)] go_90 rfl (fun W2 hW2 => je p0 ((rdL p0.fR s30.2).fID) y51 hy52 W2 Aa p0.fB.length ca rfl ((RdL.arg hr0_0) W2 hW2) Ab p0.fR.length cb rfl ((RdL.arg hr0_1) W2 hW2)) rfl) (oY rfl (yMI rfl) (oY rfl (bC rfl rfl) (oN (eT ?_))))
             rcases iOs h with ⟨hp53,h⟩ | ⟨hp53,h⟩
             ·refine cT (vB hp53) (cS (cR (oY rfl (yAI rfl) (oN (eT (ak (aj (aa (aP 1 ?_)))))))))
              obtain rfl:=sI h
              exact ax ⟨rfl,_,rfl,(kp4 (kp rfl))⟩
             ·refine cF (vB hp53) (cK (av (eT (cR (oY rfl (a4 rfl rfl) (oY rfl (yMI rfl) (oN (aP 1 ?_))))))))
              obtain rfl:=sI h
              exact eN ⟨_,rfl,(kp4 (kp rfl))⟩
           ·clear h; rcases iOs hb49 with ⟨hp47,h⟩ | ⟨hp47,h⟩
            ·refine oSk (sF rfl rfl rfl rfl hp47) (oSk (sF rfl rfl rfl rfl hp47) (oSk (sF rfl rfl rfl rfl hp47) (oSk (sF rfl rfl rfl rfl hp47) (oY rfl (ag (vB hp47) rfl) ?_))))
             obtain rfl:=sI h
             exact key _ _ (kp4 (kp4 (kp rfl)))
            ·refine oY (sT rfl rfl rfl rfl hp47) (yFA eX rfl) (oY (sT rfl rfl rfl rfl hp47) (yL 1 ba rfl rfl rfl) ?_)
             obtain ⟨y54,hy55,h⟩:=bOs h
             refine oY (sT rfl rfl rfl rfl hp47) (yC [vI ((rdL p0.fR s30.2).fW),vI 1,vI 1000] gv rfl (fun W2 hW2 => aW ((rdL p0.fR s30.2).fW) 1 1000 y54 hy55 W2 ) rfl) (oY (sT rfl rfl rfl rfl hp47) (cj rfl) (oY rfl (ah (vB hp47) rfl) ?_))
             obtain rfl:=sI h
             exact key _ _ (kp4 (kp4 (kp rfl)))
          ·clear h; rcases iOs hb46 with ⟨hp44,h⟩ | ⟨hp44,h⟩
           ·refine oSk (sF rfl rfl rfl rfl hp44) (oSk (sF rfl rfl rfl rfl hp44) (oSk (sF rfl rfl rfl rfl hp44) (oSk (sF rfl rfl rfl rfl hp44) (oY rfl (ag (vB hp44) rfl) ?_))))
            obtain rfl:=sI h
            exact key _ _ (kp4 (kp4 (kp rfl)))
           ·refine oY (sT rfl rfl rfl rfl hp44) (yFA ph rfl) (oY (sT rfl rfl rfl rfl hp44) (yL 1 ba rfl rfl rfl) ?_)
            obtain ⟨y56,hy57,h⟩:=bOs h
            refine oY (sT rfl rfl rfl rfl hp44) (yC [vI ((rdL p0.fR s30.2).fD),vI 0,vI 9] gv rfl (fun W2 hW2 => aW ((rdL p0.fR s30.2).fD) 0 9 y56 hy57 W2 ) rfl) (oY (sT rfl rfl rfl rfl hp44) (cj rfl) (oY rfl (ah (vB hp44) rfl) ?_))
            obtain rfl:=sI h
            exact key _ _ (kp4 (kp4 (kp rfl)))
         ·rcases aq b41 with hp43 | hp43
          ·refine oSk (sF rfl rfl rfl rfl hp43) (oSk (sF rfl rfl rfl rfl hp43) (oSk (sF rfl rfl rfl rfl hp43) (oSk (sF rfl rfl rfl rfl hp43) (oSk (sF rfl rfl rfl rfl hp43) (oSk (sF rfl rfl rfl rfl hp43) (oSk (sF rfl rfl rfl rfl hp43) (oY rfl (ag (vB hp43) rfl) ?_)))))))
           exact key _ _ (keep (keep (keep (keep (keep (keep (keep (keep (keep rfl rfl) rfl) rfl) rfl) rfl) rfl) rfl) rfl) (vB (j6 hp43)))
          ·refine oY (sT rfl rfl rfl rfl hp43) (yFA gC rfl) (oY (sT rfl rfl rfl rfl hp43) (yFA iV rfl) (oY (sT rfl rfl rfl rfl hp43) (yL 1 ba rfl rfl rfl) (oY (sT rfl rfl rfl rfl hp43) (yFA gC rfl) (oY (sT rfl rfl rfl rfl hp43) (yFA g5 rfl) (oY (sT rfl rfl rfl rfl hp43) (yL 1 ba rfl rfl rfl) (oY (sT rfl rfl rfl rfl hp43) (iB rfl rfl) (oY rfl (ah (vB hp43) rfl) ?_)))))))
           exact key _ _ (keep (keep (keep (keep (keep (keep (keep (keep (keep rfl rfl) rfl) rfl) rfl) rfl) rfl) rfl) rfl) (vB (jV hp43)))
        ·clear h; rcases iOs hb42 with ⟨hp40,h⟩ | ⟨hp40,h⟩
         ·refine oSk (sF rfl rfl rfl rfl hp40) (oSk (sF rfl rfl rfl rfl hp40) (oSk (sF rfl rfl rfl rfl hp40) (oSk (sF rfl rfl rfl rfl hp40) (oSk (sF rfl rfl rfl rfl hp40) (oY rfl (ag (vB hp40) rfl) ?_)))))
          obtain rfl:=sI h
          exact key _ _ (kp4 (kp4 (kp rfl)))
         ·refine oY (sT rfl rfl rfl rfl hp40) (yFA gC rfl) (oY (sT rfl rfl rfl rfl hp40) (yFA g5 rfl) (oY (sT rfl rfl rfl rfl hp40) (yL 1 ba rfl rfl rfl) ?_))
          obtain ⟨y58,hy59,h⟩:=bOs h
          refine oY (sT rfl rfl rfl rfl hp40) (yC [vI ((rdL p0.fR s30.2).fH.fHi)] nz rfl (fun W2 hW2 => ee ((rdL p0.fR s30.2).fH.fHi) y58 hy59 W2 ) rfl) (oY (sT rfl rfl rfl rfl hp40) (cj rfl) (oY rfl (ah (vB hp40) rfl) ?_))
          obtain rfl:=sI h
          exact key _ _ (kp4 (kp4 (kp rfl)))
       ·clear h; rcases iOs hb39 with ⟨hp37,h⟩ | ⟨hp37,h⟩
        ·refine oSk (sF rfl rfl rfl rfl hp37) (oSk (sF rfl rfl rfl rfl hp37) (oSk (sF rfl rfl rfl rfl hp37) (oSk (sF rfl rfl rfl rfl hp37) (oSk (sF rfl rfl rfl rfl hp37) (oY rfl (ag (vB hp37) rfl) ?_)))))
         obtain rfl:=sI h
         exact key _ _ (kp4 (kp4 (kp rfl)))
        ·refine oY (sT rfl rfl rfl rfl hp37) (yFA gC rfl) (oY (sT rfl rfl rfl rfl hp37) (yFA iV rfl) (oY (sT rfl rfl rfl rfl hp37) (yL 1 ba rfl rfl rfl) ?_))
         obtain ⟨y60,hy61,h⟩:=bOs h
         refine oY (sT rfl rfl rfl rfl hp37) (yC [vI ((rdL p0.fR s30.2).fH.fLo)] nz rfl (fun W2 hW2 => ee ((rdL p0.fR s30.2).fH.fLo) y60 hy61 W2 ) rfl) (oY (sT rfl rfl rfl rfl hp37) (cj rfl) (oY rfl (ah (vB hp37) rfl) ?_))
         obtain rfl:=sI h
         exact key _ _ (kp4 (kp4 (kp rfl)))
      ·refine cF (vB hp32) (aF (ai ?_))
       obtain rfl:=sI h
       exact ax ⟨rfl,_,rfl,(kp4 (kp rfl))⟩
     ·intro e L tm hJ
      rcases u31 with u63 | u64
      ·dsimp only at h hJ
       obtain ⟨rfl,tm0_u63,rfl,rfl⟩:=hJ
       refine ⟨(by intro hc; cases hc),?_⟩
       refine aj (aa ?_)
       obtain rfl:=sI h
       exact al (.inl rfl) rfl (rVt (v:=vI u63.1) rfl) (fun W2 hW2 => ⟨rfl,hW2.none⟩)
      ·dsimp only at h hJ
       obtain ⟨rfl,tm0_u64,rfl,rfl⟩:=hJ
       refine ⟨(by intro hc; cases hc),?_⟩
       refine ad (eT (cS (cR (oY rfl (yAI rfl) (oN (eT (ak ?_)))))))
       obtain rfl:=sI h
       exact al (.inl rfl) rfl (rVt (v:=vI 0) rfl) (fun W2 hW2 => ⟨rfl,hW2.none⟩)
 ·rcases aq (decide (24 < (p0.fB.length:Int))) with hp2 | hp2
  ·refine oSk (sF rfl rfl rfl rfl hp2) (oSk (sF rfl rfl rfl rfl hp2) (oSk (sF rfl rfl rfl rfl hp2) (oSk (sF rfl rfl rfl rfl hp2) (oY rfl (ag (vB hp2) rfl) ?_))))
   exact key _ _ (keep (keep (keep rfl rfl) rfl) (vB (j6 hp2)))
  ·refine oY (sT rfl rfl rfl rfl hp2) (yFA bq rfl) (oY (sT rfl rfl rfl rfl hp2) (yL 0 dT rfl rfl rfl) (oY (sT rfl rfl rfl rfl hp2) (bi (us:=[]) fI rfl) (oY (sT rfl rfl rfl rfl hp2) (iB rfl rfl) (oY rfl (ah (vB hp2) rfl) ?_))))
   exact key _ _ (keep (keep (keep rfl rfl) rfl) (vB (jV hp2)))
theorem iW (p0:TO) (p1:TBay) (res:Bool) (h:f9 p0 p1 = some res) (W:World)  :
  Calls Tryz.prog 101 [.agg #[vI p0.fID,vI p0.fH.fLo,vI p0.fH.fHi,vI p0.fD,vI p0.fW],.agg #[vI p1.fID,vI p1.fHour,vI p1.fD]].toArray W fun e W2 => e = .returned (.bool res) ∧ Ext W W2 []:=by
 unfold f9 at h
 refine ab (m:=21) Tryz.func101 rfl rfl (nB rfl) (cS (cR ?_))
 refine aO [vI p0.fID,vI p0.fH.fLo,vI p0.fH.fHi,vI p0.fD,vI p0.fW] rfl rfl rfl (fun b1 => ?_)
 refine aO [vI p1.fID,vI p1.fHour,vI p1.fD] rfl rfl rfl (fun b2 => ?_)
 refine oY rfl (yAB rfl) (oN (eT (cS (cR (oY rfl (yFA ob rfl) (oY rfl (yL 1 ba rfl rfl rfl) (oY rfl (yFA gC rfl) (oY rfl (yFA iV rfl) (oY rfl (yL 0 ba rfl rfl rfl) (oY rfl (yFA gC rfl) (oY rfl (yFA g5 rfl) (oY rfl (yL 0 ba rfl rfl rfl) ?_))))))))))))
 obtain ⟨y3,hy4,h⟩:=bOs h
 refine oY rfl (yC [vI p1.fHour,vI p0.fH.fLo,vI p0.fH.fHi] gv rfl (fun W2 hW2 => aW p1.fHour p0.fH.fLo p0.fH.fHi y3 hy4 W2 ) rfl) (oY rfl (yMB rfl) ?_)
 refine oJ 6 (fun tm0 => (upd (upd tm0 4 (.bool false)) 20 (.bool (y3 && (decide (p0.fD ≤ p1.fD)))))) (fun tm0 => ?_) (fun key => ?_)
 ·refine oY rfl (yAB rfl) (oN (eT (ak ?_)))
  obtain rfl:=sI h
  exact al (.inl rfl) rfl (rVt (v:=.bool (y3 && (decide (p0.fD ≤ p1.fD)))) rfl) (fun W2 hW2 => ⟨rfl,hW2.none⟩)
 ·rcases aq y3 with hp5 | hp5
  ·refine oY (sT rfl rfl rfl rfl hp5) (yFA ol rfl) (oY (sT rfl rfl rfl rfl hp5) (yL 1 ba rfl rfl rfl) (oY (sT rfl rfl rfl rfl hp5) (yFA ph rfl) (oY (sT rfl rfl rfl rfl hp5) (yL 0 ba rfl rfl rfl) (oY (sT rfl rfl rfl rfl hp5) (od rfl rfl) (oY rfl (ag (vB hp5) rfl) ?_)))))
   exact key _ _ (keep (keep rfl rfl) (vB (iC hp5)))
  ·refine oSk (sF rfl rfl rfl rfl hp5) (oSk (sF rfl rfl rfl rfl hp5) (oSk (sF rfl rfl rfl rfl hp5) (oSk (sF rfl rfl rfl rfl hp5) (oSk (sF rfl rfl rfl rfl hp5) (oY rfl (ah (vB hp5) rfl) ?_)))))
   exact key _ _ (keep (keep rfl rfl) (vB (iA hp5)))
theorem j9 : ∀ (fuel:Nat) (p0:Int) (cap0:TY) (cap1:(List (Int × Bool))) (cap2:(List (Int × Int))) (res:(Bool × (List (Int × Bool)) × (List (Int × Int)))) (h:bp fuel p0 cap0 cap1 cap2 = some res) (W:World) (w0:World) (R:Res) (bmc1:Nat) (bmc2:Nat) (bc0:Nat) (A100_0:Option Addr) (n100_0 c100_0 : Nat) (hn100_0:n100_0 = cap0.fB.length) (hr100_0:∀ W2,Below w0.heap.size w0 W2 → R.holds W2 → Rd W2 A100_0 n100_0 c100_0 (ap TBay_cells cap0.fB)) (A100_1:Option Addr) (n100_1 c100_1 : Nat) (hn100_1:n100_1 = cap0.fR.length) (hr100_1:∀ W2,Below w0.heap.size w0 W2 → R.holds W2 → Rd W2 A100_1 n100_1 c100_1 (ap TOrder_cells cap0.fR)) (hcap0:∀ W2,Below w0.heap.size w0 W2 → R.holds W2 → Rd W2 (some ⟨bc0,0,none⟩) 1 1 [.slice A100_0 n100_0 c100_0,.slice A100_1 n100_1 c100_1]) (bc1:Nat) (hcap1:∀ W2,Below w0.heap.size w0 W2 → R.holds W2 → Rd W2 (some ⟨bc1,0,none⟩) 1 1 [.map (some bmc1)]) (bc2:Nat) (hcap2:∀ W2,Below w0.heap.size w0 W2 → R.holds W2 → Rd W2 (some ⟨bc2,0,none⟩) 1 1 [.map (some bmc2)]) (bc3:Nat) (hcap3:∀ W2,Below w0.heap.size w0 W2 → R.holds W2 → Rd W2 (some ⟨bc3,0,none⟩) 1 1 [.func (.func 156) #[] #[.pointer (some ⟨bc0,0,none⟩),.pointer (some ⟨bc1,0,none⟩),.pointer (some ⟨bc2,0,none⟩),.pointer (some ⟨bc3,0,none⟩)]]) (hW:Ext w0 W [R,mapV Tryz.prog 3 kI cO kB false bmc1 cap1,mapV Tryz.prog 3 kI cO kI 0 bmc2 cap2]),
  Calls Tryz.prog 156 [vI p0,.pointer (some ⟨bc0,0,none⟩),.pointer (some ⟨bc1,0,none⟩),.pointer (some ⟨bc2,0,none⟩),.pointer (some ⟨bc3,0,none⟩)].toArray W fun e W2 => ∃ x : Unit,True ∧ e = .returned (.bool res.1) ∧ Ext w0 W2 [R,mapV Tryz.prog 3 kI cO kB false bmc1 res.2.1,mapV Tryz.prog 3 kI cO kI 0 bmc2 res.2.2]:=by
 intro fuel
 induction fuel with
 | zero => intro p0 cap0 cap1 cap2 res h W w0 R bmc1 bmc2 bc0 A100_0 n100_0 c100_0 hn100_0 hr100_0 A100_1 n100_1 c100_1 hn100_1 hr100_1 hcap0 bc1 hcap1 bc2 hcap2 bc3 hcap3 hW; exact absurd h (by unfold bp; exact fun h => by cases h)
 | succ fuel ih =>
  intro p0 cap0 cap1 cap2 res h W w0 R bmc1 bmc2 bc0 A100_0 n100_0 c100_0 hn100_0 hr100_0 A100_1 n100_1 c100_1 hn100_1 hr100_1 hcap0 bc1 hcap1 bc2 hcap2 bc3 hcap3 hW
  subst hn100_0
  subst hn100_1
  change dL (bp fuel) p0 cap0 cap1 cap2 = some res at h
  unfold dL at h
  refine aU (m:=51) Tryz.func156 rfl rfl (nB rfl) hW (cS (cR (oY rfl (yAB rfl) (oN (eT (cx_scope (cS (cx_label (eT (cS (cS (cR (oY rfl (yFR (A:=(some ⟨bc0,0,none⟩)) (j:=0) cq rfl) (oY rfl (yR (A:=(some ⟨bc0,0,none⟩)) (j:=(0 + 0)) (v:=.slice A100_0 cap0.fB.length c100_0) gz (RdL.under hcap0) rfl rfl) (oY rfl (bi (us:=[]) ib rfl) (oY rfl (yMI rfl) (oN (eT (cB ?_)))))))))))))))))))
  obtain ⟨u4,hl24,h⟩:=bOs h
  refine bS (fun (s:(Bool × Int × (List (Int × Bool)) × (List (Int × Int)))) L tm => ∃ (tm0:Nat → Value),L = [R,mapV Tryz.prog 3 kI cO kB false bmc1 s.2.2.1,mapV Tryz.prog 3 kI cO kI 0 bmc2 s.2.2.2] ∧ tm = (upd (upd (upd (upd (upd (upd (upd (upd (upd tm0 0 (vI p0)) 1 (slA (some ⟨bc0,0,none⟩) 0)) 2 (slA (some ⟨bc1,0,none⟩) 0)) 3 (slA (some ⟨bc2,0,none⟩) 0)) 4 (slA (some ⟨bc3,0,none⟩) 0)) 6 (.bool s.1)) 12 (.slice A100_0 cap0.fB.length c100_0)) 13 (vI (cap0.fB.length:Int))) 14 (vI s.2.1))) 0 hl24 ⟨_,rfl,(kp4 (kp4 (kp rfl)))⟩ ?_ ?_
  ·rintro s3 L tm st ⟨tm0_s3,rfl,rfl⟩ h
   unfold bV at h
   refine cS (cR (oY rfl (bC rfl rfl) (oN (eT (cS ?_)))))
   rcases iOs h with ⟨hp5,h⟩ | ⟨hp5,h⟩
   ·refine cT (vB hp5) (cK (eT (cS (cB (cS (cR (oY rfl (yMI rfl) ?_)))))))
    obtain ⟨hg6,h⟩:=gOs h
    refine oY rfl (yI kw (by decide) hg6.1 hg6.2 (RdL.under hr100_0) (eL aE rfl) rfl rfl) ?_
    refine oY rfl (yM (A:=A100_0) (j:=(Int.toNat s3.2.1 * 3)) [vI ((rdL cap0.fB s3.2.1).fID),vI ((rdL cap0.fB s3.2.1).fHour),vI ((rdL cap0.fB s3.2.1).fD)] pk (Nat.succ_pos _) (RdL.under hr100_0) rfl (bg aE hg6.1 (aw hg6.2 rfl))) ?_
    refine ay nu rfl (fun b7 => ?_)
    refine oY rfl (yAI rfl) (cv rfl (yS 3 [vI ((rdL cap0.fB s3.2.1).fID),vI ((rdL cap0.fB s3.2.1).fHour),vI ((rdL cap0.fB s3.2.1).fD)] sz_69 rfl (nB rfl) rfl rfl rfl) (oN (eT (cS (cS ?_)))))
    refine bM 13 dD (by kernel_rfl) (by kernel_rfl) ?_
    refine qY rfl (yR (A:=(some ⟨bc1,0,none⟩)) (j:=0) (v:=.map (some bmc1)) sc_189 (RdL.under hcap1) rfl rfl) (qY rfl (yMI rfl) ?_)
    obtain ⟨hg8,h⟩:=gOs h
    refine qY rfl (iO (k:=s3.2.1) (MpL.own 1 rfl) rP q7 ze_4 rfl rfl hg8) (qY rfl (yMB rfl) ?_)
    obtain ⟨b10,hb11,h⟩:=bOs h
    refine qJ 9 (fun tm0 => (upd (upd (upd (upd (upd (upd (upd (upd (upd (upd (upd (upd (upd tm0 0 (vI p0)) 1 (slA (some ⟨bc0,0,none⟩) 0)) 2 (slA (some ⟨bc1,0,none⟩) 0)) 3 (slA (some ⟨bc2,0,none⟩) 0)) 4 (slA (some ⟨bc3,0,none⟩) 0)) 6 (.bool s3.1)) 12 (.slice A100_0 cap0.fB.length c100_0)) 13 (vI (cap0.fB.length:Int))) 14 (vI s3.2.1)) 15 (.bool (decide (s3.2.1 < (cap0.fB.length:Int))))) 8 (.pointer (some ⟨b7,0,none⟩))) 7 (vI s3.2.1)) 31 (.bool b10))) (fun tm0 => ?_) (fun key => ?_)
    ·refine dF (oN (eT ?_))
     rcases iOs h with ⟨hp12,h⟩ | ⟨hp12,h⟩
     ·refine cT (vB hp12) (aF (ai (ad (eT (cR (oY rfl (a4 rfl rfl) (oY rfl (yMI rfl) (oN (aP 3 ?_)))))))))
      obtain rfl:=sI h
      exact eN ⟨_,rfl,(kp4 (kp4 (kp rfl)))⟩
     ·refine cF (vB hp12) (cK (eT (cS (cR (oY rfl (yR (A:=(some ⟨bc1,0,none⟩)) (j:=0) (v:=.map (some bmc1)) sc_189 (RdL.under hcap1) rfl rfl) (oY rfl (yMI rfl) ?_))))))
      obtain ⟨hg13,h⟩:=gOs h
      refine cv rfl (ik 1 (k:=s3.2.1) (v:=true) rfl rP q7 rfl rfl rfl hg13) (oN (eT (cS (cR (oY rfl (yR (A:=(some ⟨bc2,0,none⟩)) (j:=0) (v:=.map (some bmc2)) qw (RdL.under hcap2) rfl rfl) (oY rfl (yMI rfl) ?_))))))
      obtain ⟨hg14,h⟩:=gOs h
      refine oY rfl (lL (k:=s3.2.1) (MpL.own 2 rfl) rP nL l0 rfl rfl hg14) (oY rfl (aS rfl) (oY rfl (yE rfl rfl) (oY rfl (yE rfl rfl) (oY rfl (yAI rfl) (oY rfl (yAB rfl) (oN (eT (cS (cR (oY rfl (yMB rfl) (oY rfl (cj rfl) (oY rfl (yMB rfl) ?_))))))))))))
      rcases iOs h with ⟨hp15,h⟩ | ⟨hp15,h⟩
      ·refine oSk (sF rfl rfl rfl rfl hp15) (oSk (sF rfl rfl rfl rfl hp15) (oSk (sF rfl rfl rfl rfl hp15) (oY rfl (ag (vB hp15) rfl) (oN (eT (cT rfl (cS (cR (oY rfl (yR (A:=(some ⟨bc2,0,none⟩)) (j:=0) (v:=.map (some bmc2)) qw (RdL.under hcap2) rfl rfl) (oY rfl (yMI rfl) (oY rfl (yMI rfl) ?_)))))))))))
       obtain ⟨hg16,h⟩:=gOs h
       refine cv rfl (ik 2 (k:=s3.2.1) (v:=p0) rfl rP nL rfl rfl rfl hg16) (oN (eT (cS (cR (oY rfl (yAB rfl) (oN (eT (ak (aj (aa (aP 3 ?_)))))))))))
       obtain rfl:=sI h
       exact ax ⟨rfl,_,rfl,(kp4 (kp4 (kp rfl)))⟩
      ·refine oY (sT rfl rfl rfl rfl hp15) (yR (A:=(some ⟨bc3,0,none⟩)) (j:=0) (v:=.func (.func 156) #[] #[.pointer (some ⟨bc0,0,none⟩),.pointer (some ⟨bc1,0,none⟩),.pointer (some ⟨bc2,0,none⟩),.pointer (some ⟨bc3,0,none⟩)]) sc_127 (RdL.under hcap3) rfl rfl) (oY (sT rfl rfl rfl rfl hp15) (yMI rfl) ?_)
       obtain ⟨y17,hy18,h⟩:=bOs h
       refine ei [1,2] [] [vI (ar 0 s3.2.2.2 s3.2.1)] [.pointer (some ⟨bc0,0,none⟩),.pointer (some ⟨bc1,0,none⟩),.pointer (some ⟨bc2,0,none⟩),.pointer (some ⟨bc3,0,none⟩)] (fun (_:Unit) => True) (fun _ => .bool y17.1) (fun _ => [mapV Tryz.prog 3 kI cO kB false bmc1 y17.2.1,mapV Tryz.prog 3 kI cO kI 0 bmc2 y17.2.2]) (fun _ => []) (Foc.c2 rfl rfl) (by decide) (sT rfl rfl rfl rfl hp15) go_156 rfl rfl (fun _ => rfl) (fun W2 hW2 => ih (ar 0 s3.2.2.2 s3.2.1) cap0 ((s3.2.1,true) :: s3.2.2.1) s3.2.2.2 y17 hy18 W2 _ (cA [R,mapV Tryz.prog 3 kI cO kB false bmc1 ((s3.2.1,true) :: s3.2.2.1),mapV Tryz.prog 3 kI cO kI 0 bmc2 s3.2.2.2,ac b7 69 [vI ((rdL cap0.fB s3.2.1).fID),vI ((rdL cap0.fB s3.2.1).fHour),vI ((rdL cap0.fB s3.2.1).fD)]] [1,2]) bmc1 bmc2 bc0 A100_0 cap0.fB.length c100_0 rfl (fun W3 hb hR => (RdL.under hr100_0) W3 (hW2.restL hb hR)) A100_1 cap0.fR.length c100_1 rfl (fun W3 hb hR => (RdL.under hr100_1) W3 (hW2.restL hb hR)) (fun W3 hb hR => (RdL.under hcap0) W3 (hW2.restL hb hR)) bc1 (fun W3 hb hR => (RdL.under hcap1) W3 (hW2.restL hb hR)) bc2 (fun W3 hb hR => (RdL.under hcap2) W3 (hW2.restL hb hR)) bc3 (fun W3 hb hR => (RdL.under hcap3) W3 (hW2.restL hb hR)) hW2) ?_
       rintro - -
       try dsimp only [ke,lsz,lss,List.append_nil]
       refine oY rfl (ah (vB hp15) rfl) (oN (eT ?_))
       rcases iOs h with ⟨hp19,h⟩ | ⟨hp19,h⟩
       ·refine cT (vB hp19) (cS (cR (oY rfl (yR (A:=(some ⟨bc2,0,none⟩)) (j:=0) (v:=.map (some bmc2)) qw (RdL.under hcap2) rfl rfl) (oY rfl (yMI rfl) (oY rfl (yMI rfl) ?_)))))
        obtain ⟨hg20,h⟩:=gOs h
        refine cv rfl (ik 2 (k:=s3.2.1) (v:=p0) rfl rP nL rfl rfl rfl hg20) (oN (eT (cS (cR (oY rfl (yAB rfl) (oN (eT (ak (aj (aa (aP 3 ?_)))))))))))
        obtain rfl:=sI h
        exact ax ⟨rfl,_,rfl,(kp4 (kp4 (kp rfl)))⟩
       ·refine cF (vB hp19) (cK (av (eT (cR (oY rfl (a4 rfl rfl) (oY rfl (yMI rfl) (oN (aP 3 ?_))))))))
        obtain rfl:=sI h
        exact eN ⟨_,rfl,(kp4 (kp4 (kp rfl)))⟩
    ·clear h; rcases iOs hb11 with ⟨hp9,h⟩ | ⟨hp9,h⟩
     ·refine aI (sF rfl rfl rfl rfl hp9) (aI (sF rfl rfl rfl rfl hp9) (aI (sF rfl rfl rfl rfl hp9) (aI (sF rfl rfl rfl rfl hp9) (aI (sF rfl rfl rfl rfl hp9) (aI (sF rfl rfl rfl rfl hp9) (aI (sF rfl rfl rfl rfl hp9) (aI (sF rfl rfl rfl rfl hp9) (qY rfl (ag (vB hp9) rfl) ?_))))))))
      obtain rfl:=sI h
      exact key _ _ (kp4 (kp4 (kp4 (kp rfl))))
     ·refine qY (sT rfl rfl rfl rfl hp9) (yFR (A:=(some ⟨bc0,0,none⟩)) (j:=0) bq rfl) (qY (sT rfl rfl rfl rfl hp9) (yR (A:=(some ⟨bc0,0,none⟩)) (j:=(0 + 1)) (v:=.slice A100_1 cap0.fR.length c100_1) dT (RdL.under hcap0) rfl rfl) (qY (sT rfl rfl rfl rfl hp9) (yMI rfl) ?_))
      obtain ⟨hg21,h⟩:=gOs h
      refine qY (sT rfl rfl rfl rfl hp9) (yI iK (by decide) hg21.1 hg21.2 (RdL.under hr100_1) (eL ae rfl) rfl rfl) ?_
      refine qY (sT rfl rfl rfl rfl hp9) (yM (A:=A100_1) (j:=(Int.toNat p0 * 5)) [vI ((rdL cap0.fR p0).fID),vI ((rdL cap0.fR p0).fH.fLo),vI ((rdL cap0.fR p0).fH.fHi),vI ((rdL cap0.fR p0).fD),vI ((rdL cap0.fR p0).fW)] jl (Nat.succ_pos _) (RdL.under hr100_1) rfl (bg ae hg21.1 (aw hg21.2 rfl))) (qY (sT rfl rfl rfl rfl hp9) (yN 3 [vI ((rdL cap0.fB s3.2.1).fID),vI ((rdL cap0.fB s3.2.1).fHour),vI ((rdL cap0.fB s3.2.1).fD)] pk rfl rfl rfl) ?_)
      obtain ⟨y22,hy23,h⟩:=bOs h
      refine qY (sT rfl rfl rfl rfl hp9) (yC [.agg #[vI ((rdL cap0.fR p0).fID),vI ((rdL cap0.fR p0).fH.fLo),vI ((rdL cap0.fR p0).fH.fHi),vI ((rdL cap0.fR p0).fD),vI ((rdL cap0.fR p0).fW)],.agg #[vI ((rdL cap0.fB s3.2.1).fID),vI ((rdL cap0.fB s3.2.1).fHour),vI ((rdL cap0.fB s3.2.1).fD)]] go_101 rfl (fun W2 hW2 => iW (TO.mk ((rdL cap0.fR p0).fID) (TSpan.mk ((rdL cap0.fR p0).fH.fLo) ((rdL cap0.fR p0).fH.fHi)) ((rdL cap0.fR p0).fD) ((rdL cap0.fR p0).fW)) (TBay.mk ((rdL cap0.fB s3.2.1).fID) ((rdL cap0.fB s3.2.1).fHour) ((rdL cap0.fB s3.2.1).fD)) y22 hy23 W2 ) rfl) (qY (sT rfl rfl rfl rfl hp9) (cj rfl) (qY rfl (ah (vB hp9) rfl) ?_))
      obtain rfl:=sI h
      exact key _ _ (kp4 (kp4 (kp4 (kp rfl))))
   ·refine cF (vB hp5) (aF (ai ?_))
    obtain rfl:=sI h
    exact ax ⟨rfl,_,rfl,(kp4 (kp4 (kp rfl)))⟩
  ·intro e L tm hJ
   rcases u4 with u25 | u26
   ·dsimp only at h hJ
    obtain ⟨rfl,tm0_u25,rfl,rfl⟩:=hJ
    refine ⟨(by intro hc; cases hc),?_⟩
    refine aj (aa (l9 ?_))
    obtain rfl:=sI h
    exact al (.inl rfl) rfl (rVt (v:=.bool u25.1) rfl) (fun W2 hW2 => ⟨(),trivial,rfl,hW2.take 3⟩)
   ·dsimp only at h hJ
    obtain ⟨rfl,tm0_u26,rfl,rfl⟩:=hJ
    refine ⟨(by intro hc; cases hc),?_⟩
    refine ad (eT (cS (cR (oY rfl (yAB rfl) (oN (eT (ak (l9 ?_))))))))
    obtain rfl:=sI h
    exact al (.inl rfl) rfl (rVt (v:=.bool false) rfl) (fun W2 hW2 => ⟨(),trivial,rfl,hW2.take 3⟩)
theorem dX (p0:(List (Int × Int))) (p1:TY) (p2:Int) (res:(Bool × (List (Int × Int)))) (h:bT p0 p1 p2 = some res) (W:World) (w0:World) (R:Res) (bm0:Nat) (Ac:Option Addr) (n1_0 cc : Nat) (hn1_0:n1_0 = p1.fB.length) (hr1_0:∀ W2,Below w0.heap.size w0 W2 → R.holds W2 → Rd W2 Ac n1_0 cc (ap TBay_cells p1.fB)) (A1_1:Option Addr) (n1_1 c1_1 : Nat) (hn1_1:n1_1 = p1.fR.length) (hr1_1:∀ W2,Below w0.heap.size w0 W2 → R.holds W2 → Rd W2 A1_1 n1_1 c1_1 (ap TOrder_cells p1.fR)) (hW:Ext w0 W [R,mapV Tryz.prog 3 kI cO kI 0 bm0 p0]) :
  Calls Tryz.prog 117 [.map (some bm0),.agg #[.slice Ac n1_0 cc,.slice A1_1 n1_1 c1_1],vI p2].toArray W fun e W2 => ∃ x : Unit,True ∧ e = .returned (.bool res.1) ∧ Ext w0 W2 [R,mapV Tryz.prog 3 kI cO kI 0 bm0 res.2]:=by
 subst hn1_0
 subst hn1_1
 unfold bT at h
 refine aU (m:=14) Tryz.func117 rfl rfl (nB rfl) hW (cS (cR ?_))
 refine aO [.map (some bm0)] rfl rfl rfl (fun b1 => ?_)
 refine aO [.slice Ac p1.fB.length cc,.slice A1_1 p1.fR.length c1_1] rfl rfl rfl (fun b2 => ?_)
 refine oY rfl (yAB rfl) (oN (eT (cS (cR ?_))))
 refine f7 3 kI cO kB false rfl (fun b3 => ?_)
 refine ay ze_189 rfl (fun b4 => ?_)
 try dsimp only [lna,lca,lsz,lss]
 refine cv rfl (dl 5 (v:=.map (some b3)) sz_189 rfl (Nat.lt_of_lt_of_le (Nat.lt_succ_self _) (nB rfl)) rfl rfl rfl) (oN (eT (cS (cR ?_))))
 refine ay ze_127 rfl (fun b5 => ?_)
 try dsimp only [lna,lca,lsz,lss]
 refine oN (eT (cS (cR (oY rfl (cg [.pointer (some ⟨b2,0,none⟩),.pointer (some ⟨b4,0,none⟩),.pointer (some ⟨b1,0,none⟩),.pointer (some ⟨b5,0,none⟩)] rfl rfl) (cv rfl (dl 6 (v:=.func (.func 156) #[] #[.pointer (some ⟨b2,0,none⟩),.pointer (some ⟨b4,0,none⟩),.pointer (some ⟨b1,0,none⟩),.pointer (some ⟨b5,0,none⟩)]) sz_127 rfl (Nat.lt_of_lt_of_le (Nat.lt_succ_self _) (nB rfl)) rfl rfl rfl) (oN (eT (cS (cR (oY rfl (yL 6 sc_127 rfl rfl rfl) (oY rfl (yMI rfl) ?_)))))))))))
 obtain ⟨y6,hy7,h⟩:=bOs h
 refine ei [4,1] [] [vI p2] [.pointer (some ⟨b2,0,none⟩),.pointer (some ⟨b4,0,none⟩),.pointer (some ⟨b1,0,none⟩),.pointer (some ⟨b5,0,none⟩)] (fun (_:Unit) => True) (fun _ => .bool y6.1) (fun _ => [mapV Tryz.prog 3 kI cO kB false b3 y6.2.1,mapV Tryz.prog 3 kI cO kI 0 bm0 y6.2.2]) (fun _ => []) (Foc.c2 rfl rfl) (by decide) rfl go_156 rfl rfl (fun _ => rfl) (fun W2 hW2 => j9 (p1.fB.length + 2) p2 p1 [] p0 y6 hy7 W2 _ (cA [R,mapV Tryz.prog 3 kI cO kI 0 bm0 p0,ac b1 152 [.map (some bm0)],ac b2 53 [.slice Ac p1.fB.length cc,.slice A1_1 p1.fR.length c1_1],mapV Tryz.prog 3 kI cO kB false b3 [],ac b4 189 [.map (some b3)],ac b5 127 [.func (.func 156) #[] #[.pointer (some ⟨b2,0,none⟩),.pointer (some ⟨b4,0,none⟩),.pointer (some ⟨b1,0,none⟩),.pointer (some ⟨b5,0,none⟩)]]] [4,1]) b3 bm0 b2 Ac p1.fB.length cc rfl (fun W3 hb hR => (RdL.under hr1_0) W3 (hW2.restL hb hR)) A1_1 p1.fR.length c1_1 rfl (fun W3 hb hR => (RdL.under hr1_1) W3 (hW2.restL hb hR)) (fun W3 hb hR => (RdL.cells 3 rfl) W3 (hW2.restL hb hR)) b4 (fun W3 hb hR => (RdL.cells 5 rfl) W3 (hW2.restL hb hR)) b1 (fun W3 hb hR => (RdL.cells 2 rfl) W3 (hW2.restL hb hR)) b5 (fun W3 hb hR => (RdL.cells 6 rfl) W3 (hW2.restL hb hR)) hW2) ?_
 rintro - -
 try dsimp only [ke,lsz,lss,List.append_nil]
 refine oY rfl (yAB rfl) (oN (eT (ak ?_)))
 obtain rfl:=sI h
 exact al (.inl rfl) rfl (rVt (v:=.bool y6.1) rfl) (fun W2 hW2 => ⟨(),trivial,rfl,hW2.take 2⟩)
theorem fi (p0:(List Int)) (p1:Int) (p2:Int) (p3:Int → Int → Option Int) (res:(List Int)) (h:bc p0 p1 p2 p3 = some res) (W:World) (w0:World) (R:Res) (Aa:Option Addr) (n0_0 ca : Nat) (hn0_0:n0_0 = p0.length) (fid3:Nat) (fst3 caps3 : List Value) (hgo3:bD Tryz.prog fid3 = true) (hof3:∀ W2,Below w0.heap.size w0 W2 → R.holds W2 → ∀ x0 x1,∀ y,p3 x0 x1 = some y → Calls Tryz.prog fid3 (fst3 ++ (([vI x0,vI x1] : List Value) ++ caps3)).toArray W2 fun e W3 => e = .returned (vI y) ∧ Ext W2 W3 []) (hW:Ext w0 W [R,aJ Aa ca 3 1 n0_0 (ap cI p0)]) :
  Calls Tryz.prog 190 [.slice Aa n0_0 ca,vI p1,vI p2,.func (.func fid3) fst3.toArray caps3.toArray].toArray W fun e W2 => e = .returned (.tuple #[]) ∧ n0_0 = res.length ∧ Ext w0 W2 [R,aJ Aa ca 3 1 n0_0 (ap cI res)]:=by
 subst hn0_0
 unfold bc at h
 refine aU (m:=53) Tryz.func190 rfl rfl (nB rfl) hW (cS (cR (oY rfl (yMI rfl) (oY rfl (a4 rfl rfl) (oY rfl (yAI rfl) (oN (eT (cB ?_))))))))
 obtain ⟨u4,hl24,h⟩:=bOs h
 refine bj (fun (s:(Int × (List Int))) L tm => ∃ (tm0:Nat → Value),p0.length = s.2.length ∧ L = [R,aJ Aa ca 3 1 p0.length (ap cI s.2)] ∧ tm = (upd (upd (upd (upd (upd tm0 0 (.slice Aa p0.length ca)) 1 (vI p1)) 2 (vI p2)) 3 (.func (.func fid3) fst3.toArray caps3.toArray)) 8 (vI s.1))) 0 hl24 ⟨_,rfl,rfl,(kp4 (kp rfl))⟩ ?_ ?_
 ·rintro s3 L tm st ⟨tm0_s3,hn1_s3,rfl,rfl⟩ h
  unfold aC at h
  refine cS (cS (cR (oY rfl (yMI rfl) (oY rfl (yMI rfl) (oY rfl (bC rfl rfl) (oN (eT ?_)))))))
  rcases iOs h with ⟨hp5,h⟩ | ⟨hp5,h⟩
  ·refine cT (vB hp5) (cK (eT (cS (cB (cS (cR (oY rfl (yMI rfl) (oY rfl (yAI rfl) (oN (eT (cB ?_)))))))))))
   obtain ⟨u9,hl23,h⟩:=bOs h
   refine bj (fun (s:(Int × (List Int))) L tm => ∃ (tm0:Nat → Value),p0.length = s.2.length ∧ L = [R,aJ Aa ca 3 1 p0.length (ap cI s.2)] ∧ tm = (upd (upd (upd (upd (upd (upd (upd tm0 0 (.slice Aa p0.length ca)) 1 (vI p1)) 2 (vI p2)) 3 (.func (.func fid3) fst3.toArray caps3.toArray)) 8 (vI s3.1)) 14 (.bool (decide (s3.1 < p2)))) 9 (vI s.1))) 2 hl23 ⟨_,hn1_s3,rfl,(kp4 (kp (kp (kp rfl))))⟩ ?_ ?_
   ·rintro s8 L tm st ⟨tm0_s8,hn1_s8,rfl,rfl⟩ h
    unfold aR at h
    refine cS (cS ?_)
    refine bM 17 dD (by kernel_rfl) (by kernel_rfl) ?_
    refine qY rfl (yMI rfl) (qY rfl (yMI rfl) (qY rfl (iB rfl rfl) (qY rfl (yMB rfl) ?_)))
    obtain ⟨b11,hb12,h⟩:=bOs h
    refine qJ 13 (fun tm0 => (upd (upd (upd (upd (upd (upd (upd (upd tm0 0 (.slice Aa p0.length ca)) 1 (vI p1)) 2 (vI p2)) 3 (.func (.func fid3) fst3.toArray caps3.toArray)) 8 (vI s3.1)) 14 (.bool (decide (s3.1 < p2)))) 9 (vI s8.1)) 34 (.bool b11))) (fun tm0 => ?_) (fun key => ?_)
    ·refine dF (oN (eT ?_))
     rcases iOs h with ⟨hp13,h⟩ | ⟨hp13,h⟩
     ·refine cT (vB hp13) (cK (eT (cS (cB ?_))))
      obtain ⟨hg15,h⟩:=gOs h
      obtain ⟨hg16,h⟩:=gOs h
      obtain ⟨hg17,h⟩:=gOs h
      obtain ⟨hg18,h⟩:=gOs h
      refine d6 [[],[],[],[],[3],[],[],[6],[5,6,7],[5,6,7,8],[],[],[10,11],[10,11,12],[0,1,5,6,7,8,9,10,11,12,13],[0,1,5,6,7,8,9,10,11,12,13,14],[0,1,2,3,4,5,6,7,8,9,10,11,12,13,14,15],[0,1,2,3,4,5,6,7,8,9,10,11,12,13,14,15,16]] [(none,0,[true,true]),(none,0,[true,true]),(none,0,[true,false]),(none,0,[true,false]),(none,0,[true,false]),(none,0,[true,true]),(none,0,[true,true]),(none,0,[true,true]),(none,0,[true,true]),(none,0,[true,true]),(none,0,[true,true]),(none,0,[true,true]),(none,0,[true,true]),(none,0,[true,true]),(none,0,[true,true]),(some 1,0,[true,true]),(none,0,[true,true]),(some 1,0,[true,true])] [⟨fun _ => .slice Aa p0.length ca,fun _ => noR,fun _ => []⟩,⟨fun _ => vI s8.1,fun _ => noR,fun _ => []⟩,⟨fun _ => .slice Aa p0.length ca,fun _ => noR,fun _ => []⟩,⟨fun _ => vI s8.1,fun _ => noR,fun _ => []⟩,⟨fun _ => vI (w64 (s8.1 - 1)),fun _ => noR,fun _ => []⟩,⟨fun _ => .slice Aa p0.length ca,fun _ => noR,fun _ => []⟩,⟨fun _ => vI s8.1,fun _ => noR,fun _ => []⟩,⟨fun _ => vI (w64 (s8.1 - 1)),fun _ => noR,fun _ => []⟩,⟨fun _ => slA Aa (Int.toNat (w64 (s8.1 - 1)) * 1),fun _ => noR,fun _ => []⟩,⟨fun _ => vI (rdL s8.2 (w64 (s8.1 - 1))),fun _ => noR,fun _ => []⟩,⟨fun _ => .slice Aa p0.length ca,fun _ => noR,fun _ => []⟩,⟨fun _ => vI s8.1,fun _ => noR,fun _ => []⟩,⟨fun _ => slA Aa (Int.toNat s8.1 * 1),fun _ => noR,fun _ => []⟩,⟨fun _ => vI (rdL s8.2 s8.1),fun _ => noR,fun _ => []⟩,⟨fun _ => slA Aa (Int.toNat s8.1 * 1),fun _ => noR,fun _ => []⟩,⟨fun _ => undef,fun _ => aJ Aa ca 3 1 p0.length (ap cI (s8.2.set (Int.toNat s8.1) (rdL s8.2 (w64 (s8.1 - 1))))),fun _ => []⟩,⟨fun _ => slA Aa (Int.toNat (w64 (s8.1 - 1)) * 1),fun _ => noR,fun _ => []⟩,⟨fun _ => undef,fun _ => aJ Aa ca 3 1 p0.length (ap cI ((s8.2.set (Int.toNat s8.1) (rdL s8.2 (w64 (s8.1 - 1)))).set (Int.toNat (w64 (s8.1 - 1))) (rdL s8.2 s8.1))),fun _ => []⟩] 2 dD (by kernel_rfl) (by kernel_rfl) ⟨⟨fun ξ14 ξ14' h => ⟨rfl,rfl,rfl⟩,fun _ => rfl⟩,⟨fun ξ14 ξ14' h => ⟨rfl,rfl,rfl⟩,fun _ => rfl⟩,⟨fun ξ14 ξ14' h => ⟨rfl,rfl,rfl⟩,fun _ => rfl⟩,⟨fun ξ14 ξ14' h => ⟨rfl,rfl,rfl⟩,fun _ => rfl⟩,⟨fun ξ14 ξ14' h => ⟨rfl,rfl,rfl⟩,fun _ => rfl⟩,⟨fun ξ14 ξ14' h => ⟨rfl,rfl,rfl⟩,fun _ => rfl⟩,⟨fun ξ14 ξ14' h => ⟨rfl,rfl,rfl⟩,fun _ => rfl⟩,⟨fun ξ14 ξ14' h => ⟨rfl,rfl,rfl⟩,fun _ => rfl⟩,⟨fun ξ14 ξ14' h => ⟨rfl,rfl,rfl⟩,fun _ => rfl⟩,⟨fun ξ14 ξ14' h => ⟨rfl,rfl,rfl⟩,fun _ => rfl⟩,⟨fun ξ14 ξ14' h => ⟨rfl,rfl,rfl⟩,fun _ => rfl⟩,⟨fun ξ14 ξ14' h => ⟨rfl,rfl,rfl⟩,fun _ => rfl⟩,⟨fun ξ14 ξ14' h => ⟨rfl,rfl,rfl⟩,fun _ => rfl⟩,⟨fun ξ14 ξ14' h => ⟨rfl,rfl,rfl⟩,fun _ => rfl⟩,⟨fun ξ14 ξ14' h => ⟨rfl,rfl,rfl⟩,fun _ => rfl⟩,⟨fun ξ14 ξ14' h => ⟨rfl,rfl,rfl⟩,fun _ => rfl⟩,⟨fun ξ14 ξ14' h => ⟨rfl,rfl,rfl⟩,fun _ => rfl⟩,⟨fun ξ14 ξ14' h => ⟨rfl,rfl,rfl⟩,fun _ => rfl⟩,trivial⟩ rfl (fun ξ14 => ?_)
      refine bX rfl (fun L2 => ?_) ?_
      ·dsimp only [aA,lca,lna]
       refine oY rfl (yMS rfl) (oN ?_)
       exact ao (fun _ => (none,0,0,[],noR)) rfl (List.append_nil _)
      dsimp only [bB,lsz,lss,lna,lca,List.append_nil]
      refine bX rfl (fun L2 => ?_) ?_
      ·dsimp only [aA,lca,lna]
       refine oY rfl (yMI rfl) (oN ?_)
       exact ao (fun _ => (none,0,0,[],noR)) rfl (List.append_nil _)
      dsimp only [bB,lsz,lss,lna,lca,List.append_nil]
      refine bX rfl (fun L2 => ?_) ?_
      ·dsimp only [aA,lca,lna]
       refine oY rfl (yMS rfl) (oN ?_)
       exact ao (fun _ => (none,0,0,[],noR)) rfl (List.append_nil _)
      dsimp only [bB,lsz,lss,lna,lca,List.append_nil]
      refine bX rfl (fun L2 => ?_) ?_
      ·dsimp only [aA,lca,lna]
       refine oY rfl (yMI rfl) (oN ?_)
       exact ao (fun _ => (none,0,0,[],noR)) rfl (List.append_nil _)
      dsimp only [bB,lsz,lss,lna,lca,List.append_nil]
      refine bX rfl (fun L2 => ?_) ?_
      ·dsimp only [aA,lca,lna]
       refine oY rfl (gB rfl rfl) (oN ?_)
       exact ao (fun _ => (none,0,0,[],noR)) rfl (List.append_nil _)
      dsimp only [bB,lsz,lss,lna,lca,List.append_nil]
      refine bX rfl (fun L2 => ?_) ?_
      ·dsimp only [aA,lca,lna]
       refine oY rfl (yMS rfl) (oN ?_)
       exact ao (fun _ => (none,0,0,[],noR)) rfl (List.append_nil _)
      dsimp only [bB,lsz,lss,lna,lca,List.append_nil]
      refine bX rfl (fun L2 => ?_) ?_
      ·dsimp only [aA,lca,lna]
       refine oY rfl (yMI rfl) (oN ?_)
       exact ao (fun _ => (none,0,0,[],noR)) rfl (List.append_nil _)
      dsimp only [bB,lsz,lss,lna,lca,List.append_nil]
      refine bX rfl (fun L2 => ?_) ?_
      ·dsimp only [aA,lca,lna]
       refine oY rfl (gB rfl rfl) (oN ?_)
       exact ao (fun _ => (none,0,0,[],noR)) rfl (List.append_nil _)
      dsimp only [bB,lsz,lss,lna,lca,List.append_nil]
      refine bX rfl (fun L2 => ?_) ?_
      ·dsimp only [aA,lca,lna]
       refine oY rfl (yI cN (by decide) hg15.1 hg15.2 (RdL.row 1 rfl) (eL az hn1_s8) rfl rfl) ?_
       refine oN ?_
       exact ao (fun _ => (none,0,0,[],noR)) rfl (List.append_nil _)
      dsimp only [bB,lsz,lss,lna,lca,List.append_nil]
      refine bX rfl (fun L2 => ?_) ?_
      ·dsimp only [aA,lca,lna]
       refine oY rfl (yR (A:=Aa) (j:=(Int.toNat (w64 (s8.1 - 1)) * 1)) (v:=vI (rdL s8.2 (w64 (s8.1 - 1)))) ba (RdL.row 1 rfl) rfl (aG az hg15.1 (aw hg15.2 hn1_s8) rfl)) (oN ?_)
       exact ao (fun _ => (none,0,0,[],noR)) rfl (List.append_nil _)
      dsimp only [bB,lsz,lss,lna,lca,List.append_nil]
      refine bX rfl (fun L2 => ?_) ?_
      ·dsimp only [aA,lca,lna]
       refine oY rfl (yMS rfl) (oN ?_)
       exact ao (fun _ => (none,0,0,[],noR)) rfl (List.append_nil _)
      dsimp only [bB,lsz,lss,lna,lca,List.append_nil]
      refine bX rfl (fun L2 => ?_) ?_
      ·dsimp only [aA,lca,lna]
       refine oY rfl (yMI rfl) (oN ?_)
       exact ao (fun _ => (none,0,0,[],noR)) rfl (List.append_nil _)
      dsimp only [bB,lsz,lss,lna,lca,List.append_nil]
      refine bX rfl (fun L2 => ?_) ?_
      ·dsimp only [aA,lca,lna]
       refine oY rfl (yI cN (by decide) hg16.1 hg16.2 (RdL.row 1 rfl) (eL az hn1_s8) rfl rfl) ?_
       refine oN ?_
       exact ao (fun _ => (none,0,0,[],noR)) rfl (List.append_nil _)
      dsimp only [bB,lsz,lss,lna,lca,List.append_nil]
      refine bX rfl (fun L2 => ?_) ?_
      ·dsimp only [aA,lca,lna]
       refine oY rfl (yR (A:=Aa) (j:=(Int.toNat s8.1 * 1)) (v:=vI (rdL s8.2 s8.1)) ba (RdL.row 1 rfl) rfl (aG az hg16.1 (aw hg16.2 hn1_s8) rfl)) (oN ?_)
       exact ao (fun _ => (none,0,0,[],noR)) rfl (List.append_nil _)
      dsimp only [bB,lsz,lss,lna,lca,List.append_nil]
      refine bX rfl (fun L2 => ?_) ?_
      ·dsimp only [aA,lca,lna]
       refine oY rfl (yI cN (by decide) hg17.1 hg17.2 (RdL.row 1 rfl) (eL az hn1_s8) rfl rfl) ?_
       refine oN ?_
       exact ao (fun _ => (none,0,0,[],noR)) rfl (List.append_nil _)
      dsimp only [bB,lsz,lss,lna,lca,List.append_nil]
      refine rm rfl (fun L2 => ?_) ?_
      ·dsimp only [aA,lca,lna]
       refine cv rfl (iJ 1 (xs:=s8.2) az (rdL s8.2 (w64 (s8.1 - 1))) pW rfl hg17.1 (aw hg17.2 hn1_s8) rfl rfl rfl rfl) (oN ?_)
       first | exact bE (fun _ => (none,0,0,[],noR)) rfl | exact bE (fun _ => (none,0,0,[],noR)) (List.append_nil _)
      dsimp only [bB,lsz,lss,lna,lca,List.append_nil]
      refine bX rfl (fun L2 => ?_) ?_
      ·dsimp only [aA,lca,lna]
       refine oY rfl (yI cN (by decide) hg18.1 hg18.2 (RdL.row 1 rfl) (eL az (fu hn1_s8)) rfl rfl) ?_
       refine oN ?_
       exact ao (fun _ => (none,0,0,[],noR)) rfl (List.append_nil _)
      dsimp only [bB,lsz,lss,lna,lca,List.append_nil]
      refine rm rfl (fun L2 => ?_) ?_
      ·dsimp only [aA,lca,lna]
       refine cv rfl (iJ 1 (xs:=(s8.2.set (Int.toNat s8.1) (rdL s8.2 (w64 (s8.1 - 1))))) az (rdL s8.2 s8.1) pW rfl hg18.1 (aw hg18.2 (fu hn1_s8)) rfl rfl rfl rfl) (oN ?_)
       first | exact bE (fun _ => (none,0,0,[],noR)) rfl | exact bE (fun _ => (none,0,0,[],noR)) (List.append_nil _)
      dsimp only [bB,lsz,lss,lna,lca,List.append_nil]
      refine jO (av (eT (cR (oY rfl (yMI rfl) (oY rfl (gB rfl rfl) (oY rfl (yAI rfl) (oN ?_)))))))
      obtain rfl:=sI h
      exact eN ⟨_,(fu (fu hn1_s8)),rfl,(kp4 (kp (kp (kp rfl))))⟩
     ·refine cF (vB hp13) (aF (ai ?_))
      obtain rfl:=sI h
      exact ax ⟨rfl,_,hn1_s8,rfl,(kp4 (kp (kp (kp rfl))))⟩
    ·clear h; rcases iOs hb12 with ⟨hp10,h⟩ | ⟨hp10,h⟩
     ·refine qY (sT rfl rfl rfl rfl hp10) (bL (v:=.func (.func fid3) fst3.toArray caps3.toArray) rfl) (qY (sT rfl rfl rfl rfl hp10) (yMS rfl) (qY (sT rfl rfl rfl rfl hp10) (yMI rfl) ?_))
      obtain ⟨hg19,h⟩:=gOs h
      refine qY (sT rfl rfl rfl rfl hp10) (yI cN (by decide) hg19.1 hg19.2 (RdL.row 1 rfl) (eL az hn1_s8) rfl rfl) ?_
      refine qY (sT rfl rfl rfl rfl hp10) (yR (A:=Aa) (j:=(Int.toNat s8.1 * 1)) (v:=vI (rdL s8.2 s8.1)) ba (RdL.row 1 rfl) rfl (aG az hg19.1 (aw hg19.2 hn1_s8) rfl)) (qY (sT rfl rfl rfl rfl hp10) (yMS rfl) (qY (sT rfl rfl rfl rfl hp10) (yMI rfl) (qY (sT rfl rfl rfl rfl hp10) (gB rfl rfl) ?_)))
      obtain ⟨hg20,h⟩:=gOs h
      refine qY (sT rfl rfl rfl rfl hp10) (yI cN (by decide) hg20.1 hg20.2 (RdL.row 1 rfl) (eL az hn1_s8) rfl rfl) ?_
      refine qY (sT rfl rfl rfl rfl hp10) (yR (A:=Aa) (j:=(Int.toNat (w64 (s8.1 - 1)) * 1)) (v:=vI (rdL s8.2 (w64 (s8.1 - 1)))) ba (RdL.row 1 rfl) rfl (aG az hg20.1 (aw hg20.2 hn1_s8) rfl)) ?_
      obtain ⟨y21,hy22,h⟩:=bOs h
      refine qY (sT rfl rfl rfl rfl hp10) (gR [vI (rdL s8.2 s8.1),vI (rdL s8.2 (w64 (s8.1 - 1)))] hgo3 rfl rfl (fun W2 hW2 => hof3 W2 hW2.below (hW2.mem (i:=0) rfl) (rdL s8.2 s8.1) (rdL s8.2 (w64 (s8.1 - 1))) y21 hy22)) (qY (sT rfl rfl rfl rfl hp10) (bC rfl rfl) (qY rfl (ag (vB hp10) rfl) ?_))
      obtain rfl:=sI h
      exact key _ _ (kp4 (kp4 rfl))
     ·refine aI (sF rfl rfl rfl rfl hp10) (aI (sF rfl rfl rfl rfl hp10) (aI (sF rfl rfl rfl rfl hp10) (aI (sF rfl rfl rfl rfl hp10) (aI (sF rfl rfl rfl rfl hp10) (aI (sF rfl rfl rfl rfl hp10) (aI (sF rfl rfl rfl rfl hp10) (aI (sF rfl rfl rfl rfl hp10) (aI (sF rfl rfl rfl rfl hp10) (aI (sF rfl rfl rfl rfl hp10) (aI (sF rfl rfl rfl rfl hp10) (aI (sF rfl rfl rfl rfl hp10) (qY rfl (ah (vB hp10) rfl) ?_))))))))))))
      obtain rfl:=sI h
      exact key _ _ (kp4 (kp4 rfl))
   ·intro e L tm hJ
    obtain ⟨rfl,tm0_u9,hn1_u9,rfl,rfl⟩:=hJ
    refine ⟨(by intro hc; cases hc),?_⟩
    refine ad (av (eT (cR (oY rfl (yMI rfl) (oY rfl (a4 rfl rfl) (oY rfl (yAI rfl) (oN ?_)))))))
    obtain rfl:=sI h
    exact eN ⟨_,hn1_u9,rfl,(kp4 (kp rfl))⟩
  ·refine cF (vB hp5) (aF (ai ?_))
   obtain rfl:=sI h
   exact ax ⟨rfl,_,hn1_s3,rfl,(kp4 (kp rfl))⟩
 ·intro e L tm hJ
  obtain ⟨rfl,tm0_u4,hn1_u4,rfl,rfl⟩:=hJ
  refine ⟨(by intro hc; cases hc),?_⟩
  refine ad ?_
  obtain rfl:=sI h
  exact cC (.inr rfl) rfl  (fun W2 hW2 => ⟨rfl,hn1_u4,hW2.take 2⟩)
theorem g8 (p0:(List Int)) (p1:Int) (p2:Int → Int → Option Int) (res:(List Int)) (h:co p0 p1 p2 = some res) (W:World) (w0:World) (R:Res) (Aa:Option Addr) (n0_0 ca : Nat) (hn0_0:n0_0 = p0.length) (fid2:Nat) (fst2 caps2 : List Value) (hgo2:bD Tryz.prog fid2 = true) (hof2:∀ W2,Below w0.heap.size w0 W2 → R.holds W2 → ∀ x0 x1,∀ y,p2 x0 x1 = some y → Calls Tryz.prog fid2 (fst2 ++ (([vI x0,vI x1] : List Value) ++ caps2)).toArray W2 fun e W3 => e = .returned (vI y) ∧ Ext W2 W3 []) (hW:Ext w0 W [R,aJ Aa ca 3 1 n0_0 (ap cI p0)]) :
  Calls Tryz.prog 175 [.slice Aa n0_0 ca,vI p1,.func (.func fid2) fst2.toArray caps2.toArray].toArray W fun e W2 => e = .returned (.tuple #[]) ∧ n0_0 = res.length ∧ Ext w0 W2 [R,aJ Aa ca 3 1 n0_0 (ap cI res)]:=by
 subst hn0_0
 unfold co at h
 refine aU (m:=63) Tryz.func175 rfl rfl (nB rfl) hW (cS (cR (oY rfl (yAI rfl) (oN (eT (cS (cR (oY rfl (yMI rfl) (oY rfl (yAI rfl) (oY rfl (yAI rfl) (oN (eT (cS (cB ?_))))))))))))))
 obtain ⟨u3,hl5,h⟩:=bOs h
 refine bj (fun (s:(Int × Int)) L tm => ∃ (tm0:Nat → Value),L = [R,aJ Aa ca 3 1 p0.length (ap cI p0)] ∧ tm = (upd (upd (upd (upd (upd (upd tm0 0 (.slice Aa p0.length ca)) 1 (vI p1)) 2 (.func (.func fid2) fst2.toArray caps2.toArray)) 6 (vI 20)) 7 (vI s.1)) 8 (vI s.2))) 0 hl5 ⟨_,rfl,(kp4 (kp (kp rfl)))⟩ ?_ ?_
 ·rintro s2 L tm st ⟨tm0_s2,rfl,rfl⟩ h
  unfold bR at h
  refine cS (cS (cR (oY rfl (yMI rfl) (oY rfl (yMI rfl) (oY rfl (kd rfl rfl) (oN (eT ?_)))))))
  obtain ⟨hp4,h⟩:=gOs h
  refine cF (vB hp4) (aF (ai ?_))
  obtain rfl:=sI h
  exact ax ⟨rfl,_,rfl,(kp4 (kp (kp rfl)))⟩
 ·intro e L tm hJ
  obtain ⟨rfl,tm0_u3,rfl,rfl⟩:=hJ
  refine ⟨(by intro hc; cases hc),?_⟩
  refine ad (eT (cS (cR (oY rfl (yMS rfl) (oY rfl (yMI rfl) (oY rfl (yMI rfl) (oY rfl (bL (v:=.func (.func fid2) fst2.toArray caps2.toArray) rfl) ?_)))))))
  obtain ⟨y6,hy7,h⟩:=bOs h
  refine eI 1 [.slice Aa p0.length ca,vI u3.1,vI p1,.func (.func fid2) fst2.toArray caps2.toArray] (fun (_:Unit) => p0.length = y6.length) (fun _ => .tuple #[]) (fun _ => aJ Aa ca 3 1 p0.length (ap cI y6)) (fun _ => []) rfl rfl go_190 rfl (fun W2 hW2 => (fi p0 u3.1 p1 p2 y6 hy7 W2 _ (cA [R,aJ Aa ca 3 1 p0.length (ap cI p0)] [1]) Aa p0.length ca rfl fid2 fst2 caps2 hgo2 (fun W3 hb hR => hof2 W3 hb (hR.1 0 _ (by decide) rfl)) hW2).mono (fun e W3 h3 => ⟨(),h3.2.1,h3.1,h3.2.2⟩)) ?_
  rintro - hn8
  try dsimp only [lsz,lss,List.append_nil]
  refine oN (eT (cB ?_))
  obtain ⟨u11,hl13,h⟩:=bOs h
  refine bj (fun (s:(Int × Int × Int)) L tm => ∃ (tm0:Nat → Value),L = [R,aJ Aa ca 3 1 p0.length (ap cI y6)] ∧ tm = (upd (upd (upd (upd (upd (upd tm0 0 (.slice Aa p0.length ca)) 1 (vI p1)) 2 (.func (.func fid2) fst2.toArray caps2.toArray)) 6 (vI s.1)) 7 (vI s.2.1)) 8 (vI s.2.2))) 2 hl13 ⟨_,rfl,(kp4 (kp (kp rfl)))⟩ ?_ ?_
  ·rintro s10 L tm st ⟨tm0_s10,rfl,rfl⟩ h
   unfold bQ at h
   refine cS (cS (cR (oY rfl (yMI rfl) (oY rfl (yMI rfl) (oY rfl (bC rfl rfl) (oN (eT ?_)))))))
   obtain ⟨hp12,h⟩:=gOs h
   refine cF (vB hp12) (aF (ai ?_))
   obtain rfl:=sI h
   exact ax ⟨rfl,_,rfl,(kp4 (kp (kp rfl)))⟩
  ·intro e L tm hJ
   obtain ⟨rfl,tm0_u11,rfl,rfl⟩:=hJ
   refine ⟨(by intro hc; cases hc),?_⟩
   refine ad ?_
   obtain rfl:=sI h
   exact cC (.inr rfl) rfl  (fun W2 hW2 => ⟨rfl,hn8,hW2.take 2⟩)
theorem fM (p0:(List Int)) (p1:Int → Int → Option Int) (res:(List Int)) (h:bm p0 p1 = some res) (W:World) (w0:World) (R:Res) (Aa:Option Addr) (n0_0 ca : Nat) (hn0_0:n0_0 = p0.length) (fid1:Nat) (fst1 caps1 : List Value) (hgo1:bD Tryz.prog fid1 = true) (hof1:∀ W2,Below w0.heap.size w0 W2 → R.holds W2 → ∀ x0 x1,∀ y,p1 x0 x1 = some y → Calls Tryz.prog fid1 (fst1 ++ (([vI x0,vI x1] : List Value) ++ caps1)).toArray W2 fun e W3 => e = .returned (vI y) ∧ Ext W2 W3 []) (hW:Ext w0 W [R,aJ Aa ca 3 1 n0_0 (ap cI p0)]) :
  Calls Tryz.prog 143 [.slice Aa n0_0 ca,.func (.func fid1) fst1.toArray caps1.toArray].toArray W fun e W2 => e = .returned (.tuple #[]) ∧ n0_0 = res.length ∧ Ext w0 W2 [R,aJ Aa ca 3 1 n0_0 (ap cI res)]:=by
 subst hn0_0
 unfold bm at h
 refine aU (m:=9) Tryz.func143 rfl rfl (nB rfl) hW (cR (oY rfl (yMS rfl) (oY rfl (yMS rfl) (oY rfl (bi (us:=[]) cH rfl) (oY rfl (bL (v:=.func (.func fid1) fst1.toArray caps1.toArray) rfl) ?_)))))
 obtain ⟨y1,hy2,h⟩:=bOs h
 refine eI 1 [.slice Aa p0.length ca,vI (p0.length:Int),.func (.func fid1) fst1.toArray caps1.toArray] (fun (_:Unit) => p0.length = y1.length) (fun _ => .tuple #[]) (fun _ => aJ Aa ca 3 1 p0.length (ap cI y1)) (fun _ => []) rfl rfl go_175 rfl (fun W2 hW2 => (g8 p0 (p0.length:Int) p1 y1 hy2 W2 _ (cA [R,aJ Aa ca 3 1 p0.length (ap cI p0)] [1]) Aa p0.length ca rfl fid1 fst1 caps1 hgo1 (fun W3 hb hR => hof1 W3 hb (hR.1 0 _ (by decide) rfl)) hW2).mono (fun e W3 h3 => ⟨(),h3.2.1,h3.1,h3.2.2⟩)) ?_
 rintro - hn3
 try dsimp only [lsz,lss,List.append_nil]
 refine oN ?_
 obtain rfl:=sI h
 exact cC (.inr rfl) rfl  (fun W2 hW2 => ⟨rfl,hn3,hW2.take 2⟩)
theorem lj (p0:Int) (p1:Int) (res:Int) (h:ec p0 p1 = some res) (W:World)  :
  Calls Tryz.prog 145 [vI p0,vI p1].toArray W fun e W2 => e = .returned (vI res) ∧ Ext W W2 []:=by
 unfold ec at h
 refine ab (m:=20) Tryz.func145 rfl rfl (nB rfl) (cS (cR (oY rfl (yAI rfl) (oN (eT (cS (cR (oY rfl (yMI rfl) ?_))))))))
 obtain ⟨y1,hy2,h⟩:=bOs h
 refine oY rfl (yC [vI p0] qZ rfl (fun W2 hW2 => eJ p0 y1 hy2 W2 ) rfl) (oY rfl (yAB rfl) (oN (eT (cS (cR (oY rfl (yMI rfl) ?_))))))
 obtain ⟨y3,hy4,h⟩:=bOs h
 refine oY rfl (yC [vI p1] qZ rfl (fun W2 hW2 => eJ p1 y3 hy4 W2 ) rfl) (oY rfl (yAB rfl) (oN (eT (cS (cS (cR (oY rfl (yMB rfl) (oN (eT ?_)))))))))
 rcases iOs h with ⟨hp5,h⟩ | ⟨hp5,h⟩
 ·refine cT (vB hp5) (cS (cS (cR (oY rfl (yMB rfl) (oN (eT ?_))))))
  rcases iOs h with ⟨hp6,h⟩ | ⟨hp6,h⟩
  ·refine cT (vB hp6) (cS (cR (oY rfl (yAI rfl) (oN (eT (ak (aa (aa ?_))))))))
   obtain rfl:=sI h
   exact al (.inl rfl) rfl (rVt (v:=vI 0) rfl) (fun W2 hW2 => ⟨rfl,hW2.none⟩)
  ·refine cF (vB hp6) (cK (eT (cS (cR (oY rfl (yAI rfl) (oN (eT (ak (aa ?_)))))))))
   obtain rfl:=sI h
   exact al (.inl rfl) rfl (rVt (v:=vI (-1)) rfl) (fun W2 hW2 => ⟨rfl,hW2.none⟩)
 ·refine cF (vB hp5) (cK (eT (cS (cS (cR (oY rfl (yMB rfl) (oN (eT ?_))))))))
  rcases iOs h with ⟨hp7,h⟩ | ⟨hp7,h⟩
  ·refine cT (vB hp7) (cS (cR (oY rfl (yAI rfl) (oN (eT (ak (aa ?_)))))))
   obtain rfl:=sI h
   exact al (.inl rfl) rfl (rVt (v:=vI 1) rfl) (fun W2 hW2 => ⟨rfl,hW2.none⟩)
  ·refine cF (vB hp7) (cK (eT (cS (cS (cR (oY rfl (yMI rfl) (oY rfl (yMI rfl) (oY rfl (bC rfl rfl) (oN (eT ?_))))))))))
   rcases iOs h with ⟨hp8,h⟩ | ⟨hp8,h⟩
   ·refine cT (vB hp8) (cS (cR (oY rfl (yAI rfl) (oN (eT (ak (aa ?_)))))))
    obtain rfl:=sI h
    exact al (.inl rfl) rfl (rVt (v:=vI (-1)) rfl) (fun W2 hW2 => ⟨rfl,hW2.none⟩)
   ·refine cF (vB hp8) (cK (eT (cS (cS (cR (oY rfl (yMI rfl) (oY rfl (yMI rfl) (oY rfl (iB rfl rfl) (oN (eT ?_))))))))))
    rcases iOs h with ⟨hp9,h⟩ | ⟨hp9,h⟩
    ·refine cT (vB hp9) (cS (cR (oY rfl (yAI rfl) (oN (eT (ak (aa ?_)))))))
     obtain rfl:=sI h
     exact al (.inl rfl) rfl (rVt (v:=vI 1) rfl) (fun W2 hW2 => ⟨rfl,hW2.none⟩)
    ·refine cF (vB hp9) (cK (eT (cS (cR (oY rfl (yAI rfl) (oN (eT (ak ?_))))))))
     obtain rfl:=sI h
     exact al (.inl rfl) rfl (rVt (v:=vI 0) rfl) (fun W2 hW2 => ⟨rfl,hW2.none⟩)
theorem nt (p0:Int) (p1:Int) (cap0:TY) (res:Int) (h:ff p0 p1 cap0 = some res) (W:World) (bc0:Nat) (A100_0:Option Addr) (n100_0 c100_0 : Nat) (hn100_0:n100_0 = cap0.fB.length) (hr100_0:Rd W A100_0 n100_0 c100_0 (ap TBay_cells cap0.fB)) (A100_1:Option Addr) (n100_1 c100_1 : Nat) (hn100_1:n100_1 = cap0.fR.length) (hr100_1:Rd W A100_1 n100_1 c100_1 (ap TOrder_cells cap0.fR)) (hcap0:Rd W (some ⟨bc0,0,none⟩) 1 1 [.slice A100_0 n100_0 c100_0,.slice A100_1 n100_1 c100_1]) :
  Calls Tryz.prog 144 [vI p0,vI p1,.pointer (some ⟨bc0,0,none⟩)].toArray W fun e W2 => e = .returned (vI res) ∧ Ext W W2 []:=by
 subst hn100_0
 subst hn100_1
 unfold ff at h
 refine ab (m:=19) Tryz.func144 rfl rfl (nB rfl) (cS (cR (oY rfl (yAI rfl) (oN (eT (cS ?_))))))
 refine bM 14 dD (by kernel_rfl) (by kernel_rfl) ?_
 refine qY rfl (yFR (A:=(some ⟨bc0,0,none⟩)) (j:=0) bq rfl) (qY rfl (yR (A:=(some ⟨bc0,0,none⟩)) (j:=(0 + 1)) (v:=.slice A100_1 cap0.fR.length c100_1) dT (RdL.arg hcap0) rfl rfl) (qY rfl (yMI rfl) ?_))
 obtain ⟨hg1,h⟩:=gOs h
 refine qY rfl (yI iK (by decide) hg1.1 hg1.2 (RdL.arg hr100_1) (eL ae rfl) rfl rfl) ?_
 refine qY rfl (yFR (A:=A100_1) (j:=(Int.toNat p1 * 5)) eX rfl) (qY rfl (yR (A:=A100_1) (j:=((Int.toNat p1 * 5) + 4)) (v:=vI ((rdL cap0.fR p1).fW)) ba (RdL.arg hr100_1) rfl (eG ae hg1.1 (aw hg1.2 rfl) rfl)) (qY rfl (yFR (A:=(some ⟨bc0,0,none⟩)) (j:=0) bq rfl) (qY rfl (yR (A:=(some ⟨bc0,0,none⟩)) (j:=(0 + 1)) (v:=.slice A100_1 cap0.fR.length c100_1) dT (RdL.arg hcap0) rfl rfl) (qY rfl (yMI rfl) ?_))))
 obtain ⟨hg2,h⟩:=gOs h
 refine qY rfl (yI iK (by decide) hg2.1 hg2.2 (RdL.arg hr100_1) (eL ae rfl) rfl rfl) ?_
 refine qY rfl (yFR (A:=A100_1) (j:=(Int.toNat p0 * 5)) eX rfl) (qY rfl (yR (A:=A100_1) (j:=((Int.toNat p0 * 5) + 4)) (v:=vI ((rdL cap0.fR p0).fW)) ba (RdL.arg hr100_1) rfl (eG ae hg2.1 (aw hg2.2 rfl) rfl)) ?_)
 obtain ⟨y3,hy4,h⟩:=bOs h
 refine qY rfl (yC [vI ((rdL cap0.fR p1).fW),vI ((rdL cap0.fR p0).fW)] go_145 rfl (fun W2 hW2 => lj ((rdL cap0.fR p1).fW) ((rdL cap0.fR p0).fW) y3 hy4 W2 ) rfl) (qY rfl (yAI rfl) (dF (oN (eT (ak ?_)))))
 obtain rfl:=sI h
 exact al (.inl rfl) rfl (rVt (v:=vI y3) rfl) (fun W2 hW2 => ⟨rfl,hW2.none⟩)
theorem lp (p0:TY) (res:(List (Int × Int))) (h:gW p0 = some res) (W:World) (Aa:Option Addr) (n0_0 ca : Nat) (hn0_0:n0_0 = p0.fB.length) (hr0_0:Rd W Aa n0_0 ca (ap TBay_cells p0.fB)) (Ab:Option Addr) (n0_1 cb : Nat) (hn0_1:n0_1 = p0.fR.length) (hr0_1:Rd W Ab n0_1 cb (ap TOrder_cells p0.fR)) :
  Calls Tryz.prog 100 [.agg #[.slice Aa n0_0 ca,.slice Ab n0_1 cb]].toArray W fun e W2 => ∃ x : Nat,e = .returned (.map (some x)) ∧ Ext W W2 [mapV Tryz.prog 3 kI cO kI 0 x res]:=by
 subst hn0_0
 subst hn0_1
 unfold gW at h
 refine ab (m:=35) Tryz.func100 rfl rfl (nB rfl) (cS (cR ?_))
 refine aO [.slice Aa p0.fB.length ca,.slice Ab p0.fR.length cb] rfl rfl rfl (fun b1 => ?_)
 refine oY rfl (bx rfl) (oN (eT (cS (cR (oY rfl (yAS rfl) (oN (eT (cS (cS (cR (oY rfl (yFA bq rfl) (oY rfl (yL 0 dT rfl rfl rfl) (oY rfl (bi (us:=[]) fI rfl) (oY rfl (yMI rfl) (oN (eT (cB ?_)))))))))))))))))
 obtain ⟨u5,hl11,h⟩:=bOs h
 refine dp 3 1 ?_
 refine bj (fun (s:(Int × (List Int))) L tm => ∃ (tm0:Nat → Value) (A1_s:Option Addr) (c1_s:Nat) (n1_s:Nat),n1_s = s.2.length ∧ L = [ac b1 53 [.slice Aa p0.fB.length ca,.slice Ab p0.fR.length cb],aJ A1_s c1_s 3 1 n1_s (ap cI s.2)] ∧ tm = (upd (upd (upd (upd (upd tm0 1 (.pointer (some ⟨b1,0,none⟩))) 2 (.map none)) 3 (.slice A1_s n1_s c1_s)) 10 (vI (p0.fR.length:Int))) 11 (vI s.1))) 0 hl11 ⟨_,none,0,0,rfl,rfl,(kp4 (kp rfl))⟩ ?_ ?_
 ·rintro s4 L tm st ⟨tm0_s4,A1_s4,c1_s4,n1_s4,rfl,rfl,rfl⟩ h
  unfold em at h
  refine cS (cR (oY rfl (bC rfl rfl) (oN (eT (cS ?_)))))
  rcases iOs h with ⟨hp6,h⟩ | ⟨hp6,h⟩
  ·refine cT (vB hp6) (cK (eT (cS (cB (cS (cR (oY rfl (yMI rfl) (oY rfl (yAI rfl) (oN (eT (cR (oY rfl (yMS rfl) (oY rfl (yMI rfl) ?_)))))))))))))
   refine aH 1 (ap cI [s4.1]) _ ng cH l0 oe (by decide) (by decide) (by kernel_rfl) (eL az rfl) rfl (fun b7 => ?_)
   obtain ⟨hg10,h⟩:=gOs h
   refine bU 1 cH l0 oe rfl rfl rfl (RdL.row 2 rfl) (eL az rfl) (cW nZ _) (dk hg10 (by decide)) rfl (fun A8 c9 => ?_)
   refine oY rfl (yAS rfl) (oN (av (eT (cR (oY rfl (a4 rfl rfl) (oY rfl (yMI rfl) (oN (aP 2 ?_))))))))
   obtain rfl:=sI h
   exact eN ⟨_,A8,c9,(s4.2.length + 1),(eZ rfl rfl),rfl,(kp4 (kp rfl))⟩
  ·refine cF (vB hp6) (aF (ai ?_))
   obtain rfl:=sI h
   exact ax ⟨rfl,_,A1_s4,c1_s4,s4.2.length,rfl,rfl,(kp4 (kp rfl))⟩
 ·intro e L tm hJ
  obtain ⟨rfl,tm0_u5,A1_u5,c1_u5,n1_u5,rfl,rfl,rfl⟩:=hJ
  refine ⟨(by intro hc; cases hc),?_⟩
  refine ad (eT (cS (cR (oY rfl (yMS rfl) (oY rfl (cg [.pointer (some ⟨b1,0,none⟩)] rfl rfl) ?_)))))
  obtain ⟨y14,hy15,h⟩:=bOs h
  refine eI 1 [.slice A1_u5 u5.2.length c1_u5,.func (.func 144) #[] #[.pointer (some ⟨b1,0,none⟩)]] (fun (_:Unit) => u5.2.length = y14.length) (fun _ => .tuple #[]) (fun _ => aJ A1_u5 c1_u5 3 1 u5.2.length (ap cI y14)) (fun _ => []) rfl rfl go_143 rfl (fun W2 hW2 => (fM u5.2 (fun x12 x13 => ff x12 x13 p0) y14 hy15 W2 _ (cA [ac b1 53 [.slice Aa p0.fB.length ca,.slice Ab p0.fR.length cb],aJ A1_u5 c1_u5 3 1 u5.2.length (ap cI u5.2)] [1]) A1_u5 u5.2.length c1_u5 rfl 144 [] [.pointer (some ⟨b1,0,none⟩)] go_144 (fun W3 hb hR x0 x1 y hxy => nt  x0 x1 p0 y hxy W3 b1 Aa p0.fB.length ca rfl ((RdL.arg hr0_0) W3 (hW2.rest hb hR)) Ab p0.fR.length cb rfl ((RdL.arg hr0_1) W3 (hW2.rest hb hR)) ((RdL.cells 0 rfl) W3 (hW2.rest hb hR))) hW2).mono (fun e W3 h3 => ⟨(),h3.2.1,h3.1,h3.2.2⟩)) ?_
  rintro - hn16
  try dsimp only [lsz,lss,List.append_nil]
  refine oN (eT (cS (cR ?_)))
  refine f7 3 kI cO kI 0 rfl (fun b17 => ?_)
  refine oY rfl (bx rfl) (oN (eT (cS (cS (cR (oY rfl (yMS rfl) (oY rfl (bi (us:=[]) cH rfl) (oY rfl (yMI rfl) (oN (eT (cB ?_)))))))))))
  obtain ⟨u21,hl26,h⟩:=bOs h
  refine bj (fun (s:(Int × (List (Int × Int)))) L tm => ∃ (tm0:Nat → Value),L = [ac b1 53 [.slice Aa p0.fB.length ca,.slice Ab p0.fR.length cb],aJ A1_u5 c1_u5 3 1 u5.2.length (ap cI y14),mapV Tryz.prog 3 kI cO kI 0 b17 s.2] ∧ tm = (upd (upd (upd (upd (upd (upd tm0 1 (.pointer (some ⟨b1,0,none⟩))) 2 (.map none)) 5 (.map (some b17))) 23 (.slice A1_u5 u5.2.length c1_u5)) 24 (vI (u5.2.length:Int))) 25 (vI s.1))) 2 hl26 ⟨_,rfl,(kp4 (kp (kp rfl)))⟩ ?_ ?_
  ·rintro s20 L tm st ⟨tm0_s20,rfl,rfl⟩ h
   unfold dK at h
   refine cS (cR (oY rfl (bC rfl rfl) (oN (eT (cS ?_)))))
   rcases iOs h with ⟨hp22,h⟩ | ⟨hp22,h⟩
   ·refine cT (vB hp22) (cK (eT (cS (cB (cS (cR ?_))))))
    obtain ⟨hg23,h⟩:=gOs h
    refine oY rfl (yI cN (by decide) hg23.1 hg23.2 (RdL.row 1 rfl) (eL az hn16) rfl rfl) ?_
    refine oY rfl (yR (A:=A1_u5) (j:=(Int.toNat s20.1 * 1)) (v:=vI (rdL y14 s20.1)) ba (RdL.row 1 rfl) rfl (aG az hg23.1 (aw hg23.2 hn16) rfl)) (oY rfl (yAI rfl) (oN (eT (cR (oY rfl (bh rfl) (oY rfl (yN 0 [.slice Aa p0.fB.length ca,.slice Ab p0.fR.length cb] bO rfl rfl rfl) (oY rfl (yMI rfl) ?_)))))))
    obtain ⟨y24,hy25,h⟩:=bOs h
    refine ei [2] [] [.map (some b17),.agg #[.slice Aa p0.fB.length ca,.slice Ab p0.fR.length cb],vI (rdL y14 s20.1)] [] (fun (_:Unit) => True) (fun _ => .bool y24.1) (fun _ => [mapV Tryz.prog 3 kI cO kI 0 b17 y24.2]) (fun _ => []) (Foc.c1 rfl) (by decide) rfl qv rfl rfl (fun _ => rfl) (fun W2 hW2 => dX s20.2 p0 (rdL y14 s20.1) y24 hy25 W2 _ (cA [ac b1 53 [.slice Aa p0.fB.length ca,.slice Ab p0.fR.length cb],aJ A1_u5 c1_u5 3 1 u5.2.length (ap cI y14),mapV Tryz.prog 3 kI cO kI 0 b17 s20.2] [2]) b17 Aa p0.fB.length ca rfl (fun W3 hb hR => (RdL.arg hr0_0) W3 (hW2.restL hb hR)) Ab p0.fR.length cb rfl (fun W3 hb hR => (RdL.arg hr0_1) W3 (hW2.restL hb hR)) hW2) ?_
    rintro - -
    try dsimp only [ke,lsz,lss,List.append_nil]
    refine oN (av (eT (cR (oY rfl (a4 rfl rfl) (oY rfl (yMI rfl) (oN ?_))))))
    obtain rfl:=sI h
    exact eN ⟨_,rfl,(kp4 (kp (kp rfl)))⟩
   ·refine cF (vB hp22) (aF (ai ?_))
    obtain rfl:=sI h
    exact ax ⟨rfl,_,rfl,(kp4 (kp (kp rfl)))⟩
  ·intro e L tm hJ
   obtain ⟨rfl,tm0_u21,rfl,rfl⟩:=hJ
   refine ⟨(by intro hc; cases hc),?_⟩
   refine ad (eT (cS (cR (oY rfl (bh rfl) (oY rfl (bx rfl) (oN (eT (ak ?_))))))))
   obtain rfl:=sI h
   exact al (.inl rfl) rfl (rVt (v:=.map (some b17)) rfl) (fun W2 hW2 => ⟨b17,rfl,(hW2.pick 2 rfl)⟩)
theorem g9 (p0:(List (Int × Int))) (p1:TY) (res:Int) (h:cV p0 p1 = some res) (W:World) (bm0_0:Nat) (hm0_0:(mapV Tryz.prog 3 kI cO kI 0 bm0_0 p0).holds W) (Ac:Option Addr) (n1_0 cc : Nat) (hn1_0:n1_0 = p1.fB.length) (hr1_0:Rd W Ac n1_0 cc (ap TBay_cells p1.fB)) (A1_1:Option Addr) (n1_1 c1_1 : Nat) (hn1_1:n1_1 = p1.fR.length) (hr1_1:Rd W A1_1 n1_1 c1_1 (ap TOrder_cells p1.fR)) :
  Calls Tryz.prog 130 [.map (some bm0_0),.agg #[.slice Ac n1_0 cc,.slice A1_1 n1_1 c1_1]].toArray W fun e W2 => e = .returned (vI res) ∧ Ext W W2 []:=by
 subst hn1_0
 subst hn1_1
 unfold cV at h
 refine ab (m:=23) Tryz.func130 rfl rfl (nB rfl) (cS (cR ?_))
 refine aO [.slice Ac p1.fB.length cc,.slice A1_1 p1.fR.length c1_1] rfl rfl rfl (fun b1 => ?_)
 refine oY rfl (yAI rfl) (oN (eT (cS (cR (oY rfl (yAI rfl) (oN (eT (cS (cS (cR (oY rfl (bh rfl) (pu hm0_0 rP nL rfl rfl (fun b2 k3 hk4 => (oN (eT ?_)))))))))))))))
 obtain ⟨hg14,h⟩:=gOs h
 refine cB (qy (fun (s12:Nat × (Int → Bool) × Int) L tm => FoldI cO p0 (fun a y5 => w64 (a + ((rdL p1.fR (ar 0 p0 y5)).fW))) 0 s12 ∧ ∃ (tm0:Nat → Value),L = [ac b1 53 [.slice Ac p1.fB.length cc,.slice A1_1 p1.fR.length c1_1],rngA W Tryz.prog 3 kI cO kI 0 bm0_0 b2 p0 s12.2.1 s12.1 none] ∧ tm = (upd (upd (upd (upd (upd (upd tm0 0 (.map (some bm0_0))) 1 (.agg #[.slice Ac p1.fB.length cc,.slice A1_1 p1.fR.length c1_1])) 3 (.pointer (some ⟨b1,0,none⟩))) 4 (vI 0)) 5 (vI s12.2.2)) 9 (.pointer (some ⟨b2,0,none⟩)))) (fun s => s.1) (k3,(fun y => bb p0 y),0) ⟨FoldI.start,_,rfl,(kp4 (kp (kp rfl)))⟩ ?_)
 rintro s12 L tm ⟨hI13,tm0,rfl,rfl⟩
 refine cS (cR ?_)
 refine rg 1 ((mapV Tryz.prog 3 kI cO kI 0 bm0_0 p0).inb _ hm0_0 _ rfl) rfl rP rfl rfl (fun hno11 => ?_) (fun y5 k6 hy7 hly8 hM9 hk10 => ?_)
 ·refine oY rfl (yE rfl rfl) (oN (eT (cS (cF rfl (aF (ai ?_))))))
  refine sn (by intro h; cases h) ?_
  have hS16:=hI13.done (C:=(fun y5 => ((0:Int) ≤ ar 0 p0 y5 ∧ ar 0 p0 y5 < (p1.fR.length:Int)))) hg14 hno11 (fun x _ y _ z => w64_comm (fun y5 => ((rdL p1.fR (ar 0 p0 y5)).fW)) x y z)
  rw [hS16]
  refine ad (eT (cS (cR (oY rfl (yMI rfl) (oY rfl (yAI rfl) (oN (eT (ak ?_))))))))
  obtain rfl:=sI h
  exact al (.inl rfl) rfl (rVt (v:=vI ((d4 p0).foldl (fun a y5 => w64 (a + ((rdL p1.fR (ar 0 p0 y5)).fW))) 0)) rfl) (fun W2 hW2 => ⟨rfl,hW2.none⟩)
 ·refine oY rfl (yE rfl rfl) (oN (eT (cS (cT rfl (cK (eT (cB (cS (cR (oY rfl (qt 1 ((mapV Tryz.prog 3 kI cO kI 0 bm0_0 p0).inb _ hm0_0 _ rfl) rfl rfl) (oY rfl (yE rfl rfl) (oY rfl (yAI rfl) (oN (eT (cR (oY rfl (yMI rfl) (oY rfl (yFA bq rfl) (oY rfl (yL 0 dT rfl rfl rfl) (oY rfl (yMI rfl) ?_)))))))))))))))))))
  refine oY rfl (yI iK (by decide) (jf (C:=(fun y5 => ((0:Int) ≤ ar 0 p0 y5 ∧ ar 0 p0 y5 < (p1.fR.length:Int)))) hg14 hM9).1 (jf (C:=(fun y5 => ((0:Int) ≤ ar 0 p0 y5 ∧ ar 0 p0 y5 < (p1.fR.length:Int)))) hg14 hM9).2 (RdL.arg hr1_1) (eL ae rfl) rfl rfl) ?_
  refine oY rfl (yFR (A:=A1_1) (j:=(Int.toNat (ar 0 p0 y5) * 5)) eX rfl) (oY rfl (yR (A:=A1_1) (j:=((Int.toNat (ar 0 p0 y5) * 5) + 4)) (v:=vI ((rdL p1.fR (ar 0 p0 y5)).fW)) ba (RdL.arg hr1_1) rfl (eG ae (jf (C:=(fun y5 => ((0:Int) ≤ ar 0 p0 y5 ∧ ar 0 p0 y5 < (p1.fR.length:Int)))) hg14 hM9).1 (aw (jf (C:=(fun y5 => ((0:Int) ≤ ar 0 p0 y5 ∧ ar 0 p0 y5 < (p1.fR.length:Int)))) hg14 hM9).2 rfl) rfl)) (oY rfl (a4 rfl rfl) (oY rfl (yAI rfl) (oN (av (mQ 1 rfl ?_))))))
  exact qK (k6,(fun q => s12.2.1 q && !decide (q = y5)),w64 (s12.2.2 + ((rdL p1.fR (ar 0 p0 y5)).fW))) ⟨hI13.step hy7 hly8 hM9,_,rfl,(kp4 (kp (kp rfl)))⟩ hk10
theorem el (p0:TY) (res:Int) (h:cU p0 = some res) (W:World) (Aa:Option Addr) (n0_0 ca : Nat) (hn0_0:n0_0 = p0.fB.length) (hr0_0:Rd W Aa n0_0 ca (ap TBay_cells p0.fB)) (Ab:Option Addr) (n0_1 cb : Nat) (hn0_1:n0_1 = p0.fR.length) (hr0_1:Rd W Ab n0_1 cb (ap TOrder_cells p0.fR)) :
  Calls Tryz.prog 83 [.agg #[.slice Aa n0_0 ca,.slice Ab n0_1 cb]].toArray W fun e W2 => e = .returned (vI res) ∧ Ext W W2 []:=by
 subst hn0_0
 subst hn0_1
 unfold cU at h
 refine ab (m:=10) Tryz.func83 rfl rfl (nB rfl) (cS (cR ?_))
 refine aO [.slice Aa p0.fB.length ca,.slice Ab p0.fR.length cb] rfl rfl rfl (fun b1 => ?_)
 refine oY rfl (yAI rfl) (oN (eT (cS (cR (oY rfl (yN 0 [.slice Aa p0.fB.length ca,.slice Ab p0.fR.length cb] bO rfl rfl rfl) ?_)))))
 obtain ⟨y2,hy3,h⟩:=bOs h
 refine lu [.agg #[.slice Aa p0.fB.length ca,.slice Ab p0.fR.length cb]] _ _ rfl go_100 rfl (fun W2 hW2 => lp p0 y2 hy3 W2 Aa p0.fB.length ca rfl ((RdL.arg hr0_0) W2 hW2) Ab p0.fR.length cb rfl ((RdL.arg hr0_1) W2 hW2)) ?_
 rintro b4
 refine oY rfl (pM [.map (some b4)] [] rfl rfl) (oY rfl (dI rfl) (oN (eT (cS (cR (oY rfl (bZ rfl) (oY rfl (yN 0 [.slice Aa p0.fB.length ca,.slice Ab p0.fR.length cb] bO rfl rfl rfl) ?_)))))))
 obtain ⟨y5,hy6,h⟩:=bOs h
 refine oY rfl (gR (fst:=[.map (some b4)]) (caps:=[]) [.agg #[.slice Aa p0.fB.length ca,.slice Ab p0.fR.length cb]] go_130 rfl rfl (fun W2 hW2 => g9 y2 p0 y5 hy6 W2 b4 ((MpL.own 1 rfl) W2 hW2) Aa p0.fB.length ca rfl ((RdL.arg hr0_0) W2 hW2) Ab p0.fR.length cb rfl ((RdL.arg hr0_1) W2 hW2))) (oY rfl (yAI rfl) (oN (eT (ak ?_))))
 obtain rfl:=sI h
 exact al (.inl rfl) rfl (rVt (v:=vI y5) rfl) (fun W2 hW2 => ⟨rfl,hW2.none⟩)
theorem mn (p0__:TO) (p1:Int → Option Int) (cap0:Int) (res:Bool) (h:iU p0__ p1 cap0 = some res) (W:World) (fid1:Nat) (fst1 caps1 : List Value) (hgo1:bD Tryz.prog fid1 = true) (hof1:∀ W2,Below W.heap.size W W2 → ∀ x,∀ y,p1 x = some y → Calls Tryz.prog fid1 (fst1 ++ (([vI x] : List Value) ++ caps1)).toArray W2 fun e W3 => e = .returned (vI y) ∧ Ext W2 W3 []) (bc0:Nat) (hcap0:Rd W (some ⟨bc0,0,none⟩) 1 1 (cI cap0)) :
  Calls Tryz.prog 85 [.agg #[vI p0__.fID,vI p0__.fH.fLo,vI p0__.fH.fHi,vI p0__.fD,vI p0__.fW],.func (.func fid1) fst1.toArray caps1.toArray,.pointer (some ⟨bc0,0,none⟩)].toArray W fun e W2 => e = .returned (.bool res) ∧ Ext W W2 []:=by
 unfold iU at h
 refine ab (m:=10) Tryz.func85 rfl rfl (nB rfl) (cS (cR ?_))
 refine aO [vI p0__.fID,vI p0__.fH.fLo,vI p0__.fH.fHi,vI p0__.fD,vI p0__.fW] rfl rfl rfl (fun b1 => ?_)
 refine oY rfl (yAB rfl) (oN (eT (cS ?_)))
 refine bM 5 dD (by kernel_rfl) (by kernel_rfl) ?_
 refine qY rfl (bL (v:=.func (.func fid1) fst1.toArray caps1.toArray) rfl) ?_
 obtain ⟨y2,hy3,h⟩:=bOs h
 refine qY rfl (gR [vI 0] hgo1 rfl rfl (fun W2 hW2 => hof1 W2 hW2.below 0 y2 hy3)) (qY rfl (yR (A:=(some ⟨bc0,0,none⟩)) (j:=0) (v:=vI cap0) ba (RdL.arg hcap0) rfl rfl) (qY rfl (bC rfl rfl) (qY rfl (yAB rfl) (dF (oN (eT (ak ?_)))))))
 obtain rfl:=sI h
 exact al (.inl rfl) rfl (rVt (v:=.bool (decide (y2 < cap0))) rfl) (fun W2 hW2 => ⟨rfl,hW2.none⟩)
theorem mV (p0:TO) (p1:Int → Option Int) (cap0:Int) (res:Bool) (h:jM p0 p1 cap0 = some res) (W:World) (fid1:Nat) (fst1 caps1 : List Value) (hgo1:bD Tryz.prog fid1 = true) (hof1:∀ W2,Below W.heap.size W W2 → ∀ x,∀ y,p1 x = some y → Calls Tryz.prog fid1 (fst1 ++ (([vI x] : List Value) ++ caps1)).toArray W2 fun e W3 => e = .returned (vI y) ∧ Ext W2 W3 []) (bc0:Nat) (hcap0:Rd W (some ⟨bc0,0,none⟩) 1 1 (cI cap0)) :
  Calls Tryz.prog 88 [.agg #[vI p0.fID,vI p0.fH.fLo,vI p0.fH.fHi,vI p0.fD,vI p0.fW],.func (.func fid1) fst1.toArray caps1.toArray,.pointer (some ⟨bc0,0,none⟩)].toArray W fun e W2 => e = .returned (.bool res) ∧ Ext W W2 []:=by
 unfold jM at h
 refine ab (m:=13) Tryz.func88 rfl rfl (nB rfl) (cS (cR ?_))
 refine aO [vI p0.fID,vI p0.fH.fLo,vI p0.fH.fHi,vI p0.fD,vI p0.fW] rfl rfl rfl (fun b1 => ?_)
 refine oY rfl (yAB rfl) (oN (eT (cS ?_)))
 refine bM 8 dD (by kernel_rfl) (by kernel_rfl) ?_
 refine qY rfl (bL (v:=.func (.func fid1) fst1.toArray caps1.toArray) rfl) (qY rfl (yFA eX rfl) (qY rfl (yL 0 ba rfl rfl rfl) (qY rfl (a4 rfl rfl) ?_)))
 obtain ⟨y2,hy3,h⟩:=bOs h
 refine qY rfl (gR [vI (w64 (p0.fW + 1))] hgo1 rfl rfl (fun W2 hW2 => hof1 W2 hW2.below (w64 (p0.fW + 1)) y2 hy3)) (qY rfl (yR (A:=(some ⟨bc0,0,none⟩)) (j:=0) (v:=vI cap0) ba (RdL.arg hcap0) rfl rfl) (qY rfl (du rfl rfl) (qY rfl (yAB rfl) (dF (oN (eT (ak ?_)))))))
 obtain rfl:=sI h
 exact al (.inl rfl) rfl (rVt (v:=.bool (y2 == cap0)) rfl) (fun W2 hW2 => ⟨rfl,hW2.none⟩)
theorem d7 (p0:(List TO)) (res:(List TO)) (h:bK p0 = some res) (W:World) (Aa:Option Addr) (n0_0 ca : Nat) (hn0_0:n0_0 = p0.length) (hr0_0:Rd W Aa n0_0 ca (ap TOrder_cells p0)) :
  Calls Tryz.prog 115 [.slice Aa n0_0 ca].toArray W fun e W2 => ∃ x : Option Addr × Nat × Nat,x.2.1 = res.length ∧ e = .returned (.slice x.1 x.2.1 x.2.2) ∧ Ext W W2 [aJ x.1 x.2.2 65 5 x.2.1 (ap TOrder_cells res)]:=by
 subst hn0_0
 unfold bK at h
 refine ab (m:=8) Tryz.func115 rfl rfl (nB rfl) (cS (cR (oY rfl (yAS rfl) (oN (eT (cS (cS (cR (oY rfl (yMS rfl) (oY rfl (og fI rfl rfl) (oN (eT ?_))))))))))))
 rcases aq (Option.isNone Aa) with hp1 | hp1
 ·refine cT (vB hp1) ?_
  have z6:=oH (Option.isNone_iff_eq_none.1 hp1 ▸ hr0_0) ae (by decide)
  replace h:=(gOs h).2
  rw [z6] at h
  refine cS (cR (oY rfl (yAS rfl) (oN (eT (ak (aa ?_))))))
  obtain rfl:=sI h
  exact al (.inl rfl) rfl (rVt (v:=.slice none 0 0) rfl) (fun W2 hW2 => ⟨(none,0,0),rfl,rfl,((hW2.nilrow 65 5).pick 0 rfl)⟩)
 ·refine cF (vB hp1) (cK (eT (cS (cR ?_))))
  refine eB TOrder_cells fI jN oo rfl (fun b2 => ?_)
  refine oY rfl (yMS rfl) ?_
  obtain ⟨hg5,h⟩:=gOs h
  refine bU 0 fI jN oo rfl rfl rfl (RdL.arg hr0_0) (eL ae rfl) (cW eO _) (dk hg5 (by decide)) rfl (fun A3 c4 => ?_)
  refine oY rfl (yAS rfl) (oN (eT (ak ?_)))
  obtain rfl:=sI h
  exact al (.inl rfl) rfl (rVt (v:=.slice A3 (0 + p0.length) c4) rfl) (fun W2 hW2 => ⟨(A3,(0 + p0.length),c4),(eZ rfl rfl),rfl,(hW2.pick 0 rfl)⟩)
end Go.Proofs.YthndghnkebboaaaGreat
set_option maxHeartbeats 4000000
set_option maxRecDepth 100000
namespace Go.Proofs.YthndghnkebboaaaGreat
open Go.RowKit (Below)
attribute [local irreducible] OX QX CX EX OpY Calls CallsIn
theorem jz (p0:Int) (cap0:TY) (cap1:Int) (res:Int) (h:fe p0 cap0 cap1 = some res) (W:World) (bc0:Nat) (A100_0:Option Addr) (n100_0 c100_0 : Nat) (hn100_0:n100_0 = cap0.fB.length) (hr100_0:Rd W A100_0 n100_0 c100_0 (ap TBay_cells cap0.fB)) (A100_1:Option Addr) (n100_1 c100_1 : Nat) (hn100_1:n100_1 = cap0.fR.length) (hr100_1:Rd W A100_1 n100_1 c100_1 (ap TOrder_cells cap0.fR)) (hcap0:Rd W (some ⟨bc0,0,none⟩) 1 1 [.slice A100_0 n100_0 c100_0,.slice A100_1 n100_1 c100_1]) (bc1:Nat) (hcap1:Rd W (some ⟨bc1,0,none⟩) 1 1 (cI cap1)) :
  Calls Tryz.prog 131 [vI p0,.pointer (some ⟨bc0,0,none⟩),.pointer (some ⟨bc1,0,none⟩)].toArray W fun e W2 => e = .returned (vI res) ∧ Ext W W2 []:=by
 subst hn100_0
 subst hn100_1
 unfold fe at h
 refine ab (m:=20) Tryz.func131 rfl rfl (nB rfl) (cS (cR (oY rfl (yAI rfl) (oN (eT (cS ?_))))))
 obtain ⟨y2,hy3,h⟩:=bOs h
 refine d6 [[],[0],[],[2],[2,3],[0,1,2,3,4],[],[0,1,2,3,4,5,6]] [(none,0,[]),(none,0,[]),(none,0,[]),(none,0,[]),(none,1,[]),(none,0,[true]),(none,1,[false]),(some 1,0,[true,true])] [⟨fun _ => slA (some ⟨bc0,0,none⟩) (0 + 0),fun _ => noR,fun _ => []⟩,⟨fun _ => .slice A100_0 cap0.fB.length c100_0,fun _ => noR,fun _ => []⟩,⟨fun _ => slA (some ⟨bc0,0,none⟩) (0 + 1),fun _ => noR,fun _ => []⟩,⟨fun _ => .slice A100_1 cap0.fR.length c100_1,fun _ => noR,fun _ => []⟩,⟨fun ξ1 => .slice (ξ1 4 0).1 y2.length (ξ1 4 0).2.2.1,fun _ => noR,fun ξ1 => [aJ (ξ1 4 0).1 (ξ1 4 0).2.2.1 65 5 y2.length (ap TOrder_cells y2)]⟩,⟨fun ξ1 => .agg #[.slice A100_0 cap0.fB.length c100_0,.slice (ξ1 4 0).1 y2.length (ξ1 4 0).2.2.1],fun _ => noR,fun _ => []⟩,⟨fun ξ1 => .pointer (some ⟨(ξ1 6 0).2.1,0,none⟩),fun _ => noR,fun ξ1 => [ac (ξ1 6 0).2.1 53 [.slice none 0 0,.slice none 0 0]]⟩,⟨fun _ => undef,fun ξ1 => ac (ξ1 6 0).2.1 53 [.slice A100_0 cap0.fB.length c100_0,.slice (ξ1 4 0).1 y2.length (ξ1 4 0).2.2.1],fun _ => []⟩] 0 dD (by kernel_rfl) (by kernel_rfl) ⟨⟨fun ξ1 ξ1' h => ⟨rfl,rfl,rfl⟩,fun _ => rfl⟩,⟨fun ξ1 ξ1' h => ⟨rfl,rfl,rfl⟩,fun _ => rfl⟩,⟨fun ξ1 ξ1' h => ⟨rfl,rfl,rfl⟩,fun _ => rfl⟩,⟨fun ξ1 ξ1' h => ⟨rfl,rfl,rfl⟩,fun _ => rfl⟩,⟨fun ξ1 ξ1' h => ⟨by simp only [h 4 (.inl rfl)],rfl,by simp only [h 4 (.inl rfl)]⟩,fun _ => rfl⟩,⟨fun ξ1 ξ1' h => ⟨by simp only [h 4 (.inr rfl)],rfl,rfl⟩,fun _ => rfl⟩,⟨fun ξ1 ξ1' h => ⟨by simp only [h 6 (.inl rfl)],rfl,by simp only [h 6 (.inl rfl)]⟩,fun _ => rfl⟩,⟨fun ξ1 ξ1' h => ⟨rfl,by simp only [h 4 (.inr rfl),h 6 (.inr rfl)],rfl⟩,fun _ => rfl⟩,trivial⟩ rfl (fun ξ1 => ?_)
 refine bX rfl (fun L2 => ?_) ?_
 ·dsimp only [aA,lca,lna]
  refine oY rfl (yFR (A:=(some ⟨bc0,0,none⟩)) (j:=0) cq rfl) (oN ?_)
  exact ao (fun _ => (none,0,0,[],noR)) rfl (List.append_nil _)
 dsimp only [bB,lsz,lss,lna,lca,List.append_nil]
 refine bX rfl (fun L2 => ?_) ?_
 ·dsimp only [aA,lca,lna]
  refine oY rfl (yR (A:=(some ⟨bc0,0,none⟩)) (j:=(0 + 0)) (v:=.slice A100_0 cap0.fB.length c100_0) gz (RdL.arg hcap0) rfl rfl) (oN ?_)
  exact ao (fun _ => (none,0,0,[],noR)) rfl (List.append_nil _)
 dsimp only [bB,lsz,lss,lna,lca,List.append_nil]
 refine bX rfl (fun L2 => ?_) ?_
 ·dsimp only [aA,lca,lna]
  refine oY rfl (yFR (A:=(some ⟨bc0,0,none⟩)) (j:=0) bq rfl) (oN ?_)
  exact ao (fun _ => (none,0,0,[],noR)) rfl (List.append_nil _)
 dsimp only [bB,lsz,lss,lna,lca,List.append_nil]
 refine bX rfl (fun L2 => ?_) ?_
 ·dsimp only [aA,lca,lna]
  refine oY rfl (yR (A:=(some ⟨bc0,0,none⟩)) (j:=(0 + 1)) (v:=.slice A100_1 cap0.fR.length c100_1) dT (RdL.arg hcap0) rfl rfl) (oN ?_)
  exact ao (fun _ => (none,0,0,[],noR)) rfl (List.append_nil _)
 dsimp only [bB,lsz,lss,lna,lca,List.append_nil]
 refine bX rfl (fun L2 => ?_) ?_
 ·dsimp only [aA,lca,lna]
  refine oC [.slice A100_1 cap0.fR.length c100_1] _ _ _ rfl go_115 rfl (fun W2 hW2 => d7 cap0.fR y2 hy3 W2 A100_1 cap0.fR.length c100_1 rfl ((RdL.arg hr100_1) W2 hW2)) ?_
  rintro ⟨A4,n6,c5⟩ hn7
  replace hn7 : n6 = y2.length:=hn7; subst hn7
  refine oN ?_
  exact ao (fun _ => (A4,0,c5,[],noR)) rfl rfl
 dsimp only [bB,lsz,lss,lna,lca,List.append_nil]
 refine bX rfl (fun L2 => ?_) ?_
 ·dsimp only [aA,lca,lna]
  refine oY rfl (aV [.slice A100_0 cap0.fB.length c100_0,.slice (ξ1 4 0).1 y2.length (ξ1 4 0).2.2.1] [(0,1),(1,1)] pr nA (by kernel_rfl)) ?_
  refine oN ?_
  exact ao (fun _ => (none,0,0,[],noR)) rfl (List.append_nil _)
 dsimp only [bB,lsz,lss,lna,lca,List.append_nil]
 refine bX rfl (fun L2 => ?_) ?_
 ·dsimp only [aA,lca,lna]
  refine ay nA rfl (fun b8 => ?_)
  refine oN ?_
  exact ao (fun _ => (none,b8,0,[],noR)) rfl rfl
 dsimp only [bB,lsz,lss,lna,lca,List.append_nil]
 refine rm rfl (fun L2 => ?_) ?_
 ·dsimp only [aA,lca,lna]
  refine cv rfl (yS 1 [.slice A100_0 cap0.fB.length c100_0,.slice (ξ1 4 0).1 y2.length (ξ1 4 0).2.2.1] rk rfl (nB rfl) rfl rfl rfl) (oN ?_)
  first | exact bE (fun _ => (none,0,0,[],noR)) rfl | exact bE (fun _ => (none,0,0,[],noR)) (List.append_nil _)
 dsimp only [bB,lsz,lss,lna,lca,List.append_nil]
 refine jO (eT (cS (cR (oY rfl (yFA bq rfl) (oY rfl (yL 1 dT rfl rfl rfl) (oY rfl (yR (A:=(some ⟨bc1,0,none⟩)) (j:=0) (v:=vI cap1) ba (RdL.arg hcap1) rfl rfl) (oY rfl (yMI rfl) ?_)))))))
 obtain ⟨hg9,h⟩:=gOs h
 refine oY rfl (yI iK (by decide) hg9.1 hg9.2 (RdL.row 0 rfl) (eL ae rfl) rfl rfl) ?_
 refine oY rfl (yFR (A:=(ξ1 4 0).1) (j:=(Int.toNat cap1 * 5)) eX rfl) ?_
 refine cv rfl (y_storeRF 0 (xs:=y2) ae (TO.mk ((rdL y2 cap1).fID) (TSpan.mk ((rdL y2 cap1).fH.fLo) ((rdL y2 cap1).fH.fHi)) ((rdL y2 cap1).fD) p0) 4 (by decide) pW rfl hg9.1 (aw hg9.2 rfl) rfl rfl rfl rfl) ?_
 refine oN (eT (cS (cR (oY rfl (yN 1 [.slice A100_0 cap0.fB.length c100_0,.slice (ξ1 4 0).1 y2.length (ξ1 4 0).2.2.1] bO rfl rfl rfl) ?_))))
 obtain ⟨y10,hy11,h⟩:=bOs h
 refine oY rfl (yC [.agg #[.slice A100_0 cap0.fB.length c100_0,.slice (ξ1 4 0).1 y2.length (ξ1 4 0).2.2.1]] rK rfl (fun W2 hW2 => el (TY.mk cap0.fB (y2.set (Int.toNat cap1) (TO.mk ((rdL y2 cap1).fID) (TSpan.mk ((rdL y2 cap1).fH.fLo) ((rdL y2 cap1).fH.fHi)) ((rdL y2 cap1).fD) p0))) y10 hy11 W2 A100_0 cap0.fB.length c100_0 rfl ((RdL.arg hr100_0) W2 hW2) (ξ1 4 0).1 y2.length (ξ1 4 0).2.2.1 (fu rfl) ((RdL.row 0 rfl) W2 hW2)) rfl) (oY rfl (yAI rfl) (oN (eT (ak ?_))))
 obtain rfl:=sI h
 exact al (.inl rfl) rfl (rVt (v:=vI y10) rfl) (fun W2 hW2 => ⟨rfl,hW2.none⟩)
theorem js (p0:TY) (cap0:Int) (res:(List Int)) (h:fx p0 cap0 = some res) (W:World) (Aa:Option Addr) (n0_0 ca : Nat) (hn0_0:n0_0 = p0.fB.length) (hr0_0:Rd W Aa n0_0 ca (ap TBay_cells p0.fB)) (Ab:Option Addr) (n0_1 cb : Nat) (hn0_1:n0_1 = p0.fR.length) (hr0_1:Rd W Ab n0_1 cb (ap TOrder_cells p0.fR)) (bc0:Nat) (hcap0:Rd W (some ⟨bc0,0,none⟩) 1 1 (cI cap0)) :
  Calls Tryz.prog 84 [.agg #[.slice Aa n0_0 ca,.slice Ab n0_1 cb],.func (.func 85) #[] #[.pointer (some ⟨bc0,0,none⟩)]].toArray W fun e W2 => ∃ x : Option Addr × Nat × Nat,x.2.1 = res.length ∧ e = .returned (.slice x.1 x.2.1 x.2.2) ∧ Ext W W2 [aJ x.1 x.2.2 3 1 x.2.1 (ap cI res)]:=by
 subst hn0_0
 subst hn0_1
 unfold fx at h
 refine ab (m:=31) Tryz.func84 rfl rfl (nB rfl) (cS (cR ?_))
 refine aO [.slice Aa p0.fB.length ca,.slice Ab p0.fR.length cb] rfl rfl rfl (fun b1 => ?_)
 refine oY rfl (yAS rfl) (oN (eT (cS (cR (oY rfl (yAS rfl) (oN (eT (cS (cS (cR (oY rfl (yFA bq rfl) (oY rfl (yL 0 dT rfl rfl rfl) (oY rfl (bi (us:=[]) fI rfl) (oY rfl (yMI rfl) (oN (eT (cB ?_)))))))))))))))))
 obtain ⟨u5,hl18,h⟩:=bOs h
 refine dp 3 1 ?_
 refine bj (fun (s:(Int × (List Int))) L tm => ∃ (tm0:Nat → Value) (A1_s:Option Addr) (c1_s:Nat) (n1_s:Nat),n1_s = s.2.length ∧ L = [ac b1 53 [.slice Aa p0.fB.length ca,.slice Ab p0.fR.length cb],aJ A1_s c1_s 3 1 n1_s (ap cI s.2)] ∧ tm = (upd (upd (upd (upd (upd (upd (upd tm0 1 (.func (.func 85) #[] #[slA (some ⟨bc0,0,none⟩) 0])) 2 (.pointer (some ⟨b1,0,none⟩))) 4 (.slice none 0 0)) 5 (.slice A1_s n1_s c1_s)) 10 (.slice Ab p0.fR.length cb)) 11 (vI (p0.fR.length:Int))) 12 (vI s.1))) 0 hl18 ⟨_,none,0,0,rfl,rfl,(kp4 (kp (kp (kp rfl))))⟩ ?_ ?_
 ·rintro s4 L tm st ⟨tm0_s4,A1_s4,c1_s4,n1_s4,rfl,rfl,rfl⟩ h
  unfold gl at h
  refine cS (cR (oY rfl (bC rfl rfl) (oN (eT (cS ?_)))))
  rcases iOs h with ⟨hp6,h⟩ | ⟨hp6,h⟩
  ·refine cT (vB hp6) (cK (eT (cS (cB (cS (cR (oY rfl (yMI rfl) ?_)))))))
   obtain ⟨hg7,h⟩:=gOs h
   refine oY rfl (yI iK (by decide) hg7.1 hg7.2 (RdL.arg hr0_1) (eL ae rfl) rfl rfl) ?_
   refine oY rfl (yM (A:=Ab) (j:=(Int.toNat s4.1 * 5)) [vI ((rdL p0.fR s4.1).fID),vI ((rdL p0.fR s4.1).fH.fLo),vI ((rdL p0.fR s4.1).fH.fHi),vI ((rdL p0.fR s4.1).fD),vI ((rdL p0.fR s4.1).fW)] jl (Nat.succ_pos _) (RdL.arg hr0_1) rfl (bg ae hg7.1 (aw hg7.2 rfl))) ?_
   refine ay l0 rfl (fun b8 => ?_)
   refine ay jN rfl (fun b9 => ?_)
   refine cv rfl (dl 2 (v:=vI s4.1) pW rfl (Nat.lt_of_lt_of_le (Nat.lt_succ_self _) (nB rfl)) rfl rfl rfl) (cv rfl (yS 3 [vI ((rdL p0.fR s4.1).fID),vI ((rdL p0.fR s4.1).fH.fLo),vI ((rdL p0.fR s4.1).fH.fHi),vI ((rdL p0.fR s4.1).fD),vI ((rdL p0.fR s4.1).fW)] r3 rfl (nB rfl) rfl rfl rfl) (oN (eT (cS (cR (oY rfl (cg [.pointer (some ⟨b1,0,none⟩),.pointer (some ⟨b8,0,none⟩)] rfl rfl) (oY rfl (dI rfl) (oN (eT (cS (cR (oY rfl (bZ rfl) (oY rfl (yN 3 [vI ((rdL p0.fR s4.1).fID),vI ((rdL p0.fR s4.1).fH.fLo),vI ((rdL p0.fR s4.1).fH.fHi),vI ((rdL p0.fR s4.1).fD),vI ((rdL p0.fR s4.1).fW)] jl rfl rfl rfl) (oY rfl (bZ rfl) ?_))))))))))))))
   obtain ⟨y11,hy12,h⟩:=bOs h
   refine oY rfl (mK (caps:=[slA (some ⟨bc0,0,none⟩) 0]) [.agg #[vI ((rdL p0.fR s4.1).fID),vI ((rdL p0.fR s4.1).fH.fLo),vI ((rdL p0.fR s4.1).fH.fHi),vI ((rdL p0.fR s4.1).fD),vI ((rdL p0.fR s4.1).fW)],.func (.func 131) #[] #[.pointer (some ⟨b1,0,none⟩),.pointer (some ⟨b8,0,none⟩)]] go_85 rfl rfl (fun W2 hW2 => mn (TO.mk ((rdL p0.fR s4.1).fID) (TSpan.mk ((rdL p0.fR s4.1).fH.fLo) ((rdL p0.fR s4.1).fH.fHi)) ((rdL p0.fR s4.1).fD) ((rdL p0.fR s4.1).fW)) (fun x10 => fe x10 p0 s4.1) cap0 y11 hy12 W2 131 [] [.pointer (some ⟨b1,0,none⟩),.pointer (some ⟨b8,0,none⟩)] go_131 (fun W3 hb x y hxy => jz  x p0 s4.1 y hxy W3 b1 Aa p0.fB.length ca rfl (((RdL.arg hr0_0) W2 hW2).later hb) Ab p0.fR.length cb rfl (((RdL.arg hr0_1) W2 hW2).later hb) (((RdL.cells 0 rfl) W2 hW2).later hb) b8 (((RdL.cells 2 rfl) W2 hW2).later hb)) bc0 ((RdL.arg hcap0) W2 hW2))) (oN (eT ?_))
   rcases iOs h with ⟨hp13,h⟩ | ⟨hp13,h⟩
   ·refine cT (vB hp13) (cR (oY rfl (yMS rfl) (oY rfl (yFA jB rfl) (oY rfl (yL 3 ba rfl rfl rfl) ?_))))
    refine aH 1 (ap cI [(rdL p0.fR s4.1).fID]) _ ng cH l0 oe (by decide) (by decide) (by kernel_rfl) (eL az rfl) rfl (fun b14 => ?_)
    obtain ⟨hg17,h⟩:=gOs h
    refine bU 1 cH l0 oe rfl rfl rfl (RdL.row 4 rfl) (eL az rfl) (cW nZ _) (dk hg17 (by decide)) rfl (fun A15 c16 => ?_)
    refine oY rfl (yAS rfl) (oN (av (eT (cR (oY rfl (a4 rfl rfl) (oY rfl (yMI rfl) (oN (aP 2 ?_))))))))
    obtain rfl:=sI h
    exact eN ⟨_,A15,c16,(s4.2.length + 1),(eZ rfl rfl),rfl,(kp4 (kp (kp (kp rfl))))⟩
   ·refine cF (vB hp13) (cK (av (eT (cR (oY rfl (a4 rfl rfl) (oY rfl (yMI rfl) (oN (aP 2 ?_))))))))
    obtain rfl:=sI h
    exact eN ⟨_,A1_s4,c1_s4,s4.2.length,rfl,rfl,(kp4 (kp (kp (kp rfl))))⟩
  ·refine cF (vB hp6) (aF (ai ?_))
   obtain rfl:=sI h
   exact ax ⟨rfl,_,A1_s4,c1_s4,s4.2.length,rfl,rfl,(kp4 (kp (kp (kp rfl))))⟩
 ·intro e L tm hJ
  obtain ⟨rfl,tm0_u5,A1_u5,c1_u5,n1_u5,rfl,rfl,rfl⟩:=hJ
  refine ⟨(by intro hc; cases hc),?_⟩
  refine ad (eT (cS (cR (oY rfl (yMS rfl) ?_))))
  obtain ⟨y19,hy20,h⟩:=bOs h
  refine eI 1 [.slice A1_u5 u5.2.length c1_u5] (fun (_:Unit) => u5.2.length = y19.length) (fun _ => .tuple #[]) (fun _ => aJ A1_u5 c1_u5 3 1 u5.2.length (ap cI y19)) (fun _ => []) rfl rfl go_81 rfl (fun W2 hW2 => (dV u5.2 y19 hy20 W2 _ (cA [ac b1 53 [.slice Aa p0.fB.length ca,.slice Ab p0.fR.length cb],aJ A1_u5 c1_u5 3 1 u5.2.length (ap cI u5.2)] [1]) A1_u5 u5.2.length c1_u5 rfl hW2).mono (fun e W3 h3 => ⟨(),h3.2.1,h3.1,h3.2.2⟩)) ?_
  rintro - hn21
  try dsimp only [lsz,lss,List.append_nil]
  refine oN (eT (cS (cR (oY rfl (yMS rfl) (oY rfl (yAS rfl) (oN (eT (ak ?_))))))))
  obtain rfl:=sI h
  exact al (.inl rfl) rfl (rVt (v:=.slice A1_u5 u5.2.length c1_u5) rfl) (fun W2 hW2 => ⟨(A1_u5,u5.2.length,c1_u5),hn21,rfl,(hW2.pick 1 rfl)⟩)
theorem kc (p0:TY) (cap0:Int) (res:(List Int)) (h:fO p0 cap0 = some res) (W:World) (Aa:Option Addr) (n0_0 ca : Nat) (hn0_0:n0_0 = p0.fB.length) (hr0_0:Rd W Aa n0_0 ca (ap TBay_cells p0.fB)) (Ab:Option Addr) (n0_1 cb : Nat) (hn0_1:n0_1 = p0.fR.length) (hr0_1:Rd W Ab n0_1 cb (ap TOrder_cells p0.fR)) (bc0:Nat) (hcap0:Rd W (some ⟨bc0,0,none⟩) 1 1 (cI cap0)) :
  Calls Tryz.prog 84 [.agg #[.slice Aa n0_0 ca,.slice Ab n0_1 cb],.func (.func 88) #[] #[.pointer (some ⟨bc0,0,none⟩)]].toArray W fun e W2 => ∃ x : Option Addr × Nat × Nat,x.2.1 = res.length ∧ e = .returned (.slice x.1 x.2.1 x.2.2) ∧ Ext W W2 [aJ x.1 x.2.2 3 1 x.2.1 (ap cI res)]:=by
 subst hn0_0
 subst hn0_1
 unfold fO at h
 refine ab (m:=31) Tryz.func84 rfl rfl (nB rfl) (cS (cR ?_))
 refine aO [.slice Aa p0.fB.length ca,.slice Ab p0.fR.length cb] rfl rfl rfl (fun b1 => ?_)
 refine oY rfl (yAS rfl) (oN (eT (cS (cR (oY rfl (yAS rfl) (oN (eT (cS (cS (cR (oY rfl (yFA bq rfl) (oY rfl (yL 0 dT rfl rfl rfl) (oY rfl (bi (us:=[]) fI rfl) (oY rfl (yMI rfl) (oN (eT (cB ?_)))))))))))))))))
 obtain ⟨u5,hl18,h⟩:=bOs h
 refine dp 3 1 ?_
 refine bj (fun (s:(Int × (List Int))) L tm => ∃ (tm0:Nat → Value) (A1_s:Option Addr) (c1_s:Nat) (n1_s:Nat),n1_s = s.2.length ∧ L = [ac b1 53 [.slice Aa p0.fB.length ca,.slice Ab p0.fR.length cb],aJ A1_s c1_s 3 1 n1_s (ap cI s.2)] ∧ tm = (upd (upd (upd (upd (upd (upd (upd tm0 1 (.func (.func 88) #[] #[slA (some ⟨bc0,0,none⟩) 0])) 2 (.pointer (some ⟨b1,0,none⟩))) 4 (.slice none 0 0)) 5 (.slice A1_s n1_s c1_s)) 10 (.slice Ab p0.fR.length cb)) 11 (vI (p0.fR.length:Int))) 12 (vI s.1))) 0 hl18 ⟨_,none,0,0,rfl,rfl,(kp4 (kp (kp (kp rfl))))⟩ ?_ ?_
 ·rintro s4 L tm st ⟨tm0_s4,A1_s4,c1_s4,n1_s4,rfl,rfl,rfl⟩ h
  unfold gD at h
  refine cS (cR (oY rfl (bC rfl rfl) (oN (eT (cS ?_)))))
  rcases iOs h with ⟨hp6,h⟩ | ⟨hp6,h⟩
  ·refine cT (vB hp6) (cK (eT (cS (cB (cS (cR (oY rfl (yMI rfl) ?_)))))))
   obtain ⟨hg7,h⟩:=gOs h
   refine oY rfl (yI iK (by decide) hg7.1 hg7.2 (RdL.arg hr0_1) (eL ae rfl) rfl rfl) ?_
   refine oY rfl (yM (A:=Ab) (j:=(Int.toNat s4.1 * 5)) [vI ((rdL p0.fR s4.1).fID),vI ((rdL p0.fR s4.1).fH.fLo),vI ((rdL p0.fR s4.1).fH.fHi),vI ((rdL p0.fR s4.1).fD),vI ((rdL p0.fR s4.1).fW)] jl (Nat.succ_pos _) (RdL.arg hr0_1) rfl (bg ae hg7.1 (aw hg7.2 rfl))) ?_
   refine ay l0 rfl (fun b8 => ?_)
   refine ay jN rfl (fun b9 => ?_)
   refine cv rfl (dl 2 (v:=vI s4.1) pW rfl (Nat.lt_of_lt_of_le (Nat.lt_succ_self _) (nB rfl)) rfl rfl rfl) (cv rfl (yS 3 [vI ((rdL p0.fR s4.1).fID),vI ((rdL p0.fR s4.1).fH.fLo),vI ((rdL p0.fR s4.1).fH.fHi),vI ((rdL p0.fR s4.1).fD),vI ((rdL p0.fR s4.1).fW)] r3 rfl (nB rfl) rfl rfl rfl) (oN (eT (cS (cR (oY rfl (cg [.pointer (some ⟨b1,0,none⟩),.pointer (some ⟨b8,0,none⟩)] rfl rfl) (oY rfl (dI rfl) (oN (eT (cS (cR (oY rfl (bZ rfl) (oY rfl (yN 3 [vI ((rdL p0.fR s4.1).fID),vI ((rdL p0.fR s4.1).fH.fLo),vI ((rdL p0.fR s4.1).fH.fHi),vI ((rdL p0.fR s4.1).fD),vI ((rdL p0.fR s4.1).fW)] jl rfl rfl rfl) (oY rfl (bZ rfl) ?_))))))))))))))
   obtain ⟨y11,hy12,h⟩:=bOs h
   refine oY rfl (mK (caps:=[slA (some ⟨bc0,0,none⟩) 0]) [.agg #[vI ((rdL p0.fR s4.1).fID),vI ((rdL p0.fR s4.1).fH.fLo),vI ((rdL p0.fR s4.1).fH.fHi),vI ((rdL p0.fR s4.1).fD),vI ((rdL p0.fR s4.1).fW)],.func (.func 131) #[] #[.pointer (some ⟨b1,0,none⟩),.pointer (some ⟨b8,0,none⟩)]] go_88 rfl rfl (fun W2 hW2 => mV (TO.mk ((rdL p0.fR s4.1).fID) (TSpan.mk ((rdL p0.fR s4.1).fH.fLo) ((rdL p0.fR s4.1).fH.fHi)) ((rdL p0.fR s4.1).fD) ((rdL p0.fR s4.1).fW)) (fun x10 => fe x10 p0 s4.1) cap0 y11 hy12 W2 131 [] [.pointer (some ⟨b1,0,none⟩),.pointer (some ⟨b8,0,none⟩)] go_131 (fun W3 hb x y hxy => jz  x p0 s4.1 y hxy W3 b1 Aa p0.fB.length ca rfl (((RdL.arg hr0_0) W2 hW2).later hb) Ab p0.fR.length cb rfl (((RdL.arg hr0_1) W2 hW2).later hb) (((RdL.cells 0 rfl) W2 hW2).later hb) b8 (((RdL.cells 2 rfl) W2 hW2).later hb)) bc0 ((RdL.arg hcap0) W2 hW2))) (oN (eT ?_))
   rcases iOs h with ⟨hp13,h⟩ | ⟨hp13,h⟩
   ·refine cT (vB hp13) (cR (oY rfl (yMS rfl) (oY rfl (yFA jB rfl) (oY rfl (yL 3 ba rfl rfl rfl) ?_))))
    refine aH 1 (ap cI [(rdL p0.fR s4.1).fID]) _ ng cH l0 oe (by decide) (by decide) (by kernel_rfl) (eL az rfl) rfl (fun b14 => ?_)
    obtain ⟨hg17,h⟩:=gOs h
    refine bU 1 cH l0 oe rfl rfl rfl (RdL.row 4 rfl) (eL az rfl) (cW nZ _) (dk hg17 (by decide)) rfl (fun A15 c16 => ?_)
    refine oY rfl (yAS rfl) (oN (av (eT (cR (oY rfl (a4 rfl rfl) (oY rfl (yMI rfl) (oN (aP 2 ?_))))))))
    obtain rfl:=sI h
    exact eN ⟨_,A15,c16,(s4.2.length + 1),(eZ rfl rfl),rfl,(kp4 (kp (kp (kp rfl))))⟩
   ·refine cF (vB hp13) (cK (av (eT (cR (oY rfl (a4 rfl rfl) (oY rfl (yMI rfl) (oN (aP 2 ?_))))))))
    obtain rfl:=sI h
    exact eN ⟨_,A1_s4,c1_s4,s4.2.length,rfl,rfl,(kp4 (kp (kp (kp rfl))))⟩
  ·refine cF (vB hp6) (aF (ai ?_))
   obtain rfl:=sI h
   exact ax ⟨rfl,_,A1_s4,c1_s4,s4.2.length,rfl,rfl,(kp4 (kp (kp (kp rfl))))⟩
 ·intro e L tm hJ
  obtain ⟨rfl,tm0_u5,A1_u5,c1_u5,n1_u5,rfl,rfl,rfl⟩:=hJ
  refine ⟨(by intro hc; cases hc),?_⟩
  refine ad (eT (cS (cR (oY rfl (yMS rfl) ?_))))
  obtain ⟨y19,hy20,h⟩:=bOs h
  refine eI 1 [.slice A1_u5 u5.2.length c1_u5] (fun (_:Unit) => u5.2.length = y19.length) (fun _ => .tuple #[]) (fun _ => aJ A1_u5 c1_u5 3 1 u5.2.length (ap cI y19)) (fun _ => []) rfl rfl go_81 rfl (fun W2 hW2 => (dV u5.2 y19 hy20 W2 _ (cA [ac b1 53 [.slice Aa p0.fB.length ca,.slice Ab p0.fR.length cb],aJ A1_u5 c1_u5 3 1 u5.2.length (ap cI u5.2)] [1]) A1_u5 u5.2.length c1_u5 rfl hW2).mono (fun e W3 h3 => ⟨(),h3.2.1,h3.1,h3.2.2⟩)) ?_
  rintro - hn21
  try dsimp only [lsz,lss,List.append_nil]
  refine oN (eT (cS (cR (oY rfl (yMS rfl) (oY rfl (yAS rfl) (oN (eT (ak ?_))))))))
  obtain rfl:=sI h
  exact al (.inl rfl) rfl (rVt (v:=.slice A1_u5 u5.2.length c1_u5) rfl) (fun W2 hW2 => ⟨(A1_u5,u5.2.length,c1_u5),hn21,rfl,(hW2.pick 1 rfl)⟩)
theorem nC (p0:TY) (res:((List Int) × Int)) (h:kA p0 = some res) (W:World) (Aa:Option Addr) (n0_0 ca : Nat) (hn0_0:n0_0 = p0.fB.length) (hr0_0:Rd W Aa n0_0 ca (ap TBay_cells p0.fB)) (Ab:Option Addr) (n0_1 cb : Nat) (hn0_1:n0_1 = p0.fR.length) (hr0_1:Rd W Ab n0_1 cb (ap TOrder_cells p0.fR)) :
  Calls Tryz.prog 27 [.agg #[.slice Aa n0_0 ca,.slice Ab n0_1 cb]].toArray W fun e W2 => ∃ x : Option Addr × Nat × Nat,x.2.1 = res.1.length ∧ e = .returned (.tuple #[.slice x.1 x.2.1 x.2.2,vI res.2]) ∧ Ext W W2 [aJ x.1 x.2.2 3 1 x.2.1 (ap cI res.1)]:=by
 subst hn0_0
 subst hn0_1
 unfold kA at h
 refine ab (m:=16) Tryz.func27 rfl rfl (nB rfl) (cS (cR ?_))
 refine aO [.slice Aa p0.fB.length ca,.slice Ab p0.fR.length cb] rfl rfl rfl (fun b1 => ?_)
 refine oY rfl (yAS rfl) (oY rfl (yAI rfl) (oN (eT (cS (cS (cR (oY rfl (yN 0 [.slice Aa p0.fB.length ca,.slice Ab p0.fR.length cb] bO rfl rfl rfl) ?_)))))))
 obtain ⟨y2,hy3,h⟩:=bOs h
 refine oY rfl (yC [.agg #[.slice Aa p0.fB.length ca,.slice Ab p0.fR.length cb]] qk rfl (fun W2 hW2 => cd p0 y2 hy3 W2 Aa p0.fB.length ca rfl ((RdL.arg hr0_0) W2 hW2) Ab p0.fR.length cb rfl ((RdL.arg hr0_1) W2 hW2)) rfl) (oY rfl (yAI rfl) (oN (eT (cS (cR (oY rfl (yMI rfl) (oY rfl (cQ rfl rfl) (oN (eT ?_)))))))))
 rcases iOs h with ⟨hp4,h⟩ | ⟨hp4,h⟩
 ·refine cT (vB hp4) (cS (cR (oY rfl (yMI rfl) (oY rfl (yAS rfl) (oY rfl (yAI rfl) (oN (eT (ak (aa ?_)))))))))
  obtain rfl:=sI h
  exact bz (.inl rfl) rfl (rVt (v:=.slice none 0 0) rfl) (rVt (v:=vI y2) rfl) (fun W2 hW2 => ⟨(none,0,0),rfl,rfl,((hW2.nilrow 3 1).pick 1 rfl)⟩)
 ·refine cF (vB hp4) (cK (eT (cS (cR (oY rfl (yN 0 [.slice Aa p0.fB.length ca,.slice Ab p0.fR.length cb] bO rfl rfl rfl) ?_)))))
  obtain ⟨y5,hy6,h⟩:=bOs h
  refine oY rfl (yC [.agg #[.slice Aa p0.fB.length ca,.slice Ab p0.fR.length cb]] rK rfl (fun W2 hW2 => el p0 y5 hy6 W2 Aa p0.fB.length ca rfl ((RdL.arg hr0_0) W2 hW2) Ab p0.fR.length cb rfl ((RdL.arg hr0_1) W2 hW2)) rfl) ?_
  refine ay l0 rfl (fun b7 => ?_)
  refine cv rfl (dl 1 (v:=vI y5) pW rfl (Nat.lt_of_lt_of_le (Nat.lt_succ_self _) (nB rfl)) rfl rfl rfl) (oN (eT (cS (cR (oY rfl (yN 0 [.slice Aa p0.fB.length ca,.slice Ab p0.fR.length cb] bO rfl rfl rfl) (oY rfl (cg [.pointer (some ⟨b7,0,none⟩)] rfl rfl) ?_))))))
  obtain ⟨y8,hy9,h⟩:=bOs h
  refine oC [.agg #[.slice Aa p0.fB.length ca,.slice Ab p0.fR.length cb],.func (.func 85) #[] #[.pointer (some ⟨b7,0,none⟩)]] _ _ _ rfl go_84 rfl (fun W2 hW2 => js p0 y5 y8 hy9 W2 Aa p0.fB.length ca rfl ((RdL.arg hr0_0) W2 hW2) Ab p0.fR.length cb rfl ((RdL.arg hr0_1) W2 hW2) b7 ((RdL.cells 1 rfl) W2 hW2)) ?_
  rintro ⟨A12,n10,c13⟩ hn11
  replace hn11 : n10 = y8.length:=hn11; subst hn11
  refine oY rfl (yAS rfl) (oY rfl (yAI rfl) (oN (eT (ak ?_))))
  obtain rfl:=sI h
  exact bz (.inl rfl) rfl (rVt (v:=.slice A12 y8.length c13) rfl) (rVt (v:=vI 0) rfl) (fun W2 hW2 => ⟨(A12,y8.length,c13),rfl,rfl,(hW2.pick 2 rfl)⟩)
theorem oA (p0:TY) (res:((List Int) × Int)) (h:lJ p0 = some res) (W:World) (Aa:Option Addr) (n0_0 ca : Nat) (hn0_0:n0_0 = p0.fB.length) (hr0_0:Rd W Aa n0_0 ca (ap TBay_cells p0.fB)) (Ab:Option Addr) (n0_1 cb : Nat) (hn0_1:n0_1 = p0.fR.length) (hr0_1:Rd W Ab n0_1 cb (ap TOrder_cells p0.fR)) :
  Calls Tryz.prog 29 [.agg #[.slice Aa n0_0 ca,.slice Ab n0_1 cb]].toArray W fun e W2 => ∃ x : Option Addr × Nat × Nat,x.2.1 = res.1.length ∧ e = .returned (.tuple #[.slice x.1 x.2.1 x.2.2,vI res.2]) ∧ Ext W W2 [aJ x.1 x.2.2 3 1 x.2.1 (ap cI res.1)]:=by
 subst hn0_0
 subst hn0_1
 unfold lJ at h
 refine ab (m:=16) Tryz.func29 rfl rfl (nB rfl) (cS (cR ?_))
 refine aO [.slice Aa p0.fB.length ca,.slice Ab p0.fR.length cb] rfl rfl rfl (fun b1 => ?_)
 refine oY rfl (yAS rfl) (oY rfl (yAI rfl) (oN (eT (cS (cS (cR (oY rfl (yN 0 [.slice Aa p0.fB.length ca,.slice Ab p0.fR.length cb] bO rfl rfl rfl) ?_)))))))
 obtain ⟨y2,hy3,h⟩:=bOs h
 refine oY rfl (yC [.agg #[.slice Aa p0.fB.length ca,.slice Ab p0.fR.length cb]] qk rfl (fun W2 hW2 => cd p0 y2 hy3 W2 Aa p0.fB.length ca rfl ((RdL.arg hr0_0) W2 hW2) Ab p0.fR.length cb rfl ((RdL.arg hr0_1) W2 hW2)) rfl) (oY rfl (yAI rfl) (oN (eT (cS (cR (oY rfl (yMI rfl) (oY rfl (cQ rfl rfl) (oN (eT ?_)))))))))
 rcases iOs h with ⟨hp4,h⟩ | ⟨hp4,h⟩
 ·refine cT (vB hp4) (cS (cR (oY rfl (yMI rfl) (oY rfl (yAS rfl) (oY rfl (yAI rfl) (oN (eT (ak (aa ?_)))))))))
  obtain rfl:=sI h
  exact bz (.inl rfl) rfl (rVt (v:=.slice none 0 0) rfl) (rVt (v:=vI y2) rfl) (fun W2 hW2 => ⟨(none,0,0),rfl,rfl,((hW2.nilrow 3 1).pick 1 rfl)⟩)
 ·refine cF (vB hp4) (cK (eT (cS (cR (oY rfl (yN 0 [.slice Aa p0.fB.length ca,.slice Ab p0.fR.length cb] bO rfl rfl rfl) ?_)))))
  obtain ⟨y5,hy6,h⟩:=bOs h
  refine oY rfl (yC [.agg #[.slice Aa p0.fB.length ca,.slice Ab p0.fR.length cb]] rK rfl (fun W2 hW2 => el p0 y5 hy6 W2 Aa p0.fB.length ca rfl ((RdL.arg hr0_0) W2 hW2) Ab p0.fR.length cb rfl ((RdL.arg hr0_1) W2 hW2)) rfl) ?_
  refine ay l0 rfl (fun b7 => ?_)
  refine cv rfl (dl 1 (v:=vI y5) pW rfl (Nat.lt_of_lt_of_le (Nat.lt_succ_self _) (nB rfl)) rfl rfl rfl) (oN (eT (cS (cR (oY rfl (yN 0 [.slice Aa p0.fB.length ca,.slice Ab p0.fR.length cb] bO rfl rfl rfl) (oY rfl (cg [.pointer (some ⟨b7,0,none⟩)] rfl rfl) ?_))))))
  obtain ⟨y8,hy9,h⟩:=bOs h
  refine oC [.agg #[.slice Aa p0.fB.length ca,.slice Ab p0.fR.length cb],.func (.func 88) #[] #[.pointer (some ⟨b7,0,none⟩)]] _ _ _ rfl go_84 rfl (fun W2 hW2 => kc p0 y5 y8 hy9 W2 Aa p0.fB.length ca rfl ((RdL.arg hr0_0) W2 hW2) Ab p0.fR.length cb rfl ((RdL.arg hr0_1) W2 hW2) b7 ((RdL.cells 1 rfl) W2 hW2)) ?_
  rintro ⟨A12,n10,c13⟩ hn11
  replace hn11 : n10 = y8.length:=hn11; subst hn11
  refine oY rfl (yAS rfl) (oY rfl (yAI rfl) (oN (eT (ak ?_))))
  obtain rfl:=sI h
  exact bz (.inl rfl) rfl (rVt (v:=.slice A12 y8.length c13) rfl) (rVt (v:=vI 0) rfl) (fun W2 hW2 => ⟨(A12,y8.length,c13),rfl,rfl,(hW2.pick 2 rfl)⟩)
theorem oZ (p0:Int) (cap0:(List (Int × Int))) (cap1:TY) (res:(Bool × (List (Int × Int)))) (h:lK p0 cap0 cap1 = some res) (W:World) (w0:World) (R:Res) (bmc0:Nat) (bc0:Nat) (hcap0:∀ W2,Below w0.heap.size w0 W2 → R.holds W2 → Rd W2 (some ⟨bc0,0,none⟩) 1 1 [.map (some bmc0)]) (bc1:Nat) (A101_0:Option Addr) (n101_0 c101_0 : Nat) (hn101_0:n101_0 = cap1.fB.length) (hr101_0:∀ W2,Below w0.heap.size w0 W2 → R.holds W2 → Rd W2 A101_0 n101_0 c101_0 (ap TBay_cells cap1.fB)) (A101_1:Option Addr) (n101_1 c101_1 : Nat) (hn101_1:n101_1 = cap1.fR.length) (hr101_1:∀ W2,Below w0.heap.size w0 W2 → R.holds W2 → Rd W2 A101_1 n101_1 c101_1 (ap TOrder_cells cap1.fR)) (hcap1:∀ W2,Below w0.heap.size w0 W2 → R.holds W2 → Rd W2 (some ⟨bc1,0,none⟩) 1 1 [.slice A101_0 n101_0 c101_0,.slice A101_1 n101_1 c101_1]) (hW:Ext w0 W [R,mapV Tryz.prog 3 kI cO kI 0 bmc0 cap0]) :
  Calls Tryz.prog 137 [vI p0,.pointer (some ⟨bc0,0,none⟩),.pointer (some ⟨bc1,0,none⟩)].toArray W fun e W2 => ∃ x : Unit,True ∧ e = .returned (.bool res.1) ∧ Ext w0 W2 [R,mapV Tryz.prog 3 kI cO kI 0 bmc0 res.2]:=by
 subst hn101_0
 subst hn101_1
 unfold lK at h
 refine aU (m:=12) Tryz.func137 rfl rfl (nB rfl) hW (cS (cR (oY rfl (yAB rfl) (oN (eT (cS ?_))))))
 refine bM 5 dD (by kernel_rfl) (by kernel_rfl) ?_
 refine qY rfl (yR (A:=(some ⟨bc0,0,none⟩)) (j:=0) (v:=.map (some bmc0)) qw (RdL.under hcap0) rfl rfl) (qY rfl (yM (A:=(some ⟨bc1,0,none⟩)) (j:=0) [.slice A101_0 cap1.fB.length c101_0,.slice A101_1 cap1.fR.length c101_1] bO (Nat.succ_pos _) (RdL.under hcap1) rfl (mp rfl)) (qY rfl (yM (A:=(some ⟨bc1,0,none⟩)) (j:=0) [.slice A101_0 cap1.fB.length c101_0,.slice A101_1 cap1.fR.length c101_1] bO (Nat.succ_pos _) (RdL.under hcap1) rfl (mp rfl)) (qY rfl (yMI rfl) ?_)))
 obtain ⟨y1,hy2,h⟩:=bOs h
 refine qY rfl (yC [.agg #[.slice A101_0 cap1.fB.length c101_0,.slice A101_1 cap1.fR.length c101_1],vI p0] go_90 rfl (fun W2 hW2 => je cap1 p0 y1 hy2 W2 A101_0 cap1.fB.length c101_0 rfl ((RdL.under hr101_0) W2 hW2) A101_1 cap1.fR.length c101_1 rfl ((RdL.under hr101_1) W2 hW2)) rfl) (dF ?_)
 obtain ⟨y3,hy4,h⟩:=bOs h
 refine ei [1] [] [.map (some bmc0),.agg #[.slice A101_0 cap1.fB.length c101_0,.slice A101_1 cap1.fR.length c101_1],vI y1] [] (fun (_:Unit) => True) (fun _ => .bool y3.1) (fun _ => [mapV Tryz.prog 3 kI cO kI 0 bmc0 y3.2]) (fun _ => []) (Foc.c1 rfl) (by decide) rfl qv rfl rfl (fun _ => rfl) (fun W2 hW2 => dX cap0 cap1 y1 y3 hy4 W2 _ (cA [R,mapV Tryz.prog 3 kI cO kI 0 bmc0 cap0] [1]) bmc0 A101_0 cap1.fB.length c101_0 rfl (fun W3 hb hR => (RdL.under hr101_0) W3 (hW2.restL hb hR)) A101_1 cap1.fR.length c101_1 rfl (fun W3 hb hR => (RdL.under hr101_1) W3 (hW2.restL hb hR)) hW2) ?_
 rintro - -
 try dsimp only [ke,lsz,lss,List.append_nil]
 refine oY rfl (cj rfl) (oY rfl (yAB rfl) (oN (eT (ak ?_))))
 obtain rfl:=sI h
 exact al (.inl rfl) rfl (rVt (v:=.bool (!y3.1)) rfl) (fun W2 hW2 => ⟨(),trivial,rfl,hW2.take 2⟩)
theorem fJ (p0:(List Int)) (cap0:(List (Int × Int))) (cap1:TY) (res:(Int × (List (Int × Int)))) (h:ct p0 cap0 cap1 = some res) (W:World) (w0:World) (R:Res) (bmc0:Nat) (Aa:Option Addr) (n0_0 ca : Nat) (hn0_0:n0_0 = p0.length) (hr0_0:∀ W2,Below w0.heap.size w0 W2 → R.holds W2 → Rd W2 Aa n0_0 ca (ap cI p0)) (bc0:Nat) (hcap0:∀ W2,Below w0.heap.size w0 W2 → R.holds W2 → Rd W2 (some ⟨bc0,0,none⟩) 1 1 [.map (some bmc0)]) (bc1:Nat) (A101_0:Option Addr) (n101_0 c101_0 : Nat) (hn101_0:n101_0 = cap1.fB.length) (hr101_0:∀ W2,Below w0.heap.size w0 W2 → R.holds W2 → Rd W2 A101_0 n101_0 c101_0 (ap TBay_cells cap1.fB)) (A101_1:Option Addr) (n101_1 c101_1 : Nat) (hn101_1:n101_1 = cap1.fR.length) (hr101_1:∀ W2,Below w0.heap.size w0 W2 → R.holds W2 → Rd W2 A101_1 n101_1 c101_1 (ap TOrder_cells cap1.fR)) (hcap1:∀ W2,Below w0.heap.size w0 W2 → R.holds W2 → Rd W2 (some ⟨bc1,0,none⟩) 1 1 [.slice A101_0 n101_0 c101_0,.slice A101_1 n101_1 c101_1]) (hW:Ext w0 W [R,mapV Tryz.prog 3 kI cO kI 0 bmc0 cap0]) :
  Calls Tryz.prog 138 [.slice Aa n0_0 ca,.func (.func 137) #[] #[.pointer (some ⟨bc0,0,none⟩),.pointer (some ⟨bc1,0,none⟩)]].toArray W fun e W2 => ∃ x : Unit,True ∧ e = .returned (vI res.1) ∧ Ext w0 W2 [R,mapV Tryz.prog 3 kI cO kI 0 bmc0 res.2]:=by
 subst hn0_0
 subst hn101_0
 subst hn101_1
 unfold ct at h
 refine aU (m:=19) Tryz.func138 rfl rfl (nB rfl) hW (cS (cR (oY rfl (yAI rfl) (oN (eT (cS (cS (cR (oY rfl (yMS rfl) (oY rfl (bi (us:=[]) cH rfl) (oY rfl (yMI rfl) (oN (eT (cB ?_))))))))))))))
 obtain ⟨u4,hl10,h⟩:=bOs h
 refine bS (fun (s:(Int × Int × (List (Int × Int)))) L tm => ∃ (tm0:Nat → Value),L = [R,mapV Tryz.prog 3 kI cO kI 0 bmc0 s.2.2] ∧ tm = (upd (upd (upd (upd (upd tm0 0 (.slice Aa p0.length ca)) 1 (.func (.func 137) #[] #[slA (some ⟨bc0,0,none⟩) 0,slA (some ⟨bc1,0,none⟩) 0])) 4 (vI s.1)) 7 (vI (p0.length:Int))) 8 (vI s.2.1))) 0 hl10 ⟨_,rfl,(kp4 (kp rfl))⟩ ?_ ?_
 ·rintro s3 L tm st ⟨tm0_s3,rfl,rfl⟩ h
  unfold dj at h
  refine cS (cR (oY rfl (bC rfl rfl) (oN (eT (cS ?_)))))
  rcases iOs h with ⟨hp5,h⟩ | ⟨hp5,h⟩
  ·refine cT (vB hp5) (cK (eT (cS (cB (cS (cR (oY rfl (yMI rfl) (oY rfl (yAI rfl) (oN (eT (cS (cR (oY rfl (bZ rfl) (oY rfl (yMS rfl) (oY rfl (yMI rfl) ?_)))))))))))))))
   obtain ⟨hg6,h⟩:=gOs h
   refine oY rfl (yI cN (by decide) hg6.1 hg6.2 (RdL.under hr0_0) (eL az rfl) rfl rfl) ?_
   refine oY rfl (yR (A:=Aa) (j:=(Int.toNat s3.2.1 * 1)) (v:=vI (rdL p0 s3.2.1)) ba (RdL.under hr0_0) rfl (aG az hg6.1 (aw hg6.2 rfl) rfl)) ?_
   obtain ⟨y7,hy8,h⟩:=bOs h
   refine ei [1] [] [vI (rdL p0 s3.2.1)] [slA (some ⟨bc0,0,none⟩) 0,slA (some ⟨bc1,0,none⟩) 0] (fun (_:Unit) => True) (fun _ => .bool y7.1) (fun _ => [mapV Tryz.prog 3 kI cO kI 0 bmc0 y7.2]) (fun _ => []) (Foc.c1 rfl) (by decide) rfl go_137 rfl rfl (fun _ => rfl) (fun W2 hW2 => oZ (rdL p0 s3.2.1) s3.2.2 cap1 y7 hy8 W2 _ (cA [R,mapV Tryz.prog 3 kI cO kI 0 bmc0 s3.2.2] [1]) bmc0 bc0 (fun W3 hb hR => (RdL.under hcap0) W3 (hW2.restL hb hR)) bc1 A101_0 cap1.fB.length c101_0 rfl (fun W3 hb hR => (RdL.under hr101_0) W3 (hW2.restL hb hR)) A101_1 cap1.fR.length c101_1 rfl (fun W3 hb hR => (RdL.under hr101_1) W3 (hW2.restL hb hR)) (fun W3 hb hR => (RdL.under hcap1) W3 (hW2.restL hb hR)) hW2) ?_
   rintro - -
   try dsimp only [ke,lsz,lss,List.append_nil]
   refine oN (eT ?_)
   rcases iOs h with ⟨hp9,h⟩ | ⟨hp9,h⟩
   ·refine cT (vB hp9) (cS (cR (oY rfl (yMI rfl) (oY rfl (yAI rfl) (oN (eT (ak (aj (aa ?_)))))))))
    obtain rfl:=sI h
    exact ax ⟨rfl,_,rfl,(kp4 (kp rfl))⟩
   ·refine cF (vB hp9) (cK (av (eT (cR (oY rfl (a4 rfl rfl) (oY rfl (yMI rfl) (oN ?_)))))))
    obtain rfl:=sI h
    exact eN ⟨_,rfl,(kp4 (kp rfl))⟩
  ·refine cF (vB hp5) (aF (ai ?_))
   obtain rfl:=sI h
   exact ax ⟨rfl,_,rfl,(kp4 (kp rfl))⟩
 ·intro e L tm hJ
  rcases u4 with u11 | u12
  ·dsimp only at h hJ
   obtain ⟨rfl,tm0_u11,rfl,rfl⟩:=hJ
   refine ⟨(by intro hc; cases hc),?_⟩
   refine aj (aa ?_)
   obtain rfl:=sI h
   exact al (.inl rfl) rfl (rVt (v:=vI u11.1) rfl) (fun W2 hW2 => ⟨(),trivial,rfl,hW2.take 2⟩)
  ·dsimp only at h hJ
   obtain ⟨rfl,tm0_u12,rfl,rfl⟩:=hJ
   refine ⟨(by intro hc; cases hc),?_⟩
   refine ad (eT (cS (cR (oY rfl (yAI rfl) (oN (eT (ak ?_)))))))
   obtain rfl:=sI h
   exact al (.inl rfl) rfl (rVt (v:=vI (-1)) rfl) (fun W2 hW2 => ⟨(),trivial,rfl,hW2.take 2⟩)
theorem d9 (p0:(List Int)) (p1:Int → Option Bool) (res:Int) (h:bw p0 p1 = some res) (W:World) (Aa:Option Addr) (n0_0 ca : Nat) (hn0_0:n0_0 = p0.length) (hr0_0:Rd W Aa n0_0 ca (ap cI p0)) (fid1:Nat) (fst1 caps1 : List Value) (hgo1:bD Tryz.prog fid1 = true) (hof1:∀ W2,Below W.heap.size W W2 → ∀ x,∀ y,p1 x = some y → Calls Tryz.prog fid1 (fst1 ++ (([vI x] : List Value) ++ caps1)).toArray W2 fun e W3 => e = .returned (.bool y) ∧ Ext W2 W3 []) :
  Calls Tryz.prog 138 [.slice Aa n0_0 ca,.func (.func fid1) fst1.toArray caps1.toArray].toArray W fun e W2 => e = .returned (vI res) ∧ Ext W W2 []:=by
 subst hn0_0
 unfold bw at h
 refine ab (m:=19) Tryz.func138 rfl rfl (nB rfl) (cS (cR (oY rfl (yAI rfl) (oN (eT (cS (cS (cR (oY rfl (yMS rfl) (oY rfl (bi (us:=[]) cH rfl) (oY rfl (yMI rfl) (oN (eT (cB ?_))))))))))))))
 obtain ⟨u3,hl9,h⟩:=bOs h
 refine bS (fun (s:(Int × Int)) L tm => ∃ (tm0:Nat → Value),L = [] ∧ tm = (upd (upd (upd (upd (upd tm0 0 (.slice Aa p0.length ca)) 1 (.func (.func fid1) fst1.toArray caps1.toArray)) 4 (vI s.1)) 7 (vI (p0.length:Int))) 8 (vI s.2))) 0 hl9 ⟨_,rfl,(kp4 (kp rfl))⟩ ?_ ?_
 ·rintro s2 L tm st ⟨tm0_s2,rfl,rfl⟩ h
  unfold bf at h
  refine cS (cR (oY rfl (bC rfl rfl) (oN (eT (cS ?_)))))
  rcases iOs h with ⟨hp4,h⟩ | ⟨hp4,h⟩
  ·refine cT (vB hp4) (cK (eT (cS (cB (cS (cR (oY rfl (yMI rfl) (oY rfl (yAI rfl) (oN (eT (cS (cR (oY rfl (bL (v:=.func (.func fid1) fst1.toArray caps1.toArray) rfl) (oY rfl (yMS rfl) (oY rfl (yMI rfl) ?_)))))))))))))))
   obtain ⟨hg5,h⟩:=gOs h
   refine oY rfl (yI cN (by decide) hg5.1 hg5.2 (RdL.arg hr0_0) (eL az rfl) rfl rfl) ?_
   refine oY rfl (yR (A:=Aa) (j:=(Int.toNat s2.2 * 1)) (v:=vI (rdL p0 s2.2)) ba (RdL.arg hr0_0) rfl (aG az hg5.1 (aw hg5.2 rfl) rfl)) ?_
   obtain ⟨y6,hy7,h⟩:=bOs h
   refine oY rfl (gR [vI (rdL p0 s2.2)] hgo1 rfl rfl (fun W2 hW2 => hof1 W2 hW2.below (rdL p0 s2.2) y6 hy7)) (oN (eT ?_))
   rcases iOs h with ⟨hp8,h⟩ | ⟨hp8,h⟩
   ·refine cT (vB hp8) (cS (cR (oY rfl (yMI rfl) (oY rfl (yAI rfl) (oN (eT (ak (aj (aa ?_)))))))))
    obtain rfl:=sI h
    exact ax ⟨rfl,_,rfl,(kp4 (kp rfl))⟩
   ·refine cF (vB hp8) (cK (av (eT (cR (oY rfl (a4 rfl rfl) (oY rfl (yMI rfl) (oN ?_)))))))
    obtain rfl:=sI h
    exact eN ⟨_,rfl,(kp4 (kp rfl))⟩
  ·refine cF (vB hp4) (aF (ai ?_))
   obtain rfl:=sI h
   exact ax ⟨rfl,_,rfl,(kp4 (kp rfl))⟩
 ·intro e L tm hJ
  rcases u3 with u10 | u11
  ·dsimp only at h hJ
   obtain ⟨rfl,tm0_u10,rfl,rfl⟩:=hJ
   refine ⟨(by intro hc; cases hc),?_⟩
   refine aj (aa ?_)
   obtain rfl:=sI h
   exact al (.inl rfl) rfl (rVt (v:=vI u10.1) rfl) (fun W2 hW2 => ⟨rfl,hW2.none⟩)
  ·dsimp only at h hJ
   obtain ⟨rfl,tm0_u11,rfl,rfl⟩:=hJ
   refine ⟨(by intro hc; cases hc),?_⟩
   refine ad (eT (cS (cR (oY rfl (yAI rfl) (oN (eT (ak ?_)))))))
   obtain rfl:=sI h
   exact al (.inl rfl) rfl (rVt (v:=vI (-1)) rfl) (fun W2 hW2 => ⟨rfl,hW2.none⟩)
theorem jo (p0:(List Int)) (cap0:(List (Int × Int))) (cap1:TY) (res:(Int × (List (Int × Int)))) (h:eR p0 cap0 cap1 = some res) (W:World) (w0:World) (R:Res) (bmc0:Nat) (Aa:Option Addr) (n0_0 ca : Nat) (hn0_0:n0_0 = p0.length) (hr0_0:∀ W2,Below w0.heap.size w0 W2 → R.holds W2 → Rd W2 Aa n0_0 ca (ap cI p0)) (bc0:Nat) (hcap0:∀ W2,Below w0.heap.size w0 W2 → R.holds W2 → Rd W2 (some ⟨bc0,0,none⟩) 1 1 [.map (some bmc0)]) (bc1:Nat) (A101_0:Option Addr) (n101_0 c101_0 : Nat) (hn101_0:n101_0 = cap1.fB.length) (hr101_0:∀ W2,Below w0.heap.size w0 W2 → R.holds W2 → Rd W2 A101_0 n101_0 c101_0 (ap TBay_cells cap1.fB)) (A101_1:Option Addr) (n101_1 c101_1 : Nat) (hn101_1:n101_1 = cap1.fR.length) (hr101_1:∀ W2,Below w0.heap.size w0 W2 → R.holds W2 → Rd W2 A101_1 n101_1 c101_1 (ap TOrder_cells cap1.fR)) (hcap1:∀ W2,Below w0.heap.size w0 W2 → R.holds W2 → Rd W2 (some ⟨bc1,0,none⟩) 1 1 [.slice A101_0 n101_0 c101_0,.slice A101_1 n101_1 c101_1]) (hW:Ext w0 W [R,mapV Tryz.prog 3 kI cO kI 0 bmc0 cap0]) :
  Calls Tryz.prog 136 [.slice Aa n0_0 ca,.func (.func 137) #[] #[.pointer (some ⟨bc0,0,none⟩),.pointer (some ⟨bc1,0,none⟩)]].toArray W fun e W2 => ∃ x : Unit,True ∧ e = .returned (vI res.1) ∧ Ext w0 W2 [R,mapV Tryz.prog 3 kI cO kI 0 bmc0 res.2]:=by
 subst hn0_0
 subst hn101_0
 subst hn101_1
 unfold eR at h
 refine aU (m:=8) Tryz.func136 rfl rfl (nB rfl) hW (cS (cR (oY rfl (yAI rfl) (oN (eT (cS (cR (oY rfl (yMS rfl) (oY rfl (bZ rfl) ?_)))))))))
 obtain ⟨y1,hy2,h⟩:=bOs h
 refine ei [1] [] [.slice Aa p0.length ca,.func (.func 137) #[] #[slA (some ⟨bc0,0,none⟩) 0,slA (some ⟨bc1,0,none⟩) 0]] [] (fun (_:Unit) => True) (fun _ => vI y1.1) (fun _ => [mapV Tryz.prog 3 kI cO kI 0 bmc0 y1.2]) (fun _ => []) (Foc.c1 rfl) (by decide) rfl rX rfl rfl (fun _ => rfl) (fun W2 hW2 => fJ p0 cap0 cap1 y1 hy2 W2 _ (cA [R,mapV Tryz.prog 3 kI cO kI 0 bmc0 cap0] [1]) bmc0 Aa p0.length ca rfl (fun W3 hb hR => (RdL.under hr0_0) W3 (hW2.restL hb hR)) bc0 (fun W3 hb hR => (RdL.under hcap0) W3 (hW2.restL hb hR)) bc1 A101_0 cap1.fB.length c101_0 rfl (fun W3 hb hR => (RdL.under hr101_0) W3 (hW2.restL hb hR)) A101_1 cap1.fR.length c101_1 rfl (fun W3 hb hR => (RdL.under hr101_1) W3 (hW2.restL hb hR)) (fun W3 hb hR => (RdL.under hcap1) W3 (hW2.restL hb hR)) hW2) ?_
 rintro - -
 try dsimp only [ke,lsz,lss,List.append_nil]
 refine oY rfl (yAI rfl) (oN (eT (ak ?_)))
 obtain rfl:=sI h
 exact al (.inl rfl) rfl (rVt (v:=vI y1.1) rfl) (fun W2 hW2 => ⟨(),trivial,rfl,hW2.take 2⟩)
theorem lV (p0:(List Int)) (p1:Int → Option Bool) (res:Int) (h:eH p0 p1 = some res) (W:World) (Aa:Option Addr) (n0_0 ca : Nat) (hn0_0:n0_0 = p0.length) (hr0_0:Rd W Aa n0_0 ca (ap cI p0)) (fid1:Nat) (fst1 caps1 : List Value) (hgo1:bD Tryz.prog fid1 = true) (hof1:∀ W2,Below W.heap.size W W2 → ∀ x,∀ y,p1 x = some y → Calls Tryz.prog fid1 (fst1 ++ (([vI x] : List Value) ++ caps1)).toArray W2 fun e W3 => e = .returned (.bool y) ∧ Ext W2 W3 []) :
  Calls Tryz.prog 136 [.slice Aa n0_0 ca,.func (.func fid1) fst1.toArray caps1.toArray].toArray W fun e W2 => e = .returned (vI res) ∧ Ext W W2 []:=by
 subst hn0_0
 unfold eH at h
 refine ab (m:=8) Tryz.func136 rfl rfl (nB rfl) (cS (cR (oY rfl (yAI rfl) (oN (eT (cS (cR (oY rfl (yMS rfl) (oY rfl (bL (v:=.func (.func fid1) fst1.toArray caps1.toArray) rfl) ?_)))))))))
 obtain ⟨y1,hy2,h⟩:=bOs h
 refine oY rfl (yC [.slice Aa p0.length ca,.func (.func fid1) fst1.toArray caps1.toArray] rX rfl (fun W2 hW2 => d9 p0 p1 y1 hy2 W2 Aa p0.length ca rfl ((RdL.arg hr0_0) W2 hW2) fid1 fst1 caps1 hgo1 (fun W3 hb => hof1 W3 (gx hW2.below hb))) rfl) (oY rfl (yAI rfl) (oN (eT (ak ?_))))
 obtain rfl:=sI h
 exact al (.inl rfl) rfl (rVt (v:=vI y1) rfl) (fun W2 hW2 => ⟨rfl,hW2.none⟩)
theorem mN (p0:TY) (p1:(List Int)) (res:Bool) (h:mB p0 p1 = some res) (W:World) (Aa:Option Addr) (n0_0 ca : Nat) (hn0_0:n0_0 = p0.fB.length) (hr0_0:Rd W Aa n0_0 ca (ap TBay_cells p0.fB)) (Ab:Option Addr) (n0_1 cb : Nat) (hn0_1:n0_1 = p0.fR.length) (hr0_1:Rd W Ab n0_1 cb (ap TOrder_cells p0.fR)) (Ac:Option Addr) (n1_0 cc : Nat) (hn1_0:n1_0 = p1.length) (hr1_0:Rd W Ac n1_0 cc (ap cI p1)) :
  Calls Tryz.prog 91 [.agg #[.slice Aa n0_0 ca,.slice Ab n0_1 cb],.slice Ac n1_0 cc].toArray W fun e W2 => e = .returned (.bool res) ∧ Ext W W2 []:=by
 subst hn0_0
 subst hn0_1
 subst hn1_0
 unfold mB at h
 refine ab (m:=11) Tryz.func91 rfl rfl (nB rfl) (cS (cR ?_))
 refine aO [.slice Aa p0.fB.length ca,.slice Ab p0.fR.length cb] rfl rfl rfl (fun b1 => ?_)
 refine oY rfl (yAB rfl) (oN (eT (cS (cR ?_))))
 refine f7 3 kI cO kI 0 rfl (fun b2 => ?_)
 refine ay ze_152 rfl (fun b3 => ?_)
 refine cv rfl (dl 2 (v:=.map (some b2)) sz_152 rfl (Nat.lt_of_lt_of_le (Nat.lt_succ_self _) (nB rfl)) rfl rfl rfl) (oN (eT (cS (cR (oY rfl (yMS rfl) (oY rfl (cg [.pointer (some ⟨b3,0,none⟩),.pointer (some ⟨b1,0,none⟩)] rfl rfl) ?_))))))
 obtain ⟨y4,hy5,h⟩:=bOs h
 refine ei [1] [] [.slice Ac p1.length cc,.func (.func 137) #[] #[.pointer (some ⟨b3,0,none⟩),.pointer (some ⟨b1,0,none⟩)]] [] (fun (_:Unit) => True) (fun _ => vI y4.1) (fun _ => [mapV Tryz.prog 3 kI cO kI 0 b2 y4.2]) (fun _ => []) (Foc.c1 rfl) (by decide) rfl go_136 rfl rfl (fun _ => rfl) (fun W2 hW2 => jo p1 [] p0 y4 hy5 W2 _ (cA [ac b1 53 [.slice Aa p0.fB.length ca,.slice Ab p0.fR.length cb],mapV Tryz.prog 3 kI cO kI 0 b2 [],ac b3 152 [.map (some b2)]] [1]) b2 Ac p1.length cc rfl (fun W3 hb hR => (RdL.arg hr1_0) W3 (hW2.restL hb hR)) b3 (fun W3 hb hR => (RdL.cells 2 rfl) W3 (hW2.restL hb hR)) b1 Aa p0.fB.length ca rfl (fun W3 hb hR => (RdL.arg hr0_0) W3 (hW2.restL hb hR)) Ab p0.fR.length cb rfl (fun W3 hb hR => (RdL.arg hr0_1) W3 (hW2.restL hb hR)) (fun W3 hb hR => (RdL.cells 0 rfl) W3 (hW2.restL hb hR)) hW2) ?_
 rintro - -
 try dsimp only [ke,lsz,lss,List.append_nil]
 refine oY rfl (bC rfl rfl) (oY rfl (yAB rfl) (oN (eT (ak ?_))))
 obtain rfl:=sI h
 exact al (.inl rfl) rfl (rVt (v:=.bool (decide (y4.1 < 0))) rfl) (fun W2 hW2 => ⟨rfl,hW2.none⟩)
theorem dJ (p0:(List Int)) (res:(List Int)) (h:cw p0 = some res) (W:World) (Aa:Option Addr) (n0_0 ca : Nat) (hn0_0:n0_0 = p0.length) (hr0_0:Rd W Aa n0_0 ca (ap cI p0)) :
  Calls Tryz.prog 92 [.slice Aa n0_0 ca].toArray W fun e W2 => ∃ x : Option Addr × Nat × Nat,x.2.1 = res.length ∧ e = .returned (.slice x.1 x.2.1 x.2.2) ∧ Ext W W2 [aJ x.1 x.2.2 3 1 x.2.1 (ap cI res)]:=by
 subst hn0_0
 unfold cw at h
 refine ab (m:=8) Tryz.func92 rfl rfl (nB rfl) (cS (cR (oY rfl (yAS rfl) (oN (eT (cS (cS (cR (oY rfl (yMS rfl) (oY rfl (og cH rfl rfl) (oN (eT ?_))))))))))))
 rcases aq (Option.isNone Aa) with hp1 | hp1
 ·refine cT (vB hp1) ?_
  have z6:=oH (Option.isNone_iff_eq_none.1 hp1 ▸ hr0_0) az (by decide)
  replace h:=(gOs h).2
  rw [z6] at h
  refine cS (cR (oY rfl (yAS rfl) (oN (eT (ak (aa ?_))))))
  obtain rfl:=sI h
  exact al (.inl rfl) rfl (rVt (v:=.slice none 0 0) rfl) (fun W2 hW2 => ⟨(none,0,0),rfl,rfl,((hW2.nilrow 3 1).pick 0 rfl)⟩)
 ·refine cF (vB hp1) (cK (eT (cS (cR ?_))))
  refine eB cI cH l0 oe rfl (fun b2 => ?_)
  refine oY rfl (yMS rfl) ?_
  obtain ⟨hg5,h⟩:=gOs h
  refine bU 0 cH l0 oe rfl rfl rfl (RdL.arg hr0_0) (eL az rfl) (cW nZ _) (dk hg5 (by decide)) rfl (fun A3 c4 => ?_)
  refine oY rfl (yAS rfl) (oN (eT (ak ?_)))
  obtain rfl:=sI h
  exact al (.inl rfl) rfl (rVt (v:=.slice A3 (0 + p0.length) c4) rfl) (fun W2 hW2 => ⟨(A3,(0 + p0.length),c4),(eZ rfl rfl),rfl,(hW2.pick 0 rfl)⟩)
theorem gH (p0:(List Int)) (p1:Int → Option Bool) (res:(List Int)) (h:df p0 p1 = some res) (W:World) (w0:World) (R:Res) (Aa:Option Addr) (n0_0 ca : Nat) (hn0_0:n0_0 = p0.length) (fid1:Nat) (fst1 caps1 : List Value) (hgo1:bD Tryz.prog fid1 = true) (hof1:∀ W2,Below w0.heap.size w0 W2 → R.holds W2 → ∀ x,∀ y,p1 x = some y → Calls Tryz.prog fid1 (fst1 ++ (([vI x] : List Value) ++ caps1)).toArray W2 fun e W3 => e = .returned (.bool y) ∧ Ext W2 W3 []) (hW:Ext w0 W [R,aJ Aa ca 3 1 n0_0 (ap cI p0)]) :
  Calls Tryz.prog 93 [.slice Aa n0_0 ca,.func (.func fid1) fst1.toArray caps1.toArray].toArray W fun e W2 => ∃ k : Nat,k = res.length ∧ e = .returned (.slice Aa k ca) ∧ Ext w0 W2 [R,aJ Aa ca 3 1 k (ap cI res)]:=by
 subst hn0_0
 unfold df at h
 refine aU (m:=42) Tryz.func93 rfl rfl (nB rfl) hW (cS (cR (oY rfl (yAS rfl) (oN (eT (cS (cR (oY rfl (yMS rfl) (oY rfl (bL (v:=.func (.func fid1) fst1.toArray caps1.toArray) rfl) ?_)))))))))
 obtain ⟨y1,hy2,h⟩:=bOs h
 refine oY rfl (yC [.slice Aa p0.length ca,.func (.func fid1) fst1.toArray caps1.toArray] rX rfl (fun W2 hW2 => d9 p0 p1 y1 hy2 W2 Aa p0.length ca rfl ((RdL.row 1 rfl) W2 hW2) fid1 fst1 caps1 hgo1 (fun W3 hb => hof1 W3 (gx hW2.below hb) ((hW2.below' hb).mem (i:=0) rfl))) rfl) (oY rfl (yAI rfl) (oN (eT (cS (cS (cR (oY rfl (yMI rfl) (oY rfl (du rfl rfl) (oN (eT ?_))))))))))
 rcases iOs h with ⟨hp3,h⟩ | ⟨hp3,h⟩
 ·refine cT (vB hp3) (cS (cR (oY rfl (yMS rfl) (oY rfl (yAS rfl) (oN (eT (ak (aa ?_))))))))
  obtain rfl:=sI h
  exact al (.inl rfl) rfl (rVt (v:=.slice Aa p0.length ca) rfl) (fun W2 hW2 => ⟨p0.length,rfl,rfl,hW2.take 2⟩)
 ·refine cF (vB hp3) (cK (eT (cS (cS (cR (oY rfl (yMI rfl) (oY rfl (a4 rfl rfl) (oY rfl (yAI rfl) (oN (eT (cB ?_)))))))))))
  obtain ⟨u7,hl14,h⟩:=bOs h
  refine bj (fun (s:(Int × Int × (List Int))) L tm => ∃ (tm0:Nat → Value),p0.length = s.2.2.length ∧ L = [R,aJ Aa ca 3 1 p0.length (ap cI s.2.2)] ∧ tm = (upd (upd (upd (upd (upd tm0 0 (.slice Aa p0.length ca)) 1 (.func (.func fid1) fst1.toArray caps1.toArray)) 4 (.slice none 0 0)) 5 (vI s.1)) 6 (vI s.2.1))) 0 hl14 ⟨_,rfl,rfl,(kp4 (kp rfl))⟩ ?_ ?_
  ·rintro s6 L tm st ⟨tm0_s6,hn1_s6,rfl,rfl⟩ h
   unfold d3 at h
   refine cS (cS (cR (oY rfl (yMI rfl) (oY rfl (yMS rfl) (oY rfl (bi (us:=[]) cH rfl) (oY rfl (bC rfl rfl) (oN (eT ?_))))))))
   rcases iOs h with ⟨hp8,h⟩ | ⟨hp8,h⟩
   ·refine cT (vB hp8) (cK (eT (cS (cB (cS (cR (oY rfl (yMS rfl) (oY rfl (yMI rfl) ?_))))))))
    obtain ⟨hg9,h⟩:=gOs h
    refine oY rfl (yI cN (by decide) hg9.1 hg9.2 (RdL.row 1 rfl) (eL az hn1_s6) rfl rfl) ?_
    refine oY rfl (yR (A:=Aa) (j:=(Int.toNat s6.2.1 * 1)) (v:=vI (rdL s6.2.2 s6.2.1)) ba (RdL.row 1 rfl) rfl (aG az hg9.1 (aw hg9.2 hn1_s6) rfl)) (oY rfl (yAI rfl) (oN (eT (cS (cR (oY rfl (bL (v:=.func (.func fid1) fst1.toArray caps1.toArray) rfl) (oY rfl (yMI rfl) ?_)))))))
    obtain ⟨y10,hy11,h⟩:=bOs h
    refine oY rfl (gR [vI (rdL s6.2.2 s6.2.1)] hgo1 rfl rfl (fun W2 hW2 => hof1 W2 hW2.below (hW2.mem (i:=0) rfl) (rdL s6.2.2 s6.2.1) y10 hy11)) (oY rfl (cj rfl) (oN (eT ?_)))
    rcases iOs h with ⟨hp12,h⟩ | ⟨hp12,h⟩
    ·refine cT (vB hp12) (cS (cR (oY rfl (yMS rfl) (oY rfl (yMI rfl) (oY rfl (yMI rfl) ?_)))))
     obtain ⟨hg13,h⟩:=gOs h
     refine oY rfl (yI cN (by decide) hg13.1 hg13.2 (RdL.row 1 rfl) (eL az hn1_s6) rfl rfl) ?_
     refine cv rfl (iJ 1 (xs:=s6.2.2) az (rdL s6.2.2 s6.2.1) pW rfl hg13.1 (aw hg13.2 hn1_s6) rfl rfl rfl rfl) (oN (eT (cR (oY rfl (yMI rfl) (oY rfl (a4 rfl rfl) (oY rfl (yAI rfl) (oN (av (eT (cR (oY rfl (yMI rfl) (oY rfl (a4 rfl rfl) (oY rfl (yAI rfl) (oN ?_))))))))))))))
     obtain rfl:=sI h
     exact eN ⟨_,(fu hn1_s6),rfl,(kp4 (kp rfl))⟩
    ·refine cF (vB hp12) (cK (av (eT (cR (oY rfl (yMI rfl) (oY rfl (a4 rfl rfl) (oY rfl (yAI rfl) (oN ?_))))))))
     obtain rfl:=sI h
     exact eN ⟨_,hn1_s6,rfl,(kp4 (kp rfl))⟩
   ·refine cF (vB hp8) (aF (ai ?_))
    obtain rfl:=sI h
    exact ax ⟨rfl,_,hn1_s6,rfl,(kp4 (kp rfl))⟩
  ·intro e L tm hJ
   obtain ⟨rfl,tm0_u7,hn1_u7,rfl,rfl⟩:=hJ
   refine ⟨(by intro hc; cases hc),?_⟩
   refine ad (eT (cS (cR (oY rfl (yMS rfl) (oY rfl (yMI rfl) ?_)))))
   obtain ⟨hg15,h⟩:=gOs h
   refine oY rfl (so cN hg15.1 hg15.2 (RdL.row 1 rfl) rfl rfl) ?_
   obtain ⟨hg16,h⟩:=gOs h
   refine cv rfl (y_clearH 1 cH l0 rfl (by decide) rfl az rfl hg16.1 hg16.2 rfl) ?_
   refine oN (eT (cS (cR (oY rfl (yMS rfl) (oY rfl (yMI rfl) (oY rfl (y_cutHc cN hg16.1 (fun W2 hW2 => (eu (hW2.mem (i:=1) rfl)).cap) rfl rfl) (oY rfl (yAS rfl) (oN (eT (ak ?_))))))))))
   obtain rfl:=sI h
   exact al (.inl rfl) rfl (rVt (v:=.slice Aa (Int.toNat u7.1) ca) rfl) (fun W2 hW2 => ⟨Int.toNat u7.1,(q4 hg16.2 hn1_u7),rfl,hW2.take 2⟩)
theorem lI (p0:Int) (cap0:Int) (res:Bool) (h:gh p0 cap0 = some res) (W:World) (bc0:Nat) (hcap0:Rd W (some ⟨bc0,0,none⟩) 1 1 (cI cap0)) :
  Calls Tryz.prog 94 [vI p0,.pointer (some ⟨bc0,0,none⟩)].toArray W fun e W2 => e = .returned (.bool res) ∧ Ext W W2 []:=by
 unfold gh at h
 refine ab (m:=7) Tryz.func94 rfl rfl (nB rfl) (cS (cR (oY rfl (yAB rfl) (oN (eT (cS (cR (oY rfl (yMI rfl) (oY rfl (yR (A:=(some ⟨bc0,0,none⟩)) (j:=0) (v:=vI cap0) ba (RdL.arg hcap0) rfl rfl) (oY rfl (du rfl rfl) (oY rfl (yAB rfl) (oN (eT (ak ?_))))))))))))))
 obtain rfl:=sI h
 exact al (.inl rfl) rfl (rVt (v:=.bool (p0 == cap0)) rfl) (fun W2 hW2 => ⟨rfl,hW2.none⟩)
theorem nj (p0:TY) (p1:(List Int)) (res:((List Int) × Int)) (h:jI p0 p1 = some res) (W:World) (Aa:Option Addr) (n0_0 ca : Nat) (hn0_0:n0_0 = p0.fB.length) (hr0_0:Rd W Aa n0_0 ca (ap TBay_cells p0.fB)) (Ab:Option Addr) (n0_1 cb : Nat) (hn0_1:n0_1 = p0.fR.length) (hr0_1:Rd W Ab n0_1 cb (ap TOrder_cells p0.fR)) (Ac:Option Addr) (n1_0 cc : Nat) (hn1_0:n1_0 = p1.length) (hr1_0:Rd W Ac n1_0 cc (ap cI p1)) :
  Calls Tryz.prog 31 [.agg #[.slice Aa n0_0 ca,.slice Ab n0_1 cb],.slice Ac n1_0 cc].toArray W fun e W2 => ∃ x : Option Addr × Nat × Nat,x.2.1 = res.1.length ∧ e = .returned (.tuple #[.slice x.1 x.2.1 x.2.2,vI res.2]) ∧ Ext W W2 [aJ x.1 x.2.2 3 1 x.2.1 (ap cI res.1)]:=by
 subst hn0_0
 subst hn0_1
 subst hn1_0
 unfold jI at h
 refine ab (m:=65) Tryz.func31 rfl rfl (nB rfl) (cS (cR ?_))
 refine aO [.slice Aa p0.fB.length ca,.slice Ab p0.fR.length cb] rfl rfl rfl (fun b1 => ?_)
 refine oY rfl (yAS rfl) (oY rfl (yAI rfl) (oN (eT (cS (cS (cR (oY rfl (yN 0 [.slice Aa p0.fB.length ca,.slice Ab p0.fR.length cb] bO rfl rfl rfl) ?_)))))))
 obtain ⟨y2,hy3,h⟩:=bOs h
 refine oY rfl (yC [.agg #[.slice Aa p0.fB.length ca,.slice Ab p0.fR.length cb]] qk rfl (fun W2 hW2 => cd p0 y2 hy3 W2 Aa p0.fB.length ca rfl ((RdL.arg hr0_0) W2 hW2) Ab p0.fR.length cb rfl ((RdL.arg hr0_1) W2 hW2)) rfl) (oY rfl (yAI rfl) (oN (eT (cS (cR (oY rfl (yMI rfl) (oY rfl (cQ rfl rfl) (oN (eT ?_)))))))))
 rcases iOs h with ⟨hp4,h⟩ | ⟨hp4,h⟩
 ·refine cT (vB hp4) (cS (cR (oY rfl (yMI rfl) (oY rfl (yAS rfl) (oY rfl (yAI rfl) (oN (eT (ak (aa ?_)))))))))
  obtain rfl:=sI h
  exact bz (.inl rfl) rfl (rVt (v:=.slice none 0 0) rfl) (rVt (v:=vI y2) rfl) (fun W2 hW2 => ⟨(none,0,0),rfl,rfl,((hW2.nilrow 3 1).pick 1 rfl)⟩)
 ·refine cF (vB hp4) (cK (eT (cS (cS (cR (oY rfl (yMS rfl) (oY rfl (bi (us:=[]) cH rfl) (oY rfl (yMI rfl) (oN (eT (cB ?_)))))))))))
  obtain ⟨u7,hl20,h⟩:=bOs h
  refine dp 3 1 ?_
  refine bS (fun (s:(Int × Int)) L tm => ∃ (tm0:Nat → Value),L = [ac b1 53 [.slice Aa p0.fB.length ca,.slice Ab p0.fR.length cb],aJ none 0 3 1 0 (ap cI ([]:List Int))] ∧ tm = (upd (upd (upd (upd (upd (upd (upd tm0 1 (.slice Ac p1.length cc)) 2 (.pointer (some ⟨b1,0,none⟩))) 4 (.slice none 0 0)) 5 (vI s.1)) 18 (.slice Ac p1.length cc)) 19 (vI (p1.length:Int))) 20 (vI s.2))) 0 hl20 ⟨_,rfl,(kp4 (kp (kp (kp rfl))))⟩ ?_ ?_
  ·rintro s6 L tm st ⟨tm0_s6,rfl,rfl⟩ h
   unfold ju at h
   refine cS (cR (oY rfl (bC rfl rfl) (oN (eT (cS ?_)))))
   rcases iOs h with ⟨hp8,h⟩ | ⟨hp8,h⟩
   ·refine cT (vB hp8) (cK (eT (cS (cB (cS (cR (oY rfl (yMI rfl) ?_)))))))
    obtain ⟨hg9,h⟩:=gOs h
    refine oY rfl (yI cN (by decide) hg9.1 hg9.2 (RdL.arg hr1_0) (eL az rfl) rfl rfl) ?_
    refine oY rfl (yR (A:=Ac) (j:=(Int.toNat s6.2 * 1)) (v:=vI (rdL p1 s6.2)) ba (RdL.arg hr1_0) rfl (aG az hg9.1 (aw hg9.2 rfl) rfl)) (oY rfl (yAI rfl) (oY rfl (yAI rfl) (oN (eT (cS (cR (oY rfl (yN 0 [.slice Aa p0.fB.length ca,.slice Ab p0.fR.length cb] bO rfl rfl rfl) (oY rfl (yMI rfl) ?_))))))))
    obtain ⟨y10,hy11,h⟩:=bOs h
    refine oY rfl (yC [.agg #[.slice Aa p0.fB.length ca,.slice Ab p0.fR.length cb],vI (rdL p1 s6.2)] go_90 rfl (fun W2 hW2 => je p0 (rdL p1 s6.2) y10 hy11 W2 Aa p0.fB.length ca rfl ((RdL.arg hr0_0) W2 hW2) Ab p0.fR.length cb rfl ((RdL.arg hr0_1) W2 hW2)) rfl) (oY rfl (bC rfl rfl) (oY rfl (yMB rfl) ?_))
    obtain ⟨b13,hb14,h⟩:=bOs h
    refine oJ 12 (fun tm0 => (upd (upd (upd (upd (upd (upd (upd (upd (upd (upd (upd tm0 1 (.slice Ac p1.length cc)) 2 (.pointer (some ⟨b1,0,none⟩))) 4 (.slice none 0 0)) 5 (vI s6.1)) 18 (.slice Ac p1.length cc)) 19 (vI (p1.length:Int))) 20 (vI s6.2)) 21 (.bool (decide (s6.2 < (p1.length:Int))))) 7 (vI s6.2)) 8 (vI (rdL p1 s6.2))) 41 (.bool b13))) (fun tm0 => ?_) (fun key => ?_)
    ·refine oN (eT ?_)
     rcases iOs h with ⟨hp15,h⟩ | ⟨hp15,h⟩
     ·refine cT (vB hp15) (cS (cR (oY rfl (yAS rfl) (oY rfl (yAI rfl) (oN (eT (ak (aj (aa ?_)))))))))
      obtain rfl:=sI h
      exact ax ⟨rfl,_,rfl,(kp4 (kp (kp (kp rfl))))⟩
     ·refine cF (vB hp15) (cK (av (eT (cR (oY rfl (a4 rfl rfl) (oY rfl (yMI rfl) (oN ?_)))))))
      obtain rfl:=sI h
      exact eN ⟨_,rfl,(kp4 (kp (kp (kp rfl))))⟩
    ·clear h; rcases iOs hb14 with ⟨hp12,h⟩ | ⟨hp12,h⟩
     ·refine oSk (sF rfl rfl rfl rfl hp12) (oSk (sF rfl rfl rfl rfl hp12) (oSk (sF rfl rfl rfl rfl hp12) (oSk rfl (oSk rfl (oSk rfl (oSk rfl (oSk rfl (oSk rfl (oSk rfl (oSk (sF rfl rfl rfl rfl hp12) (oY rfl (ag (vB hp12) rfl) ?_)))))))))))
      obtain rfl:=sI h
      exact key _ _ (kp4 (kp4 (kp (kp (kp rfl)))))
     ·refine oY (sT rfl rfl rfl rfl hp12) (yMI rfl) (oY (sT rfl rfl rfl rfl hp12) (iB rfl rfl) (oY (sT rfl rfl rfl rfl hp12) (yMB rfl) ?_))
      obtain ⟨b17,hb18,h⟩:=bOs h
      refine oJ 8 (fun tm0 => (upd (upd (upd (upd (upd (upd (upd (upd (upd (upd (upd (upd tm0 1 (.slice Ac p1.length cc)) 2 (.pointer (some ⟨b1,0,none⟩))) 4 (.slice none 0 0)) 5 (vI s6.1)) 18 (.slice Ac p1.length cc)) 19 (vI (p1.length:Int))) 20 (vI s6.2)) 21 (.bool (decide (s6.2 < (p1.length:Int))))) 7 (vI s6.2)) 8 (vI (rdL p1 s6.2))) 29 (.bool (decide (y10 < 0)))) 40 (.bool b17))) (fun tm0 => ?_) (fun key => ?_)
      ·refine oY rfl (ah (vB hp12) rfl) ?_
       obtain rfl:=sI h
       exact key _ _ (kp4 (kp4 (kp (kp (kp rfl)))))
      ·clear h; rcases iOs hb18 with ⟨hp16,h⟩ | ⟨hp16,h⟩
       ·refine oY (sT rfl rfl rfl rfl hp16) (yMI rfl) (oY (sT rfl rfl rfl rfl hp16) (yMS rfl) (oY (sT rfl rfl rfl rfl hp16) (yMI rfl) (oY (sT rfl rfl rfl rfl hp16) (gB rfl rfl) ?_)))
        obtain ⟨hg19,h⟩:=gOs h
        refine oY (sT rfl rfl rfl rfl hp16) (yI cN (by decide) hg19.1 hg19.2 (RdL.arg hr1_0) (eL az rfl) rfl rfl) ?_
        refine oY (sT rfl rfl rfl rfl hp16) (yR (A:=Ac) (j:=(Int.toNat (w64 (s6.2 - 1)) * 1)) (v:=vI (rdL p1 (w64 (s6.2 - 1)))) ba (RdL.arg hr1_0) rfl (aG az hg19.1 (aw hg19.2 rfl) rfl)) (oY (sT rfl rfl rfl rfl hp16) (kd rfl rfl) (oY (sT rfl rfl rfl rfl hp12) (ag (vB hp16) rfl) ?_))
        obtain rfl:=sI h
        exact key _ _ (kp4 (kp4 (kp4 rfl)))
       ·refine oSk (sF rfl rfl rfl rfl hp16) (oSk (sF rfl rfl rfl rfl hp16) (oSk (sF rfl rfl rfl rfl hp16) (oSk (sF rfl rfl rfl rfl hp16) (oSk (sF rfl rfl rfl rfl hp16) (oSk (sF rfl rfl rfl rfl hp16) (oSk (sF rfl rfl rfl rfl hp16) (oY (sT rfl rfl rfl rfl hp12) (ah (vB hp16) rfl) ?_)))))))
        obtain rfl:=sI h
        exact key _ _ (kp4 (kp4 (kp4 rfl)))
   ·refine cF (vB hp8) (aF (ai ?_))
    obtain rfl:=sI h
    exact ax ⟨rfl,_,rfl,(kp4 (kp (kp (kp rfl))))⟩
  ·intro e L tm hJ
   rcases u7 with u21 | u22
   ·dsimp only at h hJ
    obtain ⟨rfl,tm0_u21,rfl,rfl⟩:=hJ
    refine ⟨(by intro hc; cases hc),?_⟩
    refine aj (aa ?_)
    obtain rfl:=sI h
    exact bz (.inl rfl) rfl (rVt (v:=.slice none 0 0) rfl) (rVt (v:=vI u21.1) rfl) (fun W2 hW2 => ⟨(none,0,0),rfl,rfl,(hW2.pick 1 rfl)⟩)
   ·dsimp only at h hJ
    obtain ⟨rfl,tm0_u22,rfl,rfl⟩:=hJ
    refine ⟨(by intro hc; cases hc),?_⟩
    refine ad (eT (cS (cS (cR (oY rfl (yN 0 [.slice Aa p0.fB.length ca,.slice Ab p0.fR.length cb] bO rfl rfl rfl) (oY rfl (yMS rfl) ?_))))))
    obtain ⟨y23,hy24,h⟩:=bOs h
    refine oY rfl (yC [.agg #[.slice Aa p0.fB.length ca,.slice Ab p0.fR.length cb],.slice Ac p1.length cc] go_91 rfl (fun W2 hW2 => mN p0 p1 y23 hy24 W2 Aa p0.fB.length ca rfl ((RdL.arg hr0_0) W2 hW2) Ab p0.fR.length cb rfl ((RdL.arg hr0_1) W2 hW2) Ac p1.length cc rfl ((RdL.arg hr1_0) W2 hW2)) rfl) (oN (eT ?_))
    rcases iOs h with ⟨hp25,h⟩ | ⟨hp25,h⟩
    ·refine cT (vB hp25) (cS (cR (oY rfl (yAS rfl) (oY rfl (yAI rfl) (oN (eT (ak (aa ?_))))))))
     obtain rfl:=sI h
     exact bz (.inl rfl) rfl (rVt (v:=.slice none 0 0) rfl) (rVt (v:=vI 5) rfl) (fun W2 hW2 => ⟨(none,0,0),rfl,rfl,((hW2.nilrow 3 1).pick 2 rfl)⟩)
    ·refine cF (vB hp25) (cK (eT (cS (cR (oY rfl (yMS rfl) ?_)))))
     obtain ⟨y26,hy27,h⟩:=bOs h
     refine oC [.slice Ac p1.length cc] _ _ _ rfl go_92 rfl (fun W2 hW2 => dJ p1 y26 hy27 W2 Ac p1.length cc rfl ((RdL.arg hr1_0) W2 hW2)) ?_
     rintro ⟨A28,n30,c29⟩ hn31
     replace hn31 : n30 = y26.length:=hn31; subst hn31
     refine oY rfl (yAS rfl) (oN (eT (cS (cS (cR (oY rfl (yMS rfl) (oY rfl (bi (us:=[]) cH rfl) (oY rfl (yMI rfl) (oN (eT (cB ?_)))))))))))
     obtain ⟨u35,hl53,h⟩:=bOs h
     refine bj (fun (s:(Int × (List Int))) L tm => ∃ (tm0:Nat → Value) (A2_s:Option Addr) (c2_s:Nat) (n2_s:Nat),n2_s = s.2.length ∧ L = [ac b1 53 [.slice Aa p0.fB.length ca,.slice Ab p0.fR.length cb],aJ none 0 3 1 0 (ap cI ([]:List Int)),aJ A2_s c2_s 3 1 n2_s (ap cI s.2)] ∧ tm = (upd (upd (upd (upd (upd (upd (upd tm0 2 (.pointer (some ⟨b1,0,none⟩))) 4 (.slice none 0 0)) 5 (vI u22.1)) 9 (.slice A2_s n2_s c2_s)) 48 (.slice Ac p1.length cc)) 49 (vI (p1.length:Int))) 50 (vI s.1))) 2 hl53 ⟨_,A28,c29,y26.length,rfl,rfl,(kp4 (kp (kp (kp rfl))))⟩ ?_ ?_
     ·rintro s34 L tm st ⟨tm0_s34,A2_s34,c2_s34,n2_s34,rfl,rfl,rfl⟩ h
      unfold jG at h
      refine cS (cR (oY rfl (bC rfl rfl) (oN (eT (cS ?_)))))
      rcases iOs h with ⟨hp36,h⟩ | ⟨hp36,h⟩
      ·refine cT (vB hp36) (cK (eT (cS (cB (cS (cR ?_))))))
       obtain ⟨hg37,h⟩:=gOs h
       refine oY rfl (yI cN (by decide) hg37.1 hg37.2 (RdL.arg hr1_0) (eL az rfl) rfl rfl) ?_
       refine oY rfl (yR (A:=Ac) (j:=(Int.toNat s34.1 * 1)) (v:=vI (rdL p1 s34.1)) ba (RdL.arg hr1_0) rfl (aG az hg37.1 (aw hg37.2 rfl) rfl)) ?_
       refine ay l0 rfl (fun b38 => ?_)
       refine cv rfl (dl 3 (v:=vI (rdL p1 s34.1)) pW rfl (Nat.lt_of_lt_of_le (Nat.lt_succ_self _) (nB rfl)) rfl rfl rfl) (oN (eT (cS (cR (oY rfl (yMS rfl) ?_)))))
       obtain ⟨y39,hy40,h⟩:=bOs h
       refine oC [.slice A2_s34 s34.2.length c2_s34] _ _ _ rfl go_92 rfl (fun W2 hW2 => dJ s34.2 y39 hy40 W2 A2_s34 s34.2.length c2_s34 rfl ((RdL.row 2 rfl) W2 hW2)) ?_
       rintro ⟨A41,n43,c42⟩ hn44
       replace hn44 : n43 = y39.length:=hn44; subst hn44
       refine oY rfl (cg [.pointer (some ⟨b38,0,none⟩)] rfl rfl) ?_
       obtain ⟨y46,hy47,h⟩:=bOs h
       refine eI 4 [.slice A41 y39.length c42,.func (.func 94) #[] #[.pointer (some ⟨b38,0,none⟩)]] (fun k : Nat => k = y46.length) (fun k => .slice A41 k c42) (fun k => aJ A41 c42 3 1 k (ap cI y46)) (fun _ => []) rfl rfl go_93 rfl (fun W2 hW2 => (gH y39 (fun x45 => gh x45 (rdL p1 s34.1)) y46 hy47 W2 _ (cA [ac b1 53 [.slice Aa p0.fB.length ca,.slice Ab p0.fR.length cb],aJ none 0 3 1 0 (ap cI ([]:List Int)),aJ A2_s34 c2_s34 3 1 s34.2.length (ap cI s34.2),ac b38 3 [vI (rdL p1 s34.1)],aJ A41 c42 3 1 y39.length (ap cI y39)] [4]) A41 y39.length c42 rfl 94 [] [.pointer (some ⟨b38,0,none⟩)] go_94 (fun W3 hb hR x y hxy => lI  x (rdL p1 s34.1) y hxy W3 b38 ((RdL.cells 3 rfl) W3 (hW2.rest hb hR))) hW2).mono (fun e W3 h3 => h3)) ?_
       rintro k48 hn49
       subst hn49
       try dsimp only [lsz,lss,List.append_nil]
       refine oY rfl (yAS rfl) (oN (eT (cS (cR (oY rfl (yN 0 [.slice Aa p0.fB.length ca,.slice Ab p0.fR.length cb] bO rfl rfl rfl) (oY rfl (yMS rfl) ?_))))))
       obtain ⟨y50,hy51,h⟩:=bOs h
       refine oY rfl (yC [.agg #[.slice Aa p0.fB.length ca,.slice Ab p0.fR.length cb],.slice A41 y46.length c42] go_91 rfl (fun W2 hW2 => mN p0 y46 y50 hy51 W2 Aa p0.fB.length ca rfl ((RdL.arg hr0_0) W2 hW2) Ab p0.fR.length cb rfl ((RdL.arg hr0_1) W2 hW2) A41 y46.length c42 rfl ((RdL.row 4 rfl) W2 hW2)) rfl) (oY rfl (cj rfl) (oN (eT ?_)))
       rcases iOs h with ⟨hp52,h⟩ | ⟨hp52,h⟩
       ·refine cT (vB hp52) (cR (oY rfl (yMS rfl) (oY rfl (yAS rfl) (oN (av (eT (cR (oY rfl (a4 rfl rfl) (oY rfl (yMI rfl) (oN ?_))))))))))
        refine ex_mv 2 4 (by decide) rfl ?_
        try dsimp only [lsz,lss]
        refine aP 3 ?_
        obtain rfl:=sI h
        exact eN ⟨_,A41,c42,y46.length,rfl,rfl,(kp4 (kp (kp (kp rfl))))⟩
       ·refine cF (vB hp52) (cK (av (eT (cR (oY rfl (a4 rfl rfl) (oY rfl (yMI rfl) (oN (aP 3 ?_))))))))
        obtain rfl:=sI h
        exact eN ⟨_,A2_s34,c2_s34,s34.2.length,rfl,rfl,(kp4 (kp (kp (kp rfl))))⟩
      ·refine cF (vB hp36) (aF (ai ?_))
       obtain rfl:=sI h
       exact ax ⟨rfl,_,A2_s34,c2_s34,s34.2.length,rfl,rfl,(kp4 (kp (kp (kp rfl))))⟩
     ·intro e L tm hJ
      obtain ⟨rfl,tm0_u35,A2_u35,c2_u35,n2_u35,rfl,rfl,rfl⟩:=hJ
      refine ⟨(by intro hc; cases hc),?_⟩
      refine ad (eT (cS (cR (oY rfl (yMS rfl) (oY rfl (yAS rfl) (oY rfl (yAI rfl) (oN (eT (ak ?_)))))))))
      obtain rfl:=sI h
      exact bz (.inl rfl) rfl (rVt (v:=.slice A2_u35 u35.2.length c2_u35) rfl) (rVt (v:=vI 0) rfl) (fun W2 hW2 => ⟨(A2_u35,u35.2.length,c2_u35),rfl,rfl,(hW2.pick 2 rfl)⟩)
theorem iQ (p0:(List TBay)) (p1:Int) (p2:Int) (res:(List TBay)) (h:cZ p0 p1 p2 = some res) (W:World) (w0:World) (R:Res) (Aa:Option Addr) (n0_0 ca : Nat) (hn0_0:n0_0 = p0.length) (hW:Ext w0 W [R,aJ Aa ca 69 3 n0_0 (ap TBay_cells p0)]) :
  Calls Tryz.prog 141 [.slice Aa n0_0 ca,vI p1,vI p2].toArray W fun e W2 => ∃ k : Nat,k = res.length ∧ e = .returned (.slice Aa k ca) ∧ Ext w0 W2 [R,aJ Aa ca 69 3 k (ap TBay_cells res)]:=by
 subst hn0_0
 unfold cZ at h
 refine aU (m:=33) Tryz.func141 rfl rfl (nB rfl) hW (cS (cR (oY rfl (yAS rfl) (oN (eT (cS (cR (oY rfl (yMS rfl) (oY rfl (yMI rfl) (oY rfl (yMI rfl) (oY rfl (yMS rfl) (oY rfl (bi (us:=[]) ib rfl) ?_))))))))))))
 obtain ⟨hg1,h⟩:=gOs h
 refine oY rfl (y_cut3 kw hg1.1 hg1.2.1 hg1.2.2.1 hg1.2.2.2 (RdL.row 1 rfl) rfl rfl rfl rfl) (oN (eT (cS (cS (cR (oY rfl (yMI rfl) (oY rfl (yMI rfl) (oY rfl (du rfl rfl) (oN (eT ?_))))))))))
 rcases iOs h with ⟨hp2,h⟩ | ⟨hp2,h⟩
 ·refine cT (vB hp2) (cS (cR (oY rfl (yMS rfl) (oY rfl (yAS rfl) (oN (eT (ak (aa ?_))))))))
  obtain rfl:=sI h
  exact al (.inl rfl) rfl (rVt (v:=.slice Aa p0.length ca) rfl) (fun W2 hW2 => ⟨p0.length,rfl,rfl,hW2.take 2⟩)
 ·refine cF (vB hp2) (cK (eT (cS (cR (oY rfl (yMS rfl) (oY rfl (bi (us:=[]) ib rfl) (oY rfl (yAI rfl) (oN (eT (cS ?_))))))))))
  refine bM 6 dD (by kernel_rfl) (by kernel_rfl) ?_
  refine qY rfl (yMS rfl) (qY rfl (yMI rfl) ?_)
  obtain ⟨hg3,h⟩:=gOs h
  refine qY rfl (sS kw hg3.1 hg3.2 (RdL.row 1 rfl) rfl rfl) (qY rfl (yMS rfl) (qY rfl (yMI rfl) ?_))
  obtain ⟨hg4,h⟩:=gOs h
  refine qY rfl (so kw hg4.1 hg4.2 (RdL.row 1 rfl) rfl rfl) (dF ?_)
  obtain ⟨hg5,h⟩:=gOs h
  refine l2 1 aE kg ib nu by_69 rfl rfl hg3.1 hg5 hg4.2 rfl rfl rfl (oY rfl (yAS rfl) (oN (eT (cS (cR (oY rfl (yMS rfl) (oY rfl (yMS rfl) (oY rfl (bi (us:=[]) ib rfl) (oY rfl (yMI rfl) ?_)))))))))
  refine oY rfl (y_cutO kw (by omega) (by have h8:=(lb hg3.1 hg5 hg4.2); omega) (by have h9:=(eu (hW.mem (i:=1) rfl)).cap; omega) rfl rfl rfl) ?_
  refine cv rfl (qW 1 ib nu rfl (by decide) rfl rfl (by have h8:=(lb hg3.1 hg5 hg4.2); have h9:=(eu (hW.mem (i:=1) rfl)).cap; simp only [Int.toNat_natCast]; omega) rfl) ?_
  refine oN (eT (cS (cR (oY rfl (yMS rfl) (oY rfl (yAS rfl) (oN (eT (ak ?_))))))))
  obtain rfl:=sI h
  exact al (.inl rfl) rfl (rVt (v:=.slice Aa (Int.toNat p1 + (p0.length - Int.toNat p2)) ca) rfl) (fun W2 hW2 => ⟨(Int.toNat p1 + (p0.length - Int.toNat p2)),(nP hg3.1 hg5 hg4.2 rfl),rfl,hW2.take 2⟩)
theorem i5 (p0:(List TBay)) (res:(List TBay)) (h:dm p0 = some res) (W:World) (Aa:Option Addr) (n0_0 ca : Nat) (hn0_0:n0_0 = p0.length) (hr0_0:Rd W Aa n0_0 ca (ap TBay_cells p0)) :
  Calls Tryz.prog 142 [.slice Aa n0_0 ca].toArray W fun e W2 => ∃ x : Option Addr × Nat × Nat,x.2.1 = res.length ∧ e = .returned (.slice x.1 x.2.1 x.2.2) ∧ Ext W W2 [aJ x.1 x.2.2 69 3 x.2.1 (ap TBay_cells res)]:=by
 subst hn0_0
 unfold dm at h
 refine ab (m:=8) Tryz.func142 rfl rfl (nB rfl) (cS (cR (oY rfl (yAS rfl) (oN (eT (cS (cS (cR (oY rfl (yMS rfl) (oY rfl (og ib rfl rfl) (oN (eT ?_))))))))))))
 rcases aq (Option.isNone Aa) with hp1 | hp1
 ·refine cT (vB hp1) ?_
  have z6:=oH (Option.isNone_iff_eq_none.1 hp1 ▸ hr0_0) aE (by decide)
  replace h:=(gOs h).2
  rw [z6] at h
  refine cS (cR (oY rfl (yAS rfl) (oN (eT (ak (aa ?_))))))
  obtain rfl:=sI h
  exact al (.inl rfl) rfl (rVt (v:=.slice none 0 0) rfl) (fun W2 hW2 => ⟨(none,0,0),rfl,rfl,((hW2.nilrow 69 3).pick 0 rfl)⟩)
 ·refine cF (vB hp1) (cK (eT (cS (cR ?_))))
  refine eB TBay_cells ib nu by_69 rfl (fun b2 => ?_)
  refine oY rfl (yMS rfl) ?_
  obtain ⟨hg5,h⟩:=gOs h
  refine bU 0 ib nu by_69 rfl rfl rfl (RdL.arg hr0_0) (eL aE rfl) (cW kg _) (dk hg5 (by decide)) rfl (fun A3 c4 => ?_)
  refine oY rfl (yAS rfl) (oN (eT (ak ?_)))
  obtain rfl:=sI h
  exact al (.inl rfl) rfl (rVt (v:=.slice A3 (0 + p0.length) c4) rfl) (fun W2 hW2 => ⟨(A3,(0 + p0.length),c4),(eZ rfl rfl),rfl,(hW2.pick 0 rfl)⟩)
theorem jt (p0:TY) (p1:Int) (res:TY) (h:fg p0 p1 = some res) (W:World) (Aa:Option Addr) (n0_0 ca : Nat) (hn0_0:n0_0 = p0.fB.length) (hr0_0:Rd W Aa n0_0 ca (ap TBay_cells p0.fB)) (Ab:Option Addr) (n0_1 cb : Nat) (hn0_1:n0_1 = p0.fR.length) (hr0_1:Rd W Ab n0_1 cb (ap TOrder_cells p0.fR)) :
  Calls Tryz.prog 97 [.agg #[.slice Aa n0_0 ca,.slice Ab n0_1 cb],vI p1].toArray W fun e W2 => ∃ x : (Option Addr × Nat × Nat),x.2.1 = res.fB.length ∧ e = .returned (.agg #[.slice x.1 x.2.1 x.2.2,.slice Ab n0_1 cb]) ∧ Ext W W2 [aJ x.1 x.2.2 69 3 x.2.1 (ap TBay_cells res.fB)]:=by
 subst hn0_0
 subst hn0_1
 unfold fg at h
 refine ab (m:=15) Tryz.func97 rfl rfl (nB rfl) (cS (cR ?_))
 refine aO [.slice Aa p0.fB.length ca,.slice Ab p0.fR.length cb] rfl rfl rfl (fun b1 => ?_)
 refine ay nA rfl (fun b2 => ?_)
 refine oN (eT (cS ?_))
 obtain ⟨y4,hy5,h⟩:=bOs h
 obtain ⟨y10,hy11,h⟩:=bOs h
 refine d6 [[],[0],[0,1],[],[],[4],[0,1,2,3,4,5],[],[7],[0,1,2,3,4,5,6,7,8],[0,1,2,3,4,5,6,7,8,9]] [(none,0,[true,true]),(none,0,[true,true]),(none,1,[true,true]),(none,0,[true,true,false]),(none,0,[true,true,false]),(none,0,[true,true,false]),(some 2,0,[true,true,true]),(none,0,[true,true,false]),(none,0,[true,true,false]),(none,0,[true,true,true]),(some 1,0,[true,true,true])] [⟨fun _ => .pointer (some ⟨b1,0 + 0,none⟩),fun _ => noR,fun _ => []⟩,⟨fun _ => .slice Aa p0.fB.length ca,fun _ => noR,fun _ => []⟩,⟨fun ξ3 => .slice (ξ3 2 0).1 y4.length (ξ3 2 0).2.2.1,fun _ => noR,fun ξ3 => [aJ (ξ3 2 0).1 (ξ3 2 0).2.2.1 69 3 y4.length (ap TBay_cells y4)]⟩,⟨fun _ => vI p1,fun _ => noR,fun _ => []⟩,⟨fun _ => vI p1,fun _ => noR,fun _ => []⟩,⟨fun _ => vI (w64 (p1 + 1)),fun _ => noR,fun _ => []⟩,⟨fun ξ3 => .slice (ξ3 2 0).1 y10.length (ξ3 2 0).2.2.1,fun ξ3 => aJ (ξ3 2 0).1 (ξ3 2 0).2.2.1 69 3 y10.length (ap TBay_cells y10),fun _ => []⟩,⟨fun _ => .pointer (some ⟨b1,0 + 1,none⟩),fun _ => noR,fun _ => []⟩,⟨fun _ => .slice Ab p0.fR.length cb,fun _ => noR,fun _ => []⟩,⟨fun ξ3 => .agg #[.slice (ξ3 2 0).1 y10.length (ξ3 2 0).2.2.1,.slice Ab p0.fR.length cb],fun _ => noR,fun _ => []⟩,⟨fun _ => undef,fun ξ3 => ac b2 53 [.slice (ξ3 2 0).1 y10.length (ξ3 2 0).2.2.1,.slice Ab p0.fR.length cb],fun _ => []⟩] 2 dD (by kernel_rfl) (by kernel_rfl) ⟨⟨fun ξ3 ξ3' h => ⟨rfl,rfl,rfl⟩,fun _ => rfl⟩,⟨fun ξ3 ξ3' h => ⟨rfl,rfl,rfl⟩,fun _ => rfl⟩,⟨fun ξ3 ξ3' h => ⟨by simp only [h 2 (.inl rfl)],rfl,by simp only [h 2 (.inl rfl)]⟩,fun _ => rfl⟩,⟨fun ξ3 ξ3' h => ⟨rfl,rfl,rfl⟩,fun _ => rfl⟩,⟨fun ξ3 ξ3' h => ⟨rfl,rfl,rfl⟩,fun _ => rfl⟩,⟨fun ξ3 ξ3' h => ⟨rfl,rfl,rfl⟩,fun _ => rfl⟩,⟨fun ξ3 ξ3' h => ⟨by simp only [h 2 (.inr rfl)],by simp only [h 2 (.inr rfl)],rfl⟩,fun _ => rfl⟩,⟨fun ξ3 ξ3' h => ⟨rfl,rfl,rfl⟩,fun _ => rfl⟩,⟨fun ξ3 ξ3' h => ⟨rfl,rfl,rfl⟩,fun _ => rfl⟩,⟨fun ξ3 ξ3' h => ⟨by simp only [h 2 (.inr rfl)],rfl,rfl⟩,fun _ => rfl⟩,⟨fun ξ3 ξ3' h => ⟨rfl,by simp only [h 2 (.inr rfl)],rfl⟩,fun _ => rfl⟩,trivial⟩ rfl (fun ξ3 => ?_)
 refine bX rfl (fun L2 => ?_) ?_
 ·dsimp only [aA,lca,lna]
  refine oY rfl (yFA cq rfl) (oN ?_)
  exact ao (fun _ => (none,0,0,[],noR)) rfl (List.append_nil _)
 dsimp only [bB,lsz,lss,lna,lca,List.append_nil]
 refine bX rfl (fun L2 => ?_) ?_
 ·dsimp only [aA,lca,lna]
  refine oY rfl (yL 0 gz rfl rfl rfl) (oN ?_)
  exact ao (fun _ => (none,0,0,[],noR)) rfl (List.append_nil _)
 dsimp only [bB,lsz,lss,lna,lca,List.append_nil]
 refine bX rfl (fun L2 => ?_) ?_
 ·dsimp only [aA,lca,lna]
  refine oC [.slice Aa p0.fB.length ca] _ _ _ rfl go_142 rfl (fun W2 hW2 => i5 p0.fB y4 hy5 W2 Aa p0.fB.length ca rfl ((RdL.arg hr0_0) W2 hW2)) ?_
  rintro ⟨A6,n8,c7⟩ hn9
  replace hn9 : n8 = y4.length:=hn9; subst hn9
  refine oN ?_
  exact ao (fun _ => (A6,0,c7,[],noR)) rfl rfl
 dsimp only [bB,lsz,lss,lna,lca,List.append_nil]
 refine bX rfl (fun L2 => ?_) ?_
 ·dsimp only [aA,lca,lna]
  refine oY rfl (yMI rfl) (oN ?_)
  exact ao (fun _ => (none,0,0,[],noR)) rfl (List.append_nil _)
 dsimp only [bB,lsz,lss,lna,lca,List.append_nil]
 refine bX rfl (fun L2 => ?_) ?_
 ·dsimp only [aA,lca,lna]
  refine oY rfl (yMI rfl) (oN ?_)
  exact ao (fun _ => (none,0,0,[],noR)) rfl (List.append_nil _)
 dsimp only [bB,lsz,lss,lna,lca,List.append_nil]
 refine bX rfl (fun L2 => ?_) ?_
 ·dsimp only [aA,lca,lna]
  refine oY rfl (a4 rfl rfl) (oN ?_)
  exact ao (fun _ => (none,0,0,[],noR)) rfl (List.append_nil _)
 dsimp only [bB,lsz,lss,lna,lca,List.append_nil]
 refine bX rfl (fun L2 => ?_) ?_
 ·dsimp only [aA,lca,lna]
  refine eI 2 [.slice (ξ3 2 0).1 y4.length (ξ3 2 0).2.2.1,vI p1,vI (w64 (p1 + 1))] (fun k : Nat => k = y10.length) (fun k => .slice (ξ3 2 0).1 k (ξ3 2 0).2.2.1) (fun k => aJ (ξ3 2 0).1 (ξ3 2 0).2.2.1 69 3 k (ap TBay_cells y10)) (fun _ => []) rfl rfl go_141 rfl (fun W2 hW2 => (iQ y4 p1 (w64 (p1 + 1)) y10 hy11 W2 _ _ (ξ3 2 0).1 y4.length (ξ3 2 0).2.2.1 rfl hW2).mono (fun e W3 h3 => h3)) ?_
  rintro k12 hn13
  subst hn13
  try dsimp only [lsz,lss,List.append_nil]
  refine oN ?_
  first | exact ao (fun _ => (none,0,0,[],noR)) rfl rfl | exact ao (fun _ => (none,0,0,[],noR)) rfl (List.append_nil _)
 dsimp only [bB,lsz,lss,lna,lca,List.append_nil]
 refine bX rfl (fun L2 => ?_) ?_
 ·dsimp only [aA,lca,lna]
  refine oY rfl (yFA bq rfl) (oN ?_)
  exact ao (fun _ => (none,0,0,[],noR)) rfl (List.append_nil _)
 dsimp only [bB,lsz,lss,lna,lca,List.append_nil]
 refine bX rfl (fun L2 => ?_) ?_
 ·dsimp only [aA,lca,lna]
  refine oY rfl (yL 0 dT rfl rfl rfl) (oN ?_)
  exact ao (fun _ => (none,0,0,[],noR)) rfl (List.append_nil _)
 dsimp only [bB,lsz,lss,lna,lca,List.append_nil]
 refine bX rfl (fun L2 => ?_) ?_
 ·dsimp only [aA,lca,lna]
  refine oY rfl (aV [.slice (ξ3 2 0).1 y10.length (ξ3 2 0).2.2.1,.slice Ab p0.fR.length cb] [(0,1),(1,1)] pr nA (by kernel_rfl)) ?_
  refine oN ?_
  exact ao (fun _ => (none,0,0,[],noR)) rfl (List.append_nil _)
 dsimp only [bB,lsz,lss,lna,lca,List.append_nil]
 refine rm rfl (fun L2 => ?_) ?_
 ·dsimp only [aA,lca,lna]
  refine cv rfl (yS 1 [.slice (ξ3 2 0).1 y10.length (ξ3 2 0).2.2.1,.slice Ab p0.fR.length cb] rk rfl (nB rfl) rfl rfl rfl) (oN ?_)
  first | exact bE (fun _ => (none,0,0,[],noR)) rfl | exact bE (fun _ => (none,0,0,[],noR)) (List.append_nil _)
 dsimp only [bB,lsz,lss,lna,lca,List.append_nil]
 refine jO (eT (ak ?_))
 obtain rfl:=sI h
 exact al (.inl rfl) rfl (bv 1 [.slice (ξ3 2 0).1 y10.length (ξ3 2 0).2.2.1,.slice Ab p0.fR.length cb] bO rfl rfl rfl) (fun W2 hW2 => ⟨((ξ3 2 0).1,y10.length,(ξ3 2 0).2.2.1),rfl,rfl,hW2.pickL [2] (by decide) rfl⟩)
theorem pA (p0:TY) (p1:Int) (res:(Int × Int)) (h:np p0 p1 = some res) (W:World) (Aa:Option Addr) (n0_0 ca : Nat) (hn0_0:n0_0 = p0.fB.length) (hr0_0:Rd W Aa n0_0 ca (ap TBay_cells p0.fB)) (Ab:Option Addr) (n0_1 cb : Nat) (hn0_1:n0_1 = p0.fR.length) (hr0_1:Rd W Ab n0_1 cb (ap TOrder_cells p0.fR)) :
  Calls Tryz.prog 33 [.agg #[.slice Aa n0_0 ca,.slice Ab n0_1 cb],vI p1].toArray W fun e W2 => e = .returned (.tuple #[vI res.1,vI res.2]) ∧ Ext W W2 []:=by
 subst hn0_0
 subst hn0_1
 unfold np at h
 refine ab (m:=25) Tryz.func33 rfl rfl (nB rfl) (cS (cR ?_))
 refine aO [.slice Aa p0.fB.length ca,.slice Ab p0.fR.length cb] rfl rfl rfl (fun b1 => ?_)
 refine oY rfl (yAI rfl) (oY rfl (yAI rfl) (oN (eT (cS (cS (cR (oY rfl (yN 0 [.slice Aa p0.fB.length ca,.slice Ab p0.fR.length cb] bO rfl rfl rfl) ?_)))))))
 obtain ⟨y2,hy3,h⟩:=bOs h
 refine oY rfl (yC [.agg #[.slice Aa p0.fB.length ca,.slice Ab p0.fR.length cb]] qk rfl (fun W2 hW2 => cd p0 y2 hy3 W2 Aa p0.fB.length ca rfl ((RdL.arg hr0_0) W2 hW2) Ab p0.fR.length cb rfl ((RdL.arg hr0_1) W2 hW2)) rfl) (oY rfl (yAI rfl) (oN (eT (cS (cR (oY rfl (yMI rfl) (oY rfl (cQ rfl rfl) (oN (eT ?_)))))))))
 rcases iOs h with ⟨hp4,h⟩ | ⟨hp4,h⟩
 ·refine cT (vB hp4) (cS (cR (oY rfl (yMI rfl) (oY rfl (yAI rfl) (oY rfl (yAI rfl) (oN (eT (ak (aa ?_)))))))))
  obtain rfl:=sI h
  exact bz (.inl rfl) rfl (rVt (v:=vI 0) rfl) (rVt (v:=vI y2) rfl) (fun W2 hW2 => ⟨rfl,hW2.none⟩)
 ·refine cF (vB hp4) (cK (eT (cS (cR (oY rfl (yN 0 [.slice Aa p0.fB.length ca,.slice Ab p0.fR.length cb] bO rfl rfl rfl) (oY rfl (yMI rfl) ?_))))))
  obtain ⟨y5,hy6,h⟩:=bOs h
  refine oY rfl (yC [.agg #[.slice Aa p0.fB.length ca,.slice Ab p0.fR.length cb],vI p1] go_96 rfl (fun W2 hW2 => jd p0 p1 y5 hy6 W2 Aa p0.fB.length ca rfl ((RdL.arg hr0_0) W2 hW2) Ab p0.fR.length cb rfl ((RdL.arg hr0_1) W2 hW2)) rfl) (oY rfl (yAI rfl) (oN (eT (cS (cS (cR (oY rfl (yMI rfl) (oY rfl (bC rfl rfl) (oN (eT ?_))))))))))
  rcases iOs h with ⟨hp7,h⟩ | ⟨hp7,h⟩
  ·refine cT (vB hp7) (cS (cR (oY rfl (yAI rfl) (oY rfl (yAI rfl) (oN (eT (ak (aa ?_))))))))
   obtain rfl:=sI h
   exact bz (.inl rfl) rfl (rVt (v:=vI 0) rfl) (rVt (v:=vI 5) rfl) (fun W2 hW2 => ⟨rfl,hW2.none⟩)
  ·refine cF (vB hp7) (cK (eT (cS ?_)))
   refine bM 4 dD (by kernel_rfl) (by kernel_rfl) ?_
   refine qY rfl (yN 0 [.slice Aa p0.fB.length ca,.slice Ab p0.fR.length cb] bO rfl rfl rfl) ?_
   obtain ⟨y8,hy9,h⟩:=bOs h
   refine qY rfl (yC [.agg #[.slice Aa p0.fB.length ca,.slice Ab p0.fR.length cb]] rK rfl (fun W2 hW2 => el p0 y8 hy9 W2 Aa p0.fB.length ca rfl ((RdL.arg hr0_0) W2 hW2) Ab p0.fR.length cb rfl ((RdL.arg hr0_1) W2 hW2)) rfl) (qY rfl (yN 0 [.slice Aa p0.fB.length ca,.slice Ab p0.fR.length cb] bO rfl rfl rfl) (qY rfl (yMI rfl) (dF ?_)))
   obtain ⟨y10,hy11,h⟩:=bOs h
   refine oC [.agg #[.slice Aa p0.fB.length ca,.slice Ab p0.fR.length cb],vI y5] _ _ _ rfl go_97 rfl (fun W2 hW2 => jt p0 y5 y10 hy11 W2 Aa p0.fB.length ca rfl ((RdL.arg hr0_0) W2 hW2) Ab p0.fR.length cb rfl ((RdL.arg hr0_1) W2 hW2)) ?_
   rintro ⟨A16,n18,c17⟩ hn19
   replace hn19 : n18 = y10.fB.length:=hn19; subst hn19
   obtain ⟨y20,hy21,h⟩:=bOs h
   refine oY rfl (yC [.agg #[.slice A16 y10.fB.length c17,.slice Ab p0.fR.length cb]] rK rfl (fun W2 hW2 => el (TY.mk y10.fB p0.fR) y20 hy21 W2 A16 y10.fB.length c17 rfl ((RdL.row 1 rfl) W2 hW2) Ab p0.fR.length cb rfl ((RdL.arg hr0_1) W2 hW2)) rfl) (oY rfl (gB rfl rfl) (oY rfl (yAI rfl) (oY rfl (yAI rfl) (oN (eT (ak ?_))))))
   obtain rfl:=sI h
   exact bz (.inl rfl) rfl (rVt (v:=vI (w64 (y8 - y20))) rfl) (rVt (v:=vI 0) rfl) (fun W2 hW2 => ⟨rfl,hW2.none⟩)
end Go.Proofs.YthndghnkebboaaaGreat
