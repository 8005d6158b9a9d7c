import Derived.Test.YthndghnkebboaaaGreatF
import Derived.Test.YthndghnkebboaaaGreatGD
import Derived.Test.YthndghnkebboaaaGreatGr
import Derived.Test.YthndghnkebboaaaGreatC0
import Derived.Test.YthndghnkebboaaaGreatC2
set_option maxHeartbeats 4000000
set_option maxRecDepth 100000
set_option linter.unusedVariables false
namespace Go.Proofs.YthndghnkebboaaaGreat
open Go.RowKit (Below)
attribute [local irreducible] OX QX CX EX OpY Calls CallsIn
theorem du (p0:TY) (res:Int) (h:c3 p0 = some res) (W:World) (Aa:Option Addr) (n0_0 ca : Nat) (hn0_0:n0_0 = p0.fB.length) (hr0_0:Rd W Aa n0_0 ca (encL aA p0.fB)) (Ab:Option Addr) (n0_1 cb : Nat) (hn0_1:n0_1 = p0.fR.length) (hr0_1:Rd W Ab n0_1 cb (encL ay p0.fR)) :
  Calls Tryz.prog 45 [.agg #[.slice Aa n0_0 ca,.slice Ab n0_1 cb]].toArray W fun e W2 => e = .returned (vI res) ∧ Ext W W2 []:=by
 subst hn0_0
 subst hn0_1
 unfold c3 at h
 refine ab (m:=102) Tryz.func45 rfl rfl (nB rfl) (cS (cR ?_))
 refine aN [.slice Aa p0.fB.length ca,.slice Ab p0.fR.length cb] rfl rfl rfl (fun b1 => ?_)
 refine oY rfl (yAI rfl) (oN (eT (cS (cS (cR (oY rfl (yFA dU rfl) (oY rfl (yL 0 jD rfl rfl rfl) (oY rfl (bk (us:=[]) jv rfl) (oY rfl (gq rfl rfl) (oY rfl (yMB rfl) ?_))))))))))
 refine oJ 5 (fun tm0 => (upd (upd (upd tm0 1 (.pointer (some ⟨b1,0,none⟩))) 2 (vI 0)) 16 (.bool ((decide (24 < (p0.fB.length:Int))) || (decide (24 < (p0.fR.length:Int))))))) (fun tm0 => ?_) (fun key => ?_)
 ·refine oN (eT ?_)
  rcases iOs h with ⟨hp3,h⟩ | ⟨hp3,h⟩
  ·refine cT (vB hp3) (cS (cR (oY rfl (yAI rfl) (oN (eT (ak (aa ?_)))))))
   obtain rfl:=sI h
   exact aj (.inl rfl) rfl (rVt (v:=vI 2) rfl) (fun W2 hW2 => ⟨rfl,hW2.none⟩)
  ·refine cF (vB hp3) (cK (eT (cS (cS (cR (oY rfl (yFA dU rfl) (oY rfl (yL 0 jD rfl rfl rfl) (oY rfl (bk (us:=[]) jv rfl) (oY rfl (yMI rfl) (oN (eT (cB ?_))))))))))))
   obtain ⟨u6,hl26,h⟩:=bOs h
   refine bt (fun (s:(Int × Int)) L tm => ∃ (tm0:Nat → Value),L = [ai b1 53 [.slice Aa p0.fB.length ca,.slice Ab p0.fR.length cb]] ∧ tm = (upd (upd (upd (upd (upd tm0 1 (.pointer (some ⟨b1,0,none⟩))) 2 (vI s.1)) 18 (.slice Aa p0.fB.length ca)) 19 (vI (p0.fB.length:Int))) 20 (vI s.2))) 0 hl26 ⟨_,rfl,(kp4 (kp rfl))⟩ ?_ ?_
   ·rintro s5 L tm st ⟨tm0_s5,rfl,rfl⟩ h
    unfold iK at h
    refine cS (cR (oY rfl (bl rfl rfl) (oN (eT (cS ?_)))))
    rcases iOs h with ⟨hp7,h⟩ | ⟨hp7,h⟩
    ·refine cT (vB hp7) (cK (eT (cS (cB (cS (cR (oY rfl (yMI rfl) ?_)))))))
     obtain ⟨hg8,h⟩:=gOs h
     refine oY rfl (yI lJ (by decide) hg8.1 hg8.2 (RdL.arg hr0_0) (eL aH rfl) rfl rfl) ?_
     refine oY rfl (yM (A:=Aa) (j:=(Int.toNat s5.2 * 3)) [vI ((rdL p0.fB s5.2).fID),vI ((rdL p0.fB s5.2).fHour),vI ((rdL p0.fB s5.2).fD)] tv (Nat.succ_pos _) (RdL.arg hr0_0) rfl (bh aH hg8.1 (ap hg8.2 rfl))) ?_
     refine aB nH rfl (fun b9 => ?_)
     refine oY rfl (yAI rfl) (cJ rfl (yS 1 [vI ((rdL p0.fB s5.2).fID),vI ((rdL p0.fB s5.2).fHour),vI ((rdL p0.fB s5.2).fD)] sz_69 rfl (nB rfl) rfl rfl rfl) (oN (eT (cS (cS (cR (oY rfl (yFA jR rfl) (oY rfl (yL 1 a8 rfl rfl rfl) ?_))))))))
     obtain ⟨y10,hy11,h⟩:=bOs h
     refine oY rfl (yC [vI ((rdL p0.fB s5.2).fID),vI 1,vI 1099511627776] gj rfl (fun W2 hW2 => aW ((rdL p0.fB s5.2).fID) 1 1099511627776 y10 hy11 W2 ) rfl) (oY rfl (bE rfl) (oY rfl (yMB rfl) ?_))
     obtain ⟨b13,hb14,h⟩:=bOs h
     refine oJ 5 (fun tm0 => (upd (upd (upd (upd (upd (upd (upd (upd (upd tm0 1 (.pointer (some ⟨b1,0,none⟩))) 2 (vI s5.1)) 18 (.slice Aa p0.fB.length ca)) 19 (vI (p0.fB.length:Int))) 20 (vI s5.2)) 21 (.bool (decide (s5.2 < (p0.fB.length:Int))))) 4 (.pointer (some ⟨b9,0,none⟩))) 3 (vI s5.2)) 34 (.bool b13))) (fun tm0 => ?_) (fun key => ?_)
     ·refine oY rfl (yMB rfl) ?_
      obtain ⟨b16,hb17,h⟩:=bOs h
      refine oJ 5 (fun tm0 => (upd (upd (upd (upd (upd (upd (upd (upd (upd tm0 1 (.pointer (some ⟨b1,0,none⟩))) 2 (vI s5.1)) 18 (.slice Aa p0.fB.length ca)) 19 (vI (p0.fB.length:Int))) 20 (vI s5.2)) 21 (.bool (decide (s5.2 < (p0.fB.length:Int))))) 4 (.pointer (some ⟨b9,0,none⟩))) 3 (vI s5.2)) 40 (.bool b16))) (fun tm0 => ?_) (fun key => ?_)
      ·refine oN (eT ?_)
       rcases iOs h with ⟨hp18,h⟩ | ⟨hp18,h⟩
       ·refine cT (vB hp18) (cS (cR (oY rfl (yAI rfl) (oN (eT (ak (aa (ah (aa (aT 1 ?_))))))))))
        obtain rfl:=sI h
        exact aw ⟨rfl,_,rfl,(kp4 (kp rfl))⟩
       ·refine cF (vB hp18) (cK (eT (cS (cR (oY rfl (yN 0 [.slice Aa p0.fB.length ca,.slice Ab p0.fR.length cb] dc rfl rfl rfl) (oY rfl (yFA jR rfl) (oY rfl (yL 1 a8 rfl rfl rfl) ?_)))))))
        obtain ⟨y19,hy20,h⟩:=bOs h
        refine oY rfl (yC [.agg #[.slice Aa p0.fB.length ca,.slice Ab p0.fR.length cb],vI ((rdL p0.fB s5.2).fID)] go_96 rfl (fun W2 hW2 => nC p0 ((rdL p0.fB s5.2).fID) y19 hy20 W2 Aa p0.fB.length ca rfl ((RdL.arg hr0_0) W2 hW2) Ab p0.fR.length cb rfl ((RdL.arg hr0_1) W2 hW2)) rfl) (oY rfl (yMI rfl) (oY rfl (bl rfl rfl) (oN (eT ?_))))
        rcases iOs h with ⟨hp21,h⟩ | ⟨hp21,h⟩
        ·refine cT (vB hp21) (cS (cR (oY rfl (yAI rfl) (oN (eT (ak (ah (aa (aT 1 ?_)))))))))
         obtain rfl:=sI h
         exact aw ⟨rfl,_,rfl,(kp4 (kp rfl))⟩
        ·refine cF (vB hp21) (cK (ax (eT (cR (oY rfl (aZ rfl rfl) (oY rfl (yMI rfl) (oN (aT 1 ?_))))))))
         obtain rfl:=sI h
         exact eN ⟨_,rfl,(kp4 (kp rfl))⟩
      ·clear h; rcases iOs hb17 with ⟨hp15,h⟩ | ⟨hp15,h⟩
       ·refine oSk (sF rfl rfl rfl rfl hp15) (oSk (sF rfl rfl rfl rfl hp15) (oSk (sF rfl rfl rfl rfl hp15) (oSk (sF rfl rfl rfl rfl hp15) (oY rfl (ac (vB hp15) rfl) ?_))))
        obtain rfl:=sI h
        exact key _ _ (kp4 (kp4 (kp rfl)))
       ·refine oY (sT rfl rfl rfl rfl hp15) (yFA oZ rfl) (oY (sT rfl rfl rfl rfl hp15) (yL 1 a8 rfl rfl rfl) ?_)
        obtain ⟨y22,hy23,h⟩:=bOs h
        refine oY (sT rfl rfl rfl rfl hp15) (yC [vI ((rdL p0.fB s5.2).fD),vI 0,vI 9] gj rfl (fun W2 hW2 => aW ((rdL p0.fB s5.2).fD) 0 9 y22 hy23 W2 ) rfl) (oY (sT rfl rfl rfl rfl hp15) (bE rfl) (oY rfl (ad (vB hp15) rfl) ?_))
        obtain rfl:=sI h
        exact key _ _ (kp4 (kp4 (kp rfl)))
     ·clear h; rcases iOs hb14 with ⟨hp12,h⟩ | ⟨hp12,h⟩
      ·refine oSk (sF rfl rfl rfl rfl hp12) (oSk (sF rfl rfl rfl rfl hp12) (oSk (sF rfl rfl rfl rfl hp12) (oSk (sF rfl rfl rfl rfl hp12) (oY rfl (ac (vB hp12) rfl) ?_))))
       obtain rfl:=sI h
       exact key _ _ (kp4 (kp4 (kp rfl)))
      ·refine oY (sT rfl rfl rfl rfl hp12) (yFA o4 rfl) (oY (sT rfl rfl rfl rfl hp12) (yL 1 a8 rfl rfl rfl) ?_)
       obtain ⟨y24,hy25,h⟩:=bOs h
       refine oY (sT rfl rfl rfl rfl hp12) (yC [vI ((rdL p0.fB s5.2).fHour)] kw rfl (fun W2 hW2 => cm ((rdL p0.fB s5.2).fHour) y24 hy25 W2 ) rfl) (oY (sT rfl rfl rfl rfl hp12) (bE rfl) (oY rfl (ad (vB hp12) rfl) ?_))
       obtain rfl:=sI h
       exact key _ _ (kp4 (kp4 (kp rfl)))
    ·refine cF (vB hp7) (aE (ag ?_))
     obtain rfl:=sI h
     exact aw ⟨rfl,_,rfl,(kp4 (kp rfl))⟩
   ·intro e L tm hJ
    rcases u6 with u27 | u28
    ·dsimp only at h hJ
     obtain ⟨rfl,tm0_u27,rfl,rfl⟩:=hJ
     refine ⟨(by intro hc; cases hc),?_⟩
     refine ah (aa ?_)
     obtain rfl:=sI h
     exact aj (.inl rfl) rfl (rVt (v:=vI u27.1) rfl) (fun W2 hW2 => ⟨rfl,hW2.none⟩)
    ·dsimp only at h hJ
     obtain ⟨rfl,tm0_u28,rfl,rfl⟩:=hJ
     refine ⟨(by intro hc; cases hc),?_⟩
     refine ae (eT (cS (cS (cR (oY rfl (yFA bV rfl) (oY rfl (yL 0 f9 rfl rfl rfl) (oY rfl (bk (us:=[]) kG rfl) (oY rfl (yMI rfl) (oN (eT (cB ?_)))))))))))
     obtain ⟨u31,hl62,h⟩:=bOs h
     refine bt (fun (s:(Int × Int)) L tm => ∃ (tm0:Nat → Value),L = [ai b1 53 [.slice Aa p0.fB.length ca,.slice Ab p0.fR.length cb]] ∧ tm = (upd (upd (upd (upd (upd tm0 1 (.pointer (some ⟨b1,0,none⟩))) 2 (vI s.1)) 49 (.slice Ab p0.fR.length cb)) 50 (vI (p0.fR.length:Int))) 51 (vI s.2))) 2 hl62 ⟨_,rfl,(kp4 (kp rfl))⟩ ?_ ?_
     ·rintro s30 L tm st ⟨tm0_s30,rfl,rfl⟩ h
      unfold iB at h
      refine cS (cR (oY rfl (bl rfl rfl) (oN (eT (cS ?_)))))
      rcases iOs h with ⟨hp32,h⟩ | ⟨hp32,h⟩
      ·refine cT (vB hp32) (cK (eT (cS (cB (cS (cR (oY rfl (yMI rfl) ?_)))))))
       obtain ⟨hg33,h⟩:=gOs h
       refine oY rfl (yI jE (by decide) hg33.1 hg33.2 (RdL.arg hr0_1) (eL am rfl) rfl rfl) ?_
       refine oY rfl (yM (A:=Ab) (j:=(Int.toNat s30.2 * 5)) [vI ((rdL p0.fR s30.2).fID),vI ((rdL p0.fR s30.2).fH.fLo),vI ((rdL p0.fR s30.2).fH.fHi),vI ((rdL p0.fR s30.2).fD),vI ((rdL p0.fR s30.2).fW)] pr (Nat.succ_pos _) (RdL.arg hr0_1) rfl (bh am hg33.1 (ap hg33.2 rfl))) ?_
       refine aB nK rfl (fun b34 => ?_)
       refine oY rfl (yAI rfl) (cJ rfl (yS 1 [vI ((rdL p0.fR s30.2).fID),vI ((rdL p0.fR s30.2).fH.fLo),vI ((rdL p0.fR s30.2).fH.fHi),vI ((rdL p0.fR s30.2).fD),vI ((rdL p0.fR s30.2).fW)] sz_65 rfl (nB rfl) rfl rfl rfl) (oN (eT (cS (cS (cR (oY rfl (yFA jF rfl) (oY rfl (yL 1 a8 rfl rfl rfl) ?_))))))))
       obtain ⟨y35,hy36,h⟩:=bOs h
       refine oY rfl (yC [vI ((rdL p0.fR s30.2).fID),vI 1,vI 1099511627776] gj rfl (fun W2 hW2 => aW ((rdL p0.fR s30.2).fID) 1 1099511627776 y35 hy36 W2 ) rfl) (oY rfl (bE rfl) (oY rfl (yMB rfl) ?_))
       obtain ⟨b38,hb39,h⟩:=bOs h
       refine oJ 6 (fun tm0 => (upd (upd (upd (upd (upd (upd (upd (upd (upd tm0 1 (.pointer (some ⟨b1,0,none⟩))) 2 (vI s30.1)) 49 (.slice Ab p0.fR.length cb)) 50 (vI (p0.fR.length:Int))) 51 (vI s30.2)) 52 (.bool (decide (s30.2 < (p0.fR.length:Int))))) 6 (.pointer (some ⟨b34,0,none⟩))) 5 (vI s30.2)) 66 (.bool b38))) (fun tm0 => ?_) (fun key => ?_)
       ·refine oY rfl (yMB rfl) ?_
        obtain ⟨b41,hb42,h⟩:=bOs h
        refine oJ 6 (fun tm0 => (upd (upd (upd (upd (upd (upd (upd (upd (upd tm0 1 (.pointer (some ⟨b1,0,none⟩))) 2 (vI s30.1)) 49 (.slice Ab p0.fR.length cb)) 50 (vI (p0.fR.length:Int))) 51 (vI s30.2)) 52 (.bool (decide (s30.2 < (p0.fR.length:Int))))) 6 (.pointer (some ⟨b34,0,none⟩))) 5 (vI s30.2)) 73 (.bool b41))) (fun tm0 => ?_) (fun key => ?_)
        ·refine oY rfl (yMB rfl) ?_
         refine oJ 8 (fun tm0 => (upd (upd (upd (upd (upd (upd (upd (upd (upd tm0 1 (.pointer (some ⟨b1,0,none⟩))) 2 (vI s30.1)) 49 (.slice Ab p0.fR.length cb)) 50 (vI (p0.fR.length:Int))) 51 (vI s30.2)) 52 (.bool (decide (s30.2 < (p0.fR.length:Int))))) 6 (.pointer (some ⟨b34,0,none⟩))) 5 (vI s30.2)) 82 (.bool (b41 || (decide ((rdL p0.fR s30.2).fH.fHi < (rdL p0.fR s30.2).fH.fLo)))))) (fun tm0 => ?_) (fun key => ?_)
         ·refine oY rfl (yMB rfl) ?_
          obtain ⟨b45,hb46,h⟩:=bOs h
          refine oJ 5 (fun tm0 => (upd (upd (upd (upd (upd (upd (upd (upd (upd tm0 1 (.pointer (some ⟨b1,0,none⟩))) 2 (vI s30.1)) 49 (.slice Ab p0.fR.length cb)) 50 (vI (p0.fR.length:Int))) 51 (vI s30.2)) 52 (.bool (decide (s30.2 < (p0.fR.length:Int))))) 6 (.pointer (some ⟨b34,0,none⟩))) 5 (vI s30.2)) 88 (.bool b45))) (fun tm0 => ?_) (fun key => ?_)
          ·refine oY rfl (yMB rfl) ?_
           obtain ⟨b48,hb49,h⟩:=bOs h
           refine oJ 5 (fun tm0 => (upd (upd (upd (upd (upd (upd (upd (upd (upd tm0 1 (.pointer (some ⟨b1,0,none⟩))) 2 (vI s30.1)) 49 (.slice Ab p0.fR.length cb)) 50 (vI (p0.fR.length:Int))) 51 (vI s30.2)) 52 (.bool (decide (s30.2 < (p0.fR.length:Int))))) 6 (.pointer (some ⟨b34,0,none⟩))) 5 (vI s30.2)) 94 (.bool b48))) (fun tm0 => ?_) (fun key => ?_)
           ·refine oN (eT ?_)
            rcases iOs h with ⟨hp50,h⟩ | ⟨hp50,h⟩
            ·refine cT (vB hp50) (cS (cR (oY rfl (yAI rfl) (oN (eT (ak (aa (ah (aa (aT 1 ?_))))))))))
             obtain rfl:=sI h
             exact aw ⟨rfl,_,rfl,(kp4 (kp rfl))⟩
            ·refine cF (vB hp50) (cK (eT (cS (cR (oY rfl (yN 0 [.slice Aa p0.fB.length ca,.slice Ab p0.fR.length cb] dc rfl rfl rfl) (oY rfl (yFA jF rfl) (oY rfl (yL 1 a8 rfl rfl rfl) ?_)))))))
             obtain ⟨y51,hy52,h⟩:=bOs h
             refine oY rfl (yC [.agg #[.slice Aa p0.fB.length ca,.slice Ab p0.fR.length cb],vI ((rdL p0.fR s30.2).fID)] go_90 rfl (fun W2 hW2 => iZ p0 ((rdL p0.fR s30.2).fID) y51 hy52 W2 Aa p0.fB.length ca rfl ((RdL.arg hr0_0) W2 hW2) Ab p0.fR.length cb rfl ((RdL.arg hr0_1) W2 hW2)) rfl) (oY rfl (yMI rfl) (oY rfl (bl rfl rfl) (oN (eT ?_))))
             rcases iOs h with ⟨hp53,h⟩ | ⟨hp53,h⟩
             ·refine cT (vB hp53) (cS (cR (oY rfl (yAI rfl) (oN (eT (ak (ah (aa (aT 1 ?_)))))))))
              obtain rfl:=sI h
              exact aw ⟨rfl,_,rfl,(kp4 (kp rfl))⟩
             ·refine cF (vB hp53) (cK (ax (eT (cR (oY rfl (aZ rfl rfl) (oY rfl (yMI rfl) (oN (aT 1 ?_))))))))
              obtain rfl:=sI h
              exact eN ⟨_,rfl,(kp4 (kp rfl))⟩
           ·clear h; rcases iOs hb49 with ⟨hp47,h⟩ | ⟨hp47,h⟩
            ·refine oSk (sF rfl rfl rfl rfl hp47) (oSk (sF rfl rfl rfl rfl hp47) (oSk (sF rfl rfl rfl rfl hp47) (oSk (sF rfl rfl rfl rfl hp47) (oY rfl (ac (vB hp47) rfl) ?_))))
             obtain rfl:=sI h
             exact key _ _ (kp4 (kp4 (kp rfl)))
            ·refine oY (sT rfl rfl rfl rfl hp47) (yFA iv rfl) (oY (sT rfl rfl rfl rfl hp47) (yL 1 a8 rfl rfl rfl) ?_)
             obtain ⟨y54,hy55,h⟩:=bOs h
             refine oY (sT rfl rfl rfl rfl hp47) (yC [vI ((rdL p0.fR s30.2).fW),vI 1,vI 1000] gj rfl (fun W2 hW2 => aW ((rdL p0.fR s30.2).fW) 1 1000 y54 hy55 W2 ) rfl) (oY (sT rfl rfl rfl rfl hp47) (bE rfl) (oY rfl (ad (vB hp47) rfl) ?_))
             obtain rfl:=sI h
             exact key _ _ (kp4 (kp4 (kp rfl)))
          ·clear h; rcases iOs hb46 with ⟨hp44,h⟩ | ⟨hp44,h⟩
           ·refine oSk (sF rfl rfl rfl rfl hp44) (oSk (sF rfl rfl rfl rfl hp44) (oSk (sF rfl rfl rfl rfl hp44) (oSk (sF rfl rfl rfl rfl hp44) (oY rfl (ac (vB hp44) rfl) ?_))))
            obtain rfl:=sI h
            exact key _ _ (kp4 (kp4 (kp rfl)))
           ·refine oY (sT rfl rfl rfl rfl hp44) (yFA oL rfl) (oY (sT rfl rfl rfl rfl hp44) (yL 1 a8 rfl rfl rfl) ?_)
            obtain ⟨y56,hy57,h⟩:=bOs h
            refine oY (sT rfl rfl rfl rfl hp44) (yC [vI ((rdL p0.fR s30.2).fD),vI 0,vI 9] gj rfl (fun W2 hW2 => aW ((rdL p0.fR s30.2).fD) 0 9 y56 hy57 W2 ) rfl) (oY (sT rfl rfl rfl rfl hp44) (bE rfl) (oY rfl (ad (vB hp44) rfl) ?_))
            obtain rfl:=sI h
            exact key _ _ (kp4 (kp4 (kp rfl)))
         ·rcases al b41 with hp43 | hp43
          ·refine oSk (sF rfl rfl rfl rfl hp43) (oSk (sF rfl rfl rfl rfl hp43) (oSk (sF rfl rfl rfl rfl hp43) (oSk (sF rfl rfl rfl rfl hp43) (oSk (sF rfl rfl rfl rfl hp43) (oSk (sF rfl rfl rfl rfl hp43) (oSk (sF rfl rfl rfl rfl hp43) (oY rfl (ac (vB hp43) rfl) ?_)))))))
           exact key _ _ (keep (keep (keep (keep (keep (keep (keep (keep (keep rfl rfl) rfl) rfl) rfl) rfl) rfl) rfl) rfl) (vB (iS hp43)))
          ·refine oY (sT rfl rfl rfl rfl hp43) (yFA gp rfl) (oY (sT rfl rfl rfl rfl hp43) (yFA jh rfl) (oY (sT rfl rfl rfl rfl hp43) (yL 1 a8 rfl rfl rfl) (oY (sT rfl rfl rfl rfl hp43) (yFA gp rfl) (oY (sT rfl rfl rfl rfl hp43) (yFA gM rfl) (oY (sT rfl rfl rfl rfl hp43) (yL 1 a8 rfl rfl rfl) (oY (sT rfl rfl rfl rfl hp43) (gq rfl rfl) (oY rfl (ad (vB hp43) rfl) ?_)))))))
           exact key _ _ (keep (keep (keep (keep (keep (keep (keep (keep (keep rfl rfl) rfl) rfl) rfl) rfl) rfl) rfl) rfl) (vB (iT hp43)))
        ·clear h; rcases iOs hb42 with ⟨hp40,h⟩ | ⟨hp40,h⟩
         ·refine oSk (sF rfl rfl rfl rfl hp40) (oSk (sF rfl rfl rfl rfl hp40) (oSk (sF rfl rfl rfl rfl hp40) (oSk (sF rfl rfl rfl rfl hp40) (oSk (sF rfl rfl rfl rfl hp40) (oY rfl (ac (vB hp40) rfl) ?_)))))
          obtain rfl:=sI h
          exact key _ _ (kp4 (kp4 (kp rfl)))
         ·refine oY (sT rfl rfl rfl rfl hp40) (yFA gp rfl) (oY (sT rfl rfl rfl rfl hp40) (yFA gM rfl) (oY (sT rfl rfl rfl rfl hp40) (yL 1 a8 rfl rfl rfl) ?_))
          obtain ⟨y58,hy59,h⟩:=bOs h
          refine oY (sT rfl rfl rfl rfl hp40) (yC [vI ((rdL p0.fR s30.2).fH.fHi)] kw rfl (fun W2 hW2 => cm ((rdL p0.fR s30.2).fH.fHi) y58 hy59 W2 ) rfl) (oY (sT rfl rfl rfl rfl hp40) (bE rfl) (oY rfl (ad (vB hp40) rfl) ?_))
          obtain rfl:=sI h
          exact key _ _ (kp4 (kp4 (kp rfl)))
       ·clear h; rcases iOs hb39 with ⟨hp37,h⟩ | ⟨hp37,h⟩
        ·refine oSk (sF rfl rfl rfl rfl hp37) (oSk (sF rfl rfl rfl rfl hp37) (oSk (sF rfl rfl rfl rfl hp37) (oSk (sF rfl rfl rfl rfl hp37) (oSk (sF rfl rfl rfl rfl hp37) (oY rfl (ac (vB hp37) rfl) ?_)))))
         obtain rfl:=sI h
         exact key _ _ (kp4 (kp4 (kp rfl)))
        ·refine oY (sT rfl rfl rfl rfl hp37) (yFA gp rfl) (oY (sT rfl rfl rfl rfl hp37) (yFA jh rfl) (oY (sT rfl rfl rfl rfl hp37) (yL 1 a8 rfl rfl rfl) ?_))
         obtain ⟨y60,hy61,h⟩:=bOs h
         refine oY (sT rfl rfl rfl rfl hp37) (yC [vI ((rdL p0.fR s30.2).fH.fLo)] kw rfl (fun W2 hW2 => cm ((rdL p0.fR s30.2).fH.fLo) y60 hy61 W2 ) rfl) (oY (sT rfl rfl rfl rfl hp37) (bE rfl) (oY rfl (ad (vB hp37) rfl) ?_))
         obtain rfl:=sI h
         exact key _ _ (kp4 (kp4 (kp rfl)))
      ·refine cF (vB hp32) (aE (ag ?_))
       obtain rfl:=sI h
       exact aw ⟨rfl,_,rfl,(kp4 (kp rfl))⟩
     ·intro e L tm hJ
      rcases u31 with u63 | u64
      ·dsimp only at h hJ
       obtain ⟨rfl,tm0_u63,rfl,rfl⟩:=hJ
       refine ⟨(by intro hc; cases hc),?_⟩
       refine ah (aa ?_)
       obtain rfl:=sI h
       exact aj (.inl rfl) rfl (rVt (v:=vI u63.1) rfl) (fun W2 hW2 => ⟨rfl,hW2.none⟩)
      ·dsimp only at h hJ
       obtain ⟨rfl,tm0_u64,rfl,rfl⟩:=hJ
       refine ⟨(by intro hc; cases hc),?_⟩
       refine ae (eT (cS (cR (oY rfl (yAI rfl) (oN (eT (ak ?_)))))))
       obtain rfl:=sI h
       exact aj (.inl rfl) rfl (rVt (v:=vI 0) rfl) (fun W2 hW2 => ⟨rfl,hW2.none⟩)
 ·rcases al (decide (24 < (p0.fB.length:Int))) with hp2 | hp2
  ·refine oSk (sF rfl rfl rfl rfl hp2) (oSk (sF rfl rfl rfl rfl hp2) (oSk (sF rfl rfl rfl rfl hp2) (oSk (sF rfl rfl rfl rfl hp2) (oY rfl (ac (vB hp2) rfl) ?_))))
   exact key _ _ (keep (keep (keep rfl rfl) rfl) (vB (iS hp2)))
  ·refine oY (sT rfl rfl rfl rfl hp2) (yFA bV rfl) (oY (sT rfl rfl rfl rfl hp2) (yL 0 f9 rfl rfl rfl) (oY (sT rfl rfl rfl rfl hp2) (bk (us:=[]) kG rfl) (oY (sT rfl rfl rfl rfl hp2) (gq rfl rfl) (oY rfl (ad (vB hp2) rfl) ?_))))
   exact key _ _ (keep (keep (keep rfl rfl) rfl) (vB (iT hp2)))
theorem oH (p0:TO) (p1:TBay) (res:Bool) (h:iC p0 p1 = some res) (W:World)  :
  Calls Tryz.prog 101 [.agg #[vI p0.fID,vI p0.fH.fLo,vI p0.fH.fHi,vI p0.fD,vI p0.fW],.agg #[vI p1.fID,vI p1.fHour,vI p1.fD]].toArray W fun e W2 => e = .returned (.bool res) ∧ Ext W W2 []:=by
 unfold iC at h
 refine ab (m:=21) Tryz.func101 rfl rfl (nB rfl) (cS (cR ?_))
 refine aN [vI p0.fID,vI p0.fH.fLo,vI p0.fH.fHi,vI p0.fD,vI p0.fW] rfl rfl rfl (fun b1 => ?_)
 refine aN [vI p1.fID,vI p1.fHour,vI p1.fD] rfl rfl rfl (fun b2 => ?_)
 refine oY rfl (yAB rfl) (oN (eT (cS (cR (oY rfl (yFA o4 rfl) (oY rfl (yL 1 a8 rfl rfl rfl) (oY rfl (yFA gp rfl) (oY rfl (yFA jh rfl) (oY rfl (yL 0 a8 rfl rfl rfl) (oY rfl (yFA gp rfl) (oY rfl (yFA gM rfl) (oY rfl (yL 0 a8 rfl rfl rfl) ?_))))))))))))
 obtain ⟨y3,hy4,h⟩:=bOs h
 refine oY rfl (yC [vI p1.fHour,vI p0.fH.fLo,vI p0.fH.fHi] gj rfl (fun W2 hW2 => aW p1.fHour p0.fH.fLo p0.fH.fHi y3 hy4 W2 ) rfl) (oY rfl (yMB rfl) ?_)
 refine oJ 6 (fun tm0 => (upd (upd tm0 4 (.bool false)) 20 (.bool (y3 && (decide (p0.fD ≤ p1.fD)))))) (fun tm0 => ?_) (fun key => ?_)
 ·refine oY rfl (yAB rfl) (oN (eT (ak ?_)))
  obtain rfl:=sI h
  exact aj (.inl rfl) rfl (rVt (v:=.bool (y3 && (decide (p0.fD ≤ p1.fD)))) rfl) (fun W2 hW2 => ⟨rfl,hW2.none⟩)
 ·rcases al y3 with hp5 | hp5
  ·refine oY (sT rfl rfl rfl rfl hp5) (yFA oZ rfl) (oY (sT rfl rfl rfl rfl hp5) (yL 1 a8 rfl rfl rfl) (oY (sT rfl rfl rfl rfl hp5) (yFA oL rfl) (oY (sT rfl rfl rfl rfl hp5) (yL 0 a8 rfl rfl rfl) (oY (sT rfl rfl rfl rfl hp5) (ms rfl rfl) (oY rfl (ac (vB hp5) rfl) ?_)))))
   exact key _ _ (keep (keep rfl rfl) (vB (gn hp5)))
  ·refine oSk (sF rfl rfl rfl rfl hp5) (oSk (sF rfl rfl rfl rfl hp5) (oSk (sF rfl rfl rfl rfl hp5) (oSk (sF rfl rfl rfl rfl hp5) (oSk (sF rfl rfl rfl rfl hp5) (oY rfl (ad (vB hp5) rfl) ?_)))))
   exact key _ _ (keep (keep rfl rfl) (vB (gr hp5)))
theorem kh : ∀ (fuel:Nat) (p0:Int) (cap0:TY) (cap1:(List (Int × Bool))) (cap2:(List (Int × Int))) (res:(Bool × (List (Int × Bool)) × (List (Int × Int)))) (h:bm fuel p0 cap0 cap1 cap2 = some res) (W:World) (w0:World) (R:Res) (bmc1:Nat) (bmc2:Nat) (bc0:Nat) (A100_0:Option Addr) (n100_0 c100_0 : Nat) (hn100_0:n100_0 = cap0.fB.length) (hr100_0:∀ W2,Below w0.heap.size w0 W2 → R.holds W2 → Rd W2 A100_0 n100_0 c100_0 (encL aA cap0.fB)) (A100_1:Option Addr) (n100_1 c100_1 : Nat) (hn100_1:n100_1 = cap0.fR.length) (hr100_1:∀ W2,Below w0.heap.size w0 W2 → R.holds W2 → Rd W2 A100_1 n100_1 c100_1 (encL ay cap0.fR)) (hcap0:∀ W2,Below w0.heap.size w0 W2 → R.holds W2 → Rd W2 (some ⟨bc0,0,none⟩) 1 1 [.slice A100_0 n100_0 c100_0,.slice A100_1 n100_1 c100_1]) (bc1:Nat) (hcap1:∀ W2,Below w0.heap.size w0 W2 → R.holds W2 → Rd W2 (some ⟨bc1,0,none⟩) 1 1 [.map (some bmc1)]) (bc2:Nat) (hcap2:∀ W2,Below w0.heap.size w0 W2 → R.holds W2 → Rd W2 (some ⟨bc2,0,none⟩) 1 1 [.map (some bmc2)]) (bc3:Nat) (hcap3:∀ W2,Below w0.heap.size w0 W2 → R.holds W2 → Rd W2 (some ⟨bc3,0,none⟩) 1 1 [.func (.func 156) #[] #[.pointer (some ⟨bc0,0,none⟩),.pointer (some ⟨bc1,0,none⟩),.pointer (some ⟨bc2,0,none⟩),.pointer (some ⟨bc3,0,none⟩)]]) (hW:Ext w0 W [R,mapV Tryz.prog 3 kI dI kB false bmc1 cap1,mapV Tryz.prog 3 kI dI kI 0 bmc2 cap2]),
  Calls Tryz.prog 156 [vI p0,.pointer (some ⟨bc0,0,none⟩),.pointer (some ⟨bc1,0,none⟩),.pointer (some ⟨bc2,0,none⟩),.pointer (some ⟨bc3,0,none⟩)].toArray W fun e W2 => ∃ x : Unit,True ∧ e = .returned (.bool res.1) ∧ Ext w0 W2 [R,mapV Tryz.prog 3 kI dI kB false bmc1 res.2.1,mapV Tryz.prog 3 kI dI kI 0 bmc2 res.2.2]:=by
 intro fuel
 induction fuel with
 | zero => intro p0 cap0 cap1 cap2 res h W w0 R bmc1 bmc2 bc0 A100_0 n100_0 c100_0 hn100_0 hr100_0 A100_1 n100_1 c100_1 hn100_1 hr100_1 hcap0 bc1 hcap1 bc2 hcap2 bc3 hcap3 hW; exact absurd h (by unfold bm; exact fun h => by cases h)
 | succ fuel ih =>
  intro p0 cap0 cap1 cap2 res h W w0 R bmc1 bmc2 bc0 A100_0 n100_0 c100_0 hn100_0 hr100_0 A100_1 n100_1 c100_1 hn100_1 hr100_1 hcap0 bc1 hcap1 bc2 hcap2 bc3 hcap3 hW
  subst hn100_0
  subst hn100_1
  change dC (bm fuel) p0 cap0 cap1 cap2 = some res at h
  unfold dC at h
  refine aR (m:=51) Tryz.func156 rfl rfl (nB rfl) hW (cS (cR (oY rfl (yAB rfl) (oN (eT (cx_scope (cS (cx_label (eT (cS (cS (cR (oY rfl (yFR (A:=(some ⟨bc0,0,none⟩)) (j:=0) dU rfl) (oY rfl (yR (A:=(some ⟨bc0,0,none⟩)) (j:=(0 + 0)) (v:=.slice A100_0 cap0.fB.length c100_0) jD (RdL.under hcap0) rfl rfl) (oY rfl (bk (us:=[]) jv rfl) (oY rfl (yMI rfl) (oN (eT (cB ?_)))))))))))))))))))
  obtain ⟨u4,hl24,h⟩:=bOs h
  refine bt (fun (s:(Bool × Int × (List (Int × Bool)) × (List (Int × Int)))) L tm => ∃ (tm0:Nat → Value),L = [R,mapV Tryz.prog 3 kI dI kB false bmc1 s.2.2.1,mapV Tryz.prog 3 kI dI kI 0 bmc2 s.2.2.2] ∧ tm = (upd (upd (upd (upd (upd (upd (upd (upd (upd tm0 0 (vI p0)) 1 (slA (some ⟨bc0,0,none⟩) 0)) 2 (slA (some ⟨bc1,0,none⟩) 0)) 3 (slA (some ⟨bc2,0,none⟩) 0)) 4 (slA (some ⟨bc3,0,none⟩) 0)) 6 (.bool s.1)) 12 (.slice A100_0 cap0.fB.length c100_0)) 13 (vI (cap0.fB.length:Int))) 14 (vI s.2.1))) 0 hl24 ⟨_,rfl,(kp4 (kp4 (kp rfl)))⟩ ?_ ?_
  ·rintro s3 L tm st ⟨tm0_s3,rfl,rfl⟩ h
   unfold bI at h
   refine cS (cR (oY rfl (bl rfl rfl) (oN (eT (cS ?_)))))
   rcases iOs h with ⟨hp5,h⟩ | ⟨hp5,h⟩
   ·refine cT (vB hp5) (cK (eT (cS (cB (cS (cR (oY rfl (yMI rfl) ?_)))))))
    obtain ⟨hg6,h⟩:=gOs h
    refine oY rfl (yI lJ (by decide) hg6.1 hg6.2 (RdL.under hr100_0) (eL aH rfl) rfl rfl) ?_
    refine oY rfl (yM (A:=A100_0) (j:=(Int.toNat s3.2.1 * 3)) [vI ((rdL cap0.fB s3.2.1).fID),vI ((rdL cap0.fB s3.2.1).fHour),vI ((rdL cap0.fB s3.2.1).fD)] tv (Nat.succ_pos _) (RdL.under hr100_0) rfl (bh aH hg6.1 (ap hg6.2 rfl))) ?_
    refine aB nH rfl (fun b7 => ?_)
    refine oY rfl (yAI rfl) (cJ rfl (yS 3 [vI ((rdL cap0.fB s3.2.1).fID),vI ((rdL cap0.fB s3.2.1).fHour),vI ((rdL cap0.fB s3.2.1).fD)] sz_69 rfl (nB rfl) rfl rfl rfl) (oN (eT (cS (cS ?_)))))
    refine bA 13 dE (by kernel_rfl) (by kernel_rfl) ?_
    refine qY rfl (yR (A:=(some ⟨bc1,0,none⟩)) (j:=0) (v:=.map (some bmc1)) sc_189 (RdL.under hcap1) rfl rfl) (qY rfl (yMI rfl) ?_)
    obtain ⟨hg8,h⟩:=gOs h
    refine qY rfl (jH (k:=s3.2.1) (MpL.own 1 rfl) ke_3 um_189 ze_4 rfl rfl hg8) (qY rfl (yMB rfl) ?_)
    obtain ⟨b10,hb11,h⟩:=bOs h
    refine qJ 9 (fun tm0 => (upd (upd (upd (upd (upd (upd (upd (upd (upd (upd (upd (upd (upd tm0 0 (vI p0)) 1 (slA (some ⟨bc0,0,none⟩) 0)) 2 (slA (some ⟨bc1,0,none⟩) 0)) 3 (slA (some ⟨bc2,0,none⟩) 0)) 4 (slA (some ⟨bc3,0,none⟩) 0)) 6 (.bool s3.1)) 12 (.slice A100_0 cap0.fB.length c100_0)) 13 (vI (cap0.fB.length:Int))) 14 (vI s3.2.1)) 15 (.bool (decide (s3.2.1 < (cap0.fB.length:Int))))) 8 (.pointer (some ⟨b7,0,none⟩))) 7 (vI s3.2.1)) 31 (.bool b10))) (fun tm0 => ?_) (fun key => ?_)
    ·refine dm (oN (eT ?_))
     rcases iOs h with ⟨hp12,h⟩ | ⟨hp12,h⟩
     ·refine cT (vB hp12) (aE (ag (ae (eT (cR (oY rfl (aZ rfl rfl) (oY rfl (yMI rfl) (oN (aT 3 ?_)))))))))
      obtain rfl:=sI h
      exact eN ⟨_,rfl,(kp4 (kp4 (kp rfl)))⟩
     ·refine cF (vB hp12) (cK (eT (cS (cR (oY rfl (yR (A:=(some ⟨bc1,0,none⟩)) (j:=0) (v:=.map (some bmc1)) sc_189 (RdL.under hcap1) rfl rfl) (oY rfl (yMI rfl) ?_))))))
      obtain ⟨hg13,h⟩:=gOs h
      refine cJ rfl (jJ 1 (k:=s3.2.1) (v:=true) rfl ke_3 um_189 rfl rfl rfl hg13) (oN (eT (cS (cR (oY rfl (yR (A:=(some ⟨bc2,0,none⟩)) (j:=0) (v:=.map (some bmc2)) qF (RdL.under hcap2) rfl rfl) (oY rfl (yMI rfl) ?_))))))
      obtain ⟨hg14,h⟩:=gOs h
      refine oY rfl (lZ (k:=s3.2.1) (MpL.own 2 rfl) ke_3 pk mh rfl rfl hg14) (oY rfl (aI rfl) (oY rfl (yE rfl rfl) (oY rfl (yE rfl rfl) (oY rfl (yAI rfl) (oY rfl (yAB rfl) (oN (eT (cS (cR (oY rfl (yMB rfl) (oY rfl (bE rfl) (oY rfl (yMB rfl) ?_))))))))))))
      rcases iOs h with ⟨hp15,h⟩ | ⟨hp15,h⟩
      ·refine oSk (sF rfl rfl rfl rfl hp15) (oSk (sF rfl rfl rfl rfl hp15) (oSk (sF rfl rfl rfl rfl hp15) (oY rfl (ac (vB hp15) rfl) (oN (eT (cT rfl (cS (cR (oY rfl (yR (A:=(some ⟨bc2,0,none⟩)) (j:=0) (v:=.map (some bmc2)) qF (RdL.under hcap2) rfl rfl) (oY rfl (yMI rfl) (oY rfl (yMI rfl) ?_)))))))))))
       obtain ⟨hg16,h⟩:=gOs h
       refine cJ rfl (jJ 2 (k:=s3.2.1) (v:=p0) rfl ke_3 pk rfl rfl rfl hg16) (oN (eT (cS (cR (oY rfl (yAB rfl) (oN (eT (ak (ah (aa (aT 3 ?_)))))))))))
       obtain rfl:=sI h
       exact aw ⟨rfl,_,rfl,(kp4 (kp4 (kp rfl)))⟩
      ·refine oY (sT rfl rfl rfl rfl hp15) (yR (A:=(some ⟨bc3,0,none⟩)) (j:=0) (v:=.func (.func 156) #[] #[.pointer (some ⟨bc0,0,none⟩),.pointer (some ⟨bc1,0,none⟩),.pointer (some ⟨bc2,0,none⟩),.pointer (some ⟨bc3,0,none⟩)]) sc_127 (RdL.under hcap3) rfl rfl) (oY (sT rfl rfl rfl rfl hp15) (yMI rfl) ?_)
       obtain ⟨y17,hy18,h⟩:=bOs h
       refine ff [1,2] [] [vI (av 0 s3.2.2.2 s3.2.1)] [.pointer (some ⟨bc0,0,none⟩),.pointer (some ⟨bc1,0,none⟩),.pointer (some ⟨bc2,0,none⟩),.pointer (some ⟨bc3,0,none⟩)] (fun (_:Unit) => True) (fun _ => .bool y17.1) (fun _ => [mapV Tryz.prog 3 kI dI kB false bmc1 y17.2.1,mapV Tryz.prog 3 kI dI kI 0 bmc2 y17.2.2]) (fun _ => []) (Foc.c2 rfl rfl) (by decide) (sT rfl rfl rfl rfl hp15) go_156 rfl rfl (fun _ => rfl) (fun W2 hW2 => ih (av 0 s3.2.2.2 s3.2.1) cap0 ((s3.2.1,true) :: s3.2.2.1) s3.2.2.2 y17 hy18 W2 _ (cE [R,mapV Tryz.prog 3 kI dI kB false bmc1 ((s3.2.1,true) :: s3.2.2.1),mapV Tryz.prog 3 kI dI kI 0 bmc2 s3.2.2.2,ai b7 69 [vI ((rdL cap0.fB s3.2.1).fID),vI ((rdL cap0.fB s3.2.1).fHour),vI ((rdL cap0.fB s3.2.1).fD)]] [1,2]) bmc1 bmc2 bc0 A100_0 cap0.fB.length c100_0 rfl (fun W3 hb hR => (RdL.under hr100_0) W3 (hW2.restL hb hR)) A100_1 cap0.fR.length c100_1 rfl (fun W3 hb hR => (RdL.under hr100_1) W3 (hW2.restL hb hR)) (fun W3 hb hR => (RdL.under hcap0) W3 (hW2.restL hb hR)) bc1 (fun W3 hb hR => (RdL.under hcap1) W3 (hW2.restL hb hR)) bc2 (fun W3 hb hR => (RdL.under hcap2) W3 (hW2.restL hb hR)) bc3 (fun W3 hb hR => (RdL.under hcap3) W3 (hW2.restL hb hR)) hW2) ?_
       rintro - -
       try dsimp only [kJ,lsz,lss,List.append_nil]
       refine oY rfl (ad (vB hp15) rfl) (oN (eT ?_))
       rcases iOs h with ⟨hp19,h⟩ | ⟨hp19,h⟩
       ·refine cT (vB hp19) (cS (cR (oY rfl (yR (A:=(some ⟨bc2,0,none⟩)) (j:=0) (v:=.map (some bmc2)) qF (RdL.under hcap2) rfl rfl) (oY rfl (yMI rfl) (oY rfl (yMI rfl) ?_)))))
        obtain ⟨hg20,h⟩:=gOs h
        refine cJ rfl (jJ 2 (k:=s3.2.1) (v:=p0) rfl ke_3 pk rfl rfl rfl hg20) (oN (eT (cS (cR (oY rfl (yAB rfl) (oN (eT (ak (ah (aa (aT 3 ?_)))))))))))
        obtain rfl:=sI h
        exact aw ⟨rfl,_,rfl,(kp4 (kp4 (kp rfl)))⟩
       ·refine cF (vB hp19) (cK (ax (eT (cR (oY rfl (aZ rfl rfl) (oY rfl (yMI rfl) (oN (aT 3 ?_))))))))
        obtain rfl:=sI h
        exact eN ⟨_,rfl,(kp4 (kp4 (kp rfl)))⟩
    ·clear h; rcases iOs hb11 with ⟨hp9,h⟩ | ⟨hp9,h⟩
     ·refine aS (sF rfl rfl rfl rfl hp9) (aS (sF rfl rfl rfl rfl hp9) (aS (sF rfl rfl rfl rfl hp9) (aS (sF rfl rfl rfl rfl hp9) (aS (sF rfl rfl rfl rfl hp9) (aS (sF rfl rfl rfl rfl hp9) (aS (sF rfl rfl rfl rfl hp9) (aS (sF rfl rfl rfl rfl hp9) (qY rfl (ac (vB hp9) rfl) ?_))))))))
      obtain rfl:=sI h
      exact key _ _ (kp4 (kp4 (kp4 (kp rfl))))
     ·refine qY (sT rfl rfl rfl rfl hp9) (yFR (A:=(some ⟨bc0,0,none⟩)) (j:=0) bV rfl) (qY (sT rfl rfl rfl rfl hp9) (yR (A:=(some ⟨bc0,0,none⟩)) (j:=(0 + 1)) (v:=.slice A100_1 cap0.fR.length c100_1) f9 (RdL.under hcap0) rfl rfl) (qY (sT rfl rfl rfl rfl hp9) (yMI rfl) ?_))
      obtain ⟨hg21,h⟩:=gOs h
      refine qY (sT rfl rfl rfl rfl hp9) (yI jE (by decide) hg21.1 hg21.2 (RdL.under hr100_1) (eL am rfl) rfl rfl) ?_
      refine qY (sT rfl rfl rfl rfl hp9) (yM (A:=A100_1) (j:=(Int.toNat p0 * 5)) [vI ((rdL cap0.fR p0).fID),vI ((rdL cap0.fR p0).fH.fLo),vI ((rdL cap0.fR p0).fH.fHi),vI ((rdL cap0.fR p0).fD),vI ((rdL cap0.fR p0).fW)] pr (Nat.succ_pos _) (RdL.under hr100_1) rfl (bh am hg21.1 (ap hg21.2 rfl))) (qY (sT rfl rfl rfl rfl hp9) (yN 3 [vI ((rdL cap0.fB s3.2.1).fID),vI ((rdL cap0.fB s3.2.1).fHour),vI ((rdL cap0.fB s3.2.1).fD)] tv rfl rfl rfl) ?_)
      obtain ⟨y22,hy23,h⟩:=bOs h
      refine qY (sT rfl rfl rfl rfl hp9) (yC [.agg #[vI ((rdL cap0.fR p0).fID),vI ((rdL cap0.fR p0).fH.fLo),vI ((rdL cap0.fR p0).fH.fHi),vI ((rdL cap0.fR p0).fD),vI ((rdL cap0.fR p0).fW)],.agg #[vI ((rdL cap0.fB s3.2.1).fID),vI ((rdL cap0.fB s3.2.1).fHour),vI ((rdL cap0.fB s3.2.1).fD)]] go_101 rfl (fun W2 hW2 => oH (TO.mk ((rdL cap0.fR p0).fID) (TSpan.mk ((rdL cap0.fR p0).fH.fLo) ((rdL cap0.fR p0).fH.fHi)) ((rdL cap0.fR p0).fD) ((rdL cap0.fR p0).fW)) (TBay.mk ((rdL cap0.fB s3.2.1).fID) ((rdL cap0.fB s3.2.1).fHour) ((rdL cap0.fB s3.2.1).fD)) y22 hy23 W2 ) rfl) (qY (sT rfl rfl rfl rfl hp9) (bE rfl) (qY rfl (ad (vB hp9) rfl) ?_))
      obtain rfl:=sI h
      exact key _ _ (kp4 (kp4 (kp4 (kp rfl))))
   ·refine cF (vB hp5) (aE (ag ?_))
    obtain rfl:=sI h
    exact aw ⟨rfl,_,rfl,(kp4 (kp4 (kp rfl)))⟩
  ·intro e L tm hJ
   rcases u4 with u25 | u26
   ·dsimp only at h hJ
    obtain ⟨rfl,tm0_u25,rfl,rfl⟩:=hJ
    refine ⟨(by intro hc; cases hc),?_⟩
    refine ah (aa (l6 ?_))
    obtain rfl:=sI h
    exact aj (.inl rfl) rfl (rVt (v:=.bool u25.1) rfl) (fun W2 hW2 => ⟨(),trivial,rfl,hW2.take 3⟩)
   ·dsimp only at h hJ
    obtain ⟨rfl,tm0_u26,rfl,rfl⟩:=hJ
    refine ⟨(by intro hc; cases hc),?_⟩
    refine ae (eT (cS (cR (oY rfl (yAB rfl) (oN (eT (ak (l6 ?_))))))))
    obtain rfl:=sI h
    exact aj (.inl rfl) rfl (rVt (v:=.bool false) rfl) (fun W2 hW2 => ⟨(),trivial,rfl,hW2.take 3⟩)
theorem ig (p0:(List (Int × Int))) (p1:TY) (p2:Int) (res:(Bool × (List (Int × Int)))) (h:fw p0 p1 p2 = some res) (W:World) (w0:World) (R:Res) (bm0:Nat) (Ac:Option Addr) (n1_0 cc : Nat) (hn1_0:n1_0 = p1.fB.length) (hr1_0:∀ W2,Below w0.heap.size w0 W2 → R.holds W2 → Rd W2 Ac n1_0 cc (encL aA p1.fB)) (A1_1:Option Addr) (n1_1 c1_1 : Nat) (hn1_1:n1_1 = p1.fR.length) (hr1_1:∀ W2,Below w0.heap.size w0 W2 → R.holds W2 → Rd W2 A1_1 n1_1 c1_1 (encL ay p1.fR)) (hW:Ext w0 W [R,mapV Tryz.prog 3 kI dI kI 0 bm0 p0]) :
  Calls Tryz.prog 117 [.map (some bm0),.agg #[.slice Ac n1_0 cc,.slice A1_1 n1_1 c1_1],vI p2].toArray W fun e W2 => ∃ x : Unit,True ∧ e = .returned (.bool res.1) ∧ Ext w0 W2 [R,mapV Tryz.prog 3 kI dI kI 0 bm0 res.2]:=by
 subst hn1_0
 subst hn1_1
 unfold fw at h
 refine aR (m:=14) Tryz.func117 rfl rfl (nB rfl) hW (cS (cR ?_))
 refine aN [.map (some bm0)] rfl rfl rfl (fun b1 => ?_)
 refine aN [.slice Ac p1.fB.length cc,.slice A1_1 p1.fR.length c1_1] rfl rfl rfl (fun b2 => ?_)
 refine oY rfl (yAB rfl) (oN (eT (cS (cR ?_))))
 refine jj 3 kI dI kB false rfl (fun b3 => ?_)
 refine aB ze_189 rfl (fun b4 => ?_)
 try dsimp only [lna,lca,lsz,lss]
 refine cJ rfl (df 5 (v:=.map (some b3)) sz_189 rfl (Nat.lt_of_lt_of_le (Nat.lt_succ_self _) (nB rfl)) rfl rfl rfl) (oN (eT (cS (cR ?_))))
 refine aB ze_127 rfl (fun b5 => ?_)
 try dsimp only [lna,lca,lsz,lss]
 refine oN (eT (cS (cR (oY rfl (bP [.pointer (some ⟨b2,0,none⟩),.pointer (some ⟨b4,0,none⟩),.pointer (some ⟨b1,0,none⟩),.pointer (some ⟨b5,0,none⟩)] rfl rfl) (cJ rfl (df 6 (v:=.func (.func 156) #[] #[.pointer (some ⟨b2,0,none⟩),.pointer (some ⟨b4,0,none⟩),.pointer (some ⟨b1,0,none⟩),.pointer (some ⟨b5,0,none⟩)]) sz_127 rfl (Nat.lt_of_lt_of_le (Nat.lt_succ_self _) (nB rfl)) rfl rfl rfl) (oN (eT (cS (cR (oY rfl (yL 6 sc_127 rfl rfl rfl) (oY rfl (yMI rfl) ?_)))))))))))
 obtain ⟨y6,hy7,h⟩:=bOs h
 refine ff [4,1] [] [vI p2] [.pointer (some ⟨b2,0,none⟩),.pointer (some ⟨b4,0,none⟩),.pointer (some ⟨b1,0,none⟩),.pointer (some ⟨b5,0,none⟩)] (fun (_:Unit) => True) (fun _ => .bool y6.1) (fun _ => [mapV Tryz.prog 3 kI dI kB false b3 y6.2.1,mapV Tryz.prog 3 kI dI kI 0 bm0 y6.2.2]) (fun _ => []) (Foc.c2 rfl rfl) (by decide) rfl go_156 rfl rfl (fun _ => rfl) (fun W2 hW2 => kh (p1.fB.length + 2) p2 p1 [] p0 y6 hy7 W2 _ (cE [R,mapV Tryz.prog 3 kI dI kI 0 bm0 p0,ai b1 152 [.map (some bm0)],ai b2 53 [.slice Ac p1.fB.length cc,.slice A1_1 p1.fR.length c1_1],mapV Tryz.prog 3 kI dI kB false b3 [],ai b4 189 [.map (some b3)],ai b5 127 [.func (.func 156) #[] #[.pointer (some ⟨b2,0,none⟩),.pointer (some ⟨b4,0,none⟩),.pointer (some ⟨b1,0,none⟩),.pointer (some ⟨b5,0,none⟩)]]] [4,1]) b3 bm0 b2 Ac p1.fB.length cc rfl (fun W3 hb hR => (RdL.under hr1_0) W3 (hW2.restL hb hR)) A1_1 p1.fR.length c1_1 rfl (fun W3 hb hR => (RdL.under hr1_1) W3 (hW2.restL hb hR)) (fun W3 hb hR => (RdL.cells 3 rfl) W3 (hW2.restL hb hR)) b4 (fun W3 hb hR => (RdL.cells 5 rfl) W3 (hW2.restL hb hR)) b1 (fun W3 hb hR => (RdL.cells 2 rfl) W3 (hW2.restL hb hR)) b5 (fun W3 hb hR => (RdL.cells 6 rfl) W3 (hW2.restL hb hR)) hW2) ?_
 rintro - -
 try dsimp only [kJ,lsz,lss,List.append_nil]
 refine oY rfl (yAB rfl) (oN (eT (ak ?_)))
 obtain rfl:=sI h
 exact aj (.inl rfl) rfl (rVt (v:=.bool y6.1) rfl) (fun W2 hW2 => ⟨(),trivial,rfl,hW2.take 2⟩)
theorem eZ (p0:(List Int)) (p1:Int) (p2:Int) (p3:Int → Int → Option Int) (res:(List Int)) (h:bO p0 p1 p2 p3 = some res) (W:World) (w0:World) (R:Res) (Aa:Option Addr) (n0_0 ca : Nat) (hn0_0:n0_0 = p0.length) (fid3:Nat) (fst3 caps3 : List Value) (hgo3:bp Tryz.prog fid3 = true) (hof3:∀ W2,Below w0.heap.size w0 W2 → R.holds W2 → ∀ x0 x1,∀ y,p3 x0 x1 = some y → Calls Tryz.prog fid3 (fst3 ++ (([vI x0,vI x1] : List Value) ++ caps3)).toArray W2 fun e W3 => e = .returned (vI y) ∧ Ext W2 W3 []) (hW:Ext w0 W [R,aP Aa ca 3 1 n0_0 (encL cI p0)]) :
  Calls Tryz.prog 190 [.slice Aa n0_0 ca,vI p1,vI p2,.func (.func fid3) fst3.toArray caps3.toArray].toArray W fun e W2 => e = .returned (.tuple #[]) ∧ n0_0 = res.length ∧ Ext w0 W2 [R,aP Aa ca 3 1 n0_0 (encL cI res)]:=by
 subst hn0_0
 unfold bO at h
 refine aR (m:=53) Tryz.func190 rfl rfl (nB rfl) hW (cS (cR (oY rfl (yMI rfl) (oY rfl (aZ rfl rfl) (oY rfl (yAI rfl) (oN (eT (cB ?_))))))))
 obtain ⟨u4,hl24,h⟩:=bOs h
 refine bv (fun (s:(Int × (List Int))) L tm => ∃ (tm0:Nat → Value),p0.length = s.2.length ∧ L = [R,aP Aa ca 3 1 p0.length (encL cI s.2)] ∧ tm = (upd (upd (upd (upd (upd tm0 0 (.slice Aa p0.length ca)) 1 (vI p1)) 2 (vI p2)) 3 (.func (.func fid3) fst3.toArray caps3.toArray)) 8 (vI s.1))) 0 hl24 ⟨_,rfl,rfl,(kp4 (kp rfl))⟩ ?_ ?_
 ·rintro s3 L tm st ⟨tm0_s3,hn1_s3,rfl,rfl⟩ h
  unfold cH at h
  refine cS (cS (cR (oY rfl (yMI rfl) (oY rfl (yMI rfl) (oY rfl (bl rfl rfl) (oN (eT ?_)))))))
  rcases iOs h with ⟨hp5,h⟩ | ⟨hp5,h⟩
  ·refine cT (vB hp5) (cK (eT (cS (cB (cS (cR (oY rfl (yMI rfl) (oY rfl (yAI rfl) (oN (eT (cB ?_)))))))))))
   obtain ⟨u9,hl23,h⟩:=bOs h
   refine bv (fun (s:(Int × (List Int))) L tm => ∃ (tm0:Nat → Value),p0.length = s.2.length ∧ L = [R,aP Aa ca 3 1 p0.length (encL cI s.2)] ∧ tm = (upd (upd (upd (upd (upd (upd (upd tm0 0 (.slice Aa p0.length ca)) 1 (vI p1)) 2 (vI p2)) 3 (.func (.func fid3) fst3.toArray caps3.toArray)) 8 (vI s3.1)) 14 (.bool (decide (s3.1 < p2)))) 9 (vI s.1))) 2 hl23 ⟨_,hn1_s3,rfl,(kp4 (kp (kp (kp rfl))))⟩ ?_ ?_
   ·rintro s8 L tm st ⟨tm0_s8,hn1_s8,rfl,rfl⟩ h
    unfold cG at h
    refine cS (cS ?_)
    refine bA 17 dE (by kernel_rfl) (by kernel_rfl) ?_
    refine qY rfl (yMI rfl) (qY rfl (yMI rfl) (qY rfl (gq rfl rfl) (qY rfl (yMB rfl) ?_)))
    obtain ⟨b11,hb12,h⟩:=bOs h
    refine qJ 13 (fun tm0 => (upd (upd (upd (upd (upd (upd (upd (upd tm0 0 (.slice Aa p0.length ca)) 1 (vI p1)) 2 (vI p2)) 3 (.func (.func fid3) fst3.toArray caps3.toArray)) 8 (vI s3.1)) 14 (.bool (decide (s3.1 < p2)))) 9 (vI s8.1)) 34 (.bool b11))) (fun tm0 => ?_) (fun key => ?_)
    ·refine dm (oN (eT ?_))
     rcases iOs h with ⟨hp13,h⟩ | ⟨hp13,h⟩
     ·refine cT (vB hp13) (cK (eT (cS (cB ?_))))
      obtain ⟨hg15,h⟩:=gOs h
      obtain ⟨hg16,h⟩:=gOs h
      obtain ⟨hg17,h⟩:=gOs h
      obtain ⟨hg18,h⟩:=gOs h
      refine fx [[],[],[],[],[3],[],[],[6],[5,6,7],[5,6,7,8],[],[],[10,11],[10,11,12],[0,1,5,6,7,8,9,10,11,12,13],[0,1,5,6,7,8,9,10,11,12,13,14],[0,1,2,3,4,5,6,7,8,9,10,11,12,13,14,15],[0,1,2,3,4,5,6,7,8,9,10,11,12,13,14,15,16]] [(none,0,[true,true]),(none,0,[true,true]),(none,0,[true,false]),(none,0,[true,false]),(none,0,[true,false]),(none,0,[true,true]),(none,0,[true,true]),(none,0,[true,true]),(none,0,[true,true]),(none,0,[true,true]),(none,0,[true,true]),(none,0,[true,true]),(none,0,[true,true]),(none,0,[true,true]),(none,0,[true,true]),(some 1,0,[true,true]),(none,0,[true,true]),(some 1,0,[true,true])] [⟨fun _ => .slice Aa p0.length ca,fun _ => noR,fun _ => []⟩,⟨fun _ => vI s8.1,fun _ => noR,fun _ => []⟩,⟨fun _ => .slice Aa p0.length ca,fun _ => noR,fun _ => []⟩,⟨fun _ => vI s8.1,fun _ => noR,fun _ => []⟩,⟨fun _ => vI (w64 (s8.1 - 1)),fun _ => noR,fun _ => []⟩,⟨fun _ => .slice Aa p0.length ca,fun _ => noR,fun _ => []⟩,⟨fun _ => vI s8.1,fun _ => noR,fun _ => []⟩,⟨fun _ => vI (w64 (s8.1 - 1)),fun _ => noR,fun _ => []⟩,⟨fun _ => slA Aa (Int.toNat (w64 (s8.1 - 1)) * 1),fun _ => noR,fun _ => []⟩,⟨fun _ => vI (rdL s8.2 (w64 (s8.1 - 1))),fun _ => noR,fun _ => []⟩,⟨fun _ => .slice Aa p0.length ca,fun _ => noR,fun _ => []⟩,⟨fun _ => vI s8.1,fun _ => noR,fun _ => []⟩,⟨fun _ => slA Aa (Int.toNat s8.1 * 1),fun _ => noR,fun _ => []⟩,⟨fun _ => vI (rdL s8.2 s8.1),fun _ => noR,fun _ => []⟩,⟨fun _ => slA Aa (Int.toNat s8.1 * 1),fun _ => noR,fun _ => []⟩,⟨fun _ => undef,fun _ => aP Aa ca 3 1 p0.length (encL cI (s8.2.set (Int.toNat s8.1) (rdL s8.2 (w64 (s8.1 - 1))))),fun _ => []⟩,⟨fun _ => slA Aa (Int.toNat (w64 (s8.1 - 1)) * 1),fun _ => noR,fun _ => []⟩,⟨fun _ => undef,fun _ => aP Aa ca 3 1 p0.length (encL cI ((s8.2.set (Int.toNat s8.1) (rdL s8.2 (w64 (s8.1 - 1)))).set (Int.toNat (w64 (s8.1 - 1))) (rdL s8.2 s8.1))),fun _ => []⟩] 2 dE (by kernel_rfl) (by kernel_rfl) ⟨⟨fun ξ14 ξ14' h => ⟨rfl,rfl,rfl⟩,fun _ => rfl⟩,⟨fun ξ14 ξ14' h => ⟨rfl,rfl,rfl⟩,fun _ => rfl⟩,⟨fun ξ14 ξ14' h => ⟨rfl,rfl,rfl⟩,fun _ => rfl⟩,⟨fun ξ14 ξ14' h => ⟨rfl,rfl,rfl⟩,fun _ => rfl⟩,⟨fun ξ14 ξ14' h => ⟨rfl,rfl,rfl⟩,fun _ => rfl⟩,⟨fun ξ14 ξ14' h => ⟨rfl,rfl,rfl⟩,fun _ => rfl⟩,⟨fun ξ14 ξ14' h => ⟨rfl,rfl,rfl⟩,fun _ => rfl⟩,⟨fun ξ14 ξ14' h => ⟨rfl,rfl,rfl⟩,fun _ => rfl⟩,⟨fun ξ14 ξ14' h => ⟨rfl,rfl,rfl⟩,fun _ => rfl⟩,⟨fun ξ14 ξ14' h => ⟨rfl,rfl,rfl⟩,fun _ => rfl⟩,⟨fun ξ14 ξ14' h => ⟨rfl,rfl,rfl⟩,fun _ => rfl⟩,⟨fun ξ14 ξ14' h => ⟨rfl,rfl,rfl⟩,fun _ => rfl⟩,⟨fun ξ14 ξ14' h => ⟨rfl,rfl,rfl⟩,fun _ => rfl⟩,⟨fun ξ14 ξ14' h => ⟨rfl,rfl,rfl⟩,fun _ => rfl⟩,⟨fun ξ14 ξ14' h => ⟨rfl,rfl,rfl⟩,fun _ => rfl⟩,⟨fun ξ14 ξ14' h => ⟨rfl,rfl,rfl⟩,fun _ => rfl⟩,⟨fun ξ14 ξ14' h => ⟨rfl,rfl,rfl⟩,fun _ => rfl⟩,⟨fun ξ14 ξ14' h => ⟨rfl,rfl,rfl⟩,fun _ => rfl⟩,trivial⟩ rfl (fun ξ14 => ?_)
      refine cq rfl (fun L2 => ?_) ?_
      ·dsimp only [aF,lca,lna]
       refine oY rfl (yMS rfl) (oN ?_)
       exact ar (fun _ => (none,0,0,[],noR)) rfl (List.append_nil _)
      dsimp only [bJ,lsz,lss,lna,lca,List.append_nil]
      refine cq rfl (fun L2 => ?_) ?_
      ·dsimp only [aF,lca,lna]
       refine oY rfl (yMI rfl) (oN ?_)
       exact ar (fun _ => (none,0,0,[],noR)) rfl (List.append_nil _)
      dsimp only [bJ,lsz,lss,lna,lca,List.append_nil]
      refine cq rfl (fun L2 => ?_) ?_
      ·dsimp only [aF,lca,lna]
       refine oY rfl (yMS rfl) (oN ?_)
       exact ar (fun _ => (none,0,0,[],noR)) rfl (List.append_nil _)
      dsimp only [bJ,lsz,lss,lna,lca,List.append_nil]
      refine cq rfl (fun L2 => ?_) ?_
      ·dsimp only [aF,lca,lna]
       refine oY rfl (yMI rfl) (oN ?_)
       exact ar (fun _ => (none,0,0,[],noR)) rfl (List.append_nil _)
      dsimp only [bJ,lsz,lss,lna,lca,List.append_nil]
      refine cq rfl (fun L2 => ?_) ?_
      ·dsimp only [aF,lca,lna]
       refine oY rfl (gF rfl rfl) (oN ?_)
       exact ar (fun _ => (none,0,0,[],noR)) rfl (List.append_nil _)
      dsimp only [bJ,lsz,lss,lna,lca,List.append_nil]
      refine cq rfl (fun L2 => ?_) ?_
      ·dsimp only [aF,lca,lna]
       refine oY rfl (yMS rfl) (oN ?_)
       exact ar (fun _ => (none,0,0,[],noR)) rfl (List.append_nil _)
      dsimp only [bJ,lsz,lss,lna,lca,List.append_nil]
      refine cq rfl (fun L2 => ?_) ?_
      ·dsimp only [aF,lca,lna]
       refine oY rfl (yMI rfl) (oN ?_)
       exact ar (fun _ => (none,0,0,[],noR)) rfl (List.append_nil _)
      dsimp only [bJ,lsz,lss,lna,lca,List.append_nil]
      refine cq rfl (fun L2 => ?_) ?_
      ·dsimp only [aF,lca,lna]
       refine oY rfl (gF rfl rfl) (oN ?_)
       exact ar (fun _ => (none,0,0,[],noR)) rfl (List.append_nil _)
      dsimp only [bJ,lsz,lss,lna,lca,List.append_nil]
      refine cq rfl (fun L2 => ?_) ?_
      ·dsimp only [aF,lca,lna]
       refine oY rfl (yI dz (by decide) hg15.1 hg15.2 (RdL.row 1 rfl) (eL aD hn1_s8) rfl rfl) ?_
       refine oN ?_
       exact ar (fun _ => (none,0,0,[],noR)) rfl (List.append_nil _)
      dsimp only [bJ,lsz,lss,lna,lca,List.append_nil]
      refine cq rfl (fun L2 => ?_) ?_
      ·dsimp only [aF,lca,lna]
       refine oY rfl (yR (A:=Aa) (j:=(Int.toNat (w64 (s8.1 - 1)) * 1)) (v:=vI (rdL s8.2 (w64 (s8.1 - 1)))) a8 (RdL.row 1 rfl) rfl (aG aD hg15.1 (ap hg15.2 hn1_s8) rfl)) (oN ?_)
       exact ar (fun _ => (none,0,0,[],noR)) rfl (List.append_nil _)
      dsimp only [bJ,lsz,lss,lna,lca,List.append_nil]
      refine cq rfl (fun L2 => ?_) ?_
      ·dsimp only [aF,lca,lna]
       refine oY rfl (yMS rfl) (oN ?_)
       exact ar (fun _ => (none,0,0,[],noR)) rfl (List.append_nil _)
      dsimp only [bJ,lsz,lss,lna,lca,List.append_nil]
      refine cq rfl (fun L2 => ?_) ?_
      ·dsimp only [aF,lca,lna]
       refine oY rfl (yMI rfl) (oN ?_)
       exact ar (fun _ => (none,0,0,[],noR)) rfl (List.append_nil _)
      dsimp only [bJ,lsz,lss,lna,lca,List.append_nil]
      refine cq rfl (fun L2 => ?_) ?_
      ·dsimp only [aF,lca,lna]
       refine oY rfl (yI dz (by decide) hg16.1 hg16.2 (RdL.row 1 rfl) (eL aD hn1_s8) rfl rfl) ?_
       refine oN ?_
       exact ar (fun _ => (none,0,0,[],noR)) rfl (List.append_nil _)
      dsimp only [bJ,lsz,lss,lna,lca,List.append_nil]
      refine cq rfl (fun L2 => ?_) ?_
      ·dsimp only [aF,lca,lna]
       refine oY rfl (yR (A:=Aa) (j:=(Int.toNat s8.1 * 1)) (v:=vI (rdL s8.2 s8.1)) a8 (RdL.row 1 rfl) rfl (aG aD hg16.1 (ap hg16.2 hn1_s8) rfl)) (oN ?_)
       exact ar (fun _ => (none,0,0,[],noR)) rfl (List.append_nil _)
      dsimp only [bJ,lsz,lss,lna,lca,List.append_nil]
      refine cq rfl (fun L2 => ?_) ?_
      ·dsimp only [aF,lca,lna]
       refine oY rfl (yI dz (by decide) hg17.1 hg17.2 (RdL.row 1 rfl) (eL aD hn1_s8) rfl rfl) ?_
       refine oN ?_
       exact ar (fun _ => (none,0,0,[],noR)) rfl (List.append_nil _)
      dsimp only [bJ,lsz,lss,lna,lca,List.append_nil]
      refine sf rfl (fun L2 => ?_) ?_
      ·dsimp only [aF,lca,lna]
       refine cJ rfl (iQ 1 (xs:=s8.2) aD (rdL s8.2 (w64 (s8.1 - 1))) p7 rfl hg17.1 (ap hg17.2 hn1_s8) rfl rfl rfl rfl) (oN ?_)
       first | exact bL (fun _ => (none,0,0,[],noR)) rfl | exact bL (fun _ => (none,0,0,[],noR)) (List.append_nil _)
      dsimp only [bJ,lsz,lss,lna,lca,List.append_nil]
      refine cq rfl (fun L2 => ?_) ?_
      ·dsimp only [aF,lca,lna]
       refine oY rfl (yI dz (by decide) hg18.1 hg18.2 (RdL.row 1 rfl) (eL aD (fg hn1_s8)) rfl rfl) ?_
       refine oN ?_
       exact ar (fun _ => (none,0,0,[],noR)) rfl (List.append_nil _)
      dsimp only [bJ,lsz,lss,lna,lca,List.append_nil]
      refine sf rfl (fun L2 => ?_) ?_
      ·dsimp only [aF,lca,lna]
       refine cJ rfl (iQ 1 (xs:=(s8.2.set (Int.toNat s8.1) (rdL s8.2 (w64 (s8.1 - 1))))) aD (rdL s8.2 s8.1) p7 rfl hg18.1 (ap hg18.2 (fg hn1_s8)) rfl rfl rfl rfl) (oN ?_)
       first | exact bL (fun _ => (none,0,0,[],noR)) rfl | exact bL (fun _ => (none,0,0,[],noR)) (List.append_nil _)
      dsimp only [bJ,lsz,lss,lna,lca,List.append_nil]
      refine k7 (ax (eT (cR (oY rfl (yMI rfl) (oY rfl (gF rfl rfl) (oY rfl (yAI rfl) (oN ?_)))))))
      obtain rfl:=sI h
      exact eN ⟨_,(fg (fg hn1_s8)),rfl,(kp4 (kp (kp (kp rfl))))⟩
     ·refine cF (vB hp13) (aE (ag ?_))
      obtain rfl:=sI h
      exact aw ⟨rfl,_,hn1_s8,rfl,(kp4 (kp (kp (kp rfl))))⟩
    ·clear h; rcases iOs hb12 with ⟨hp10,h⟩ | ⟨hp10,h⟩
     ·refine qY (sT rfl rfl rfl rfl hp10) (bz (v:=.func (.func fid3) fst3.toArray caps3.toArray) rfl) (qY (sT rfl rfl rfl rfl hp10) (yMS rfl) (qY (sT rfl rfl rfl rfl hp10) (yMI rfl) ?_))
      obtain ⟨hg19,h⟩:=gOs h
      refine qY (sT rfl rfl rfl rfl hp10) (yI dz (by decide) hg19.1 hg19.2 (RdL.row 1 rfl) (eL aD hn1_s8) rfl rfl) ?_
      refine qY (sT rfl rfl rfl rfl hp10) (yR (A:=Aa) (j:=(Int.toNat s8.1 * 1)) (v:=vI (rdL s8.2 s8.1)) a8 (RdL.row 1 rfl) rfl (aG aD hg19.1 (ap hg19.2 hn1_s8) rfl)) (qY (sT rfl rfl rfl rfl hp10) (yMS rfl) (qY (sT rfl rfl rfl rfl hp10) (yMI rfl) (qY (sT rfl rfl rfl rfl hp10) (gF rfl rfl) ?_)))
      obtain ⟨hg20,h⟩:=gOs h
      refine qY (sT rfl rfl rfl rfl hp10) (yI dz (by decide) hg20.1 hg20.2 (RdL.row 1 rfl) (eL aD hn1_s8) rfl rfl) ?_
      refine qY (sT rfl rfl rfl rfl hp10) (yR (A:=Aa) (j:=(Int.toNat (w64 (s8.1 - 1)) * 1)) (v:=vI (rdL s8.2 (w64 (s8.1 - 1)))) a8 (RdL.row 1 rfl) rfl (aG aD hg20.1 (ap hg20.2 hn1_s8) rfl)) ?_
      obtain ⟨y21,hy22,h⟩:=bOs h
      refine qY (sT rfl rfl rfl rfl hp10) (f4 [vI (rdL s8.2 s8.1),vI (rdL s8.2 (w64 (s8.1 - 1)))] hgo3 rfl rfl (fun W2 hW2 => hof3 W2 hW2.below (hW2.mem (i:=0) rfl) (rdL s8.2 s8.1) (rdL s8.2 (w64 (s8.1 - 1))) y21 hy22)) (qY (sT rfl rfl rfl rfl hp10) (bl rfl rfl) (qY rfl (ac (vB hp10) rfl) ?_))
      obtain rfl:=sI h
      exact key _ _ (kp4 (kp4 rfl))
     ·refine aS (sF rfl rfl rfl rfl hp10) (aS (sF rfl rfl rfl rfl hp10) (aS (sF rfl rfl rfl rfl hp10) (aS (sF rfl rfl rfl rfl hp10) (aS (sF rfl rfl rfl rfl hp10) (aS (sF rfl rfl rfl rfl hp10) (aS (sF rfl rfl rfl rfl hp10) (aS (sF rfl rfl rfl rfl hp10) (aS (sF rfl rfl rfl rfl hp10) (aS (sF rfl rfl rfl rfl hp10) (aS (sF rfl rfl rfl rfl hp10) (aS (sF rfl rfl rfl rfl hp10) (qY rfl (ad (vB hp10) rfl) ?_))))))))))))
      obtain rfl:=sI h
      exact key _ _ (kp4 (kp4 rfl))
   ·intro e L tm hJ
    obtain ⟨rfl,tm0_u9,hn1_u9,rfl,rfl⟩:=hJ
    refine ⟨(by intro hc; cases hc),?_⟩
    refine ae (ax (eT (cR (oY rfl (yMI rfl) (oY rfl (aZ rfl rfl) (oY rfl (yAI rfl) (oN ?_)))))))
    obtain rfl:=sI h
    exact eN ⟨_,hn1_u9,rfl,(kp4 (kp rfl))⟩
  ·refine cF (vB hp5) (aE (ag ?_))
   obtain rfl:=sI h
   exact aw ⟨rfl,_,hn1_s3,rfl,(kp4 (kp rfl))⟩
 ·intro e L tm hJ
  obtain ⟨rfl,tm0_u4,hn1_u4,rfl,rfl⟩:=hJ
  refine ⟨(by intro hc; cases hc),?_⟩
  refine ae ?_
  obtain rfl:=sI h
  exact cv (.inr rfl) rfl  (fun W2 hW2 => ⟨rfl,hn1_u4,hW2.take 2⟩)
theorem gR (p0:(List Int)) (p1:Int) (p2:Int → Int → Option Int) (res:(List Int)) (h:dl p0 p1 p2 = some res) (W:World) (w0:World) (R:Res) (Aa:Option Addr) (n0_0 ca : Nat) (hn0_0:n0_0 = p0.length) (fid2:Nat) (fst2 caps2 : List Value) (hgo2:bp Tryz.prog fid2 = true) (hof2:∀ W2,Below w0.heap.size w0 W2 → R.holds W2 → ∀ x0 x1,∀ y,p2 x0 x1 = some y → Calls Tryz.prog fid2 (fst2 ++ (([vI x0,vI x1] : List Value) ++ caps2)).toArray W2 fun e W3 => e = .returned (vI y) ∧ Ext W2 W3 []) (hW:Ext w0 W [R,aP Aa ca 3 1 n0_0 (encL cI p0)]) :
  Calls Tryz.prog 175 [.slice Aa n0_0 ca,vI p1,.func (.func fid2) fst2.toArray caps2.toArray].toArray W fun e W2 => e = .returned (.tuple #[]) ∧ n0_0 = res.length ∧ Ext w0 W2 [R,aP Aa ca 3 1 n0_0 (encL cI res)]:=by
 subst hn0_0
 unfold dl at h
 refine aR (m:=63) Tryz.func175 rfl rfl (nB rfl) hW (cS (cR (oY rfl (yAI rfl) (oN (eT (cS (cR (oY rfl (yMI rfl) (oY rfl (yAI rfl) (oY rfl (yAI rfl) (oN (eT (cS (cB ?_))))))))))))))
 obtain ⟨u3,hl5,h⟩:=bOs h
 refine bv (fun (s:(Int × Int)) L tm => ∃ (tm0:Nat → Value),L = [R,aP Aa ca 3 1 p0.length (encL cI p0)] ∧ tm = (upd (upd (upd (upd (upd (upd tm0 0 (.slice Aa p0.length ca)) 1 (vI p1)) 2 (.func (.func fid2) fst2.toArray caps2.toArray)) 6 (vI 20)) 7 (vI s.1)) 8 (vI s.2))) 0 hl5 ⟨_,rfl,(kp4 (kp (kp rfl)))⟩ ?_ ?_
 ·rintro s2 L tm st ⟨tm0_s2,rfl,rfl⟩ h
  unfold ee at h
  refine cS (cS (cR (oY rfl (yMI rfl) (oY rfl (yMI rfl) (oY rfl (ju rfl rfl) (oN (eT ?_)))))))
  obtain ⟨hp4,h⟩:=gOs h
  refine cF (vB hp4) (aE (ag ?_))
  obtain rfl:=sI h
  exact aw ⟨rfl,_,rfl,(kp4 (kp (kp rfl)))⟩
 ·intro e L tm hJ
  obtain ⟨rfl,tm0_u3,rfl,rfl⟩:=hJ
  refine ⟨(by intro hc; cases hc),?_⟩
  refine ae (eT (cS (cR (oY rfl (yMS rfl) (oY rfl (yMI rfl) (oY rfl (yMI rfl) (oY rfl (bz (v:=.func (.func fid2) fst2.toArray caps2.toArray) rfl) ?_)))))))
  obtain ⟨y6,hy7,h⟩:=bOs h
  refine eJ 1 [.slice Aa p0.length ca,vI u3.1,vI p1,.func (.func fid2) fst2.toArray caps2.toArray] (fun (_:Unit) => p0.length = y6.length) (fun _ => .tuple #[]) (fun _ => aP Aa ca 3 1 p0.length (encL cI y6)) (fun _ => []) rfl rfl go_190 rfl (fun W2 hW2 => (eZ p0 u3.1 p1 p2 y6 hy7 W2 _ (cE [R,aP Aa ca 3 1 p0.length (encL cI p0)] [1]) Aa p0.length ca rfl fid2 fst2 caps2 hgo2 (fun W3 hb hR => hof2 W3 hb (hR.1 0 _ (by decide) rfl)) hW2).mono (fun e W3 h3 => ⟨(),h3.2.1,h3.1,h3.2.2⟩)) ?_
  rintro - hn8
  try dsimp only [lsz,lss,List.append_nil]
  refine oN (eT (cB ?_))
  obtain ⟨u11,hl13,h⟩:=bOs h
  refine bv (fun (s:(Int × Int × Int)) L tm => ∃ (tm0:Nat → Value),L = [R,aP Aa ca 3 1 p0.length (encL cI y6)] ∧ tm = (upd (upd (upd (upd (upd (upd tm0 0 (.slice Aa p0.length ca)) 1 (vI p1)) 2 (.func (.func fid2) fst2.toArray caps2.toArray)) 6 (vI s.1)) 7 (vI s.2.1)) 8 (vI s.2.2))) 2 hl13 ⟨_,rfl,(kp4 (kp (kp rfl)))⟩ ?_ ?_
  ·rintro s10 L tm st ⟨tm0_s10,rfl,rfl⟩ h
   unfold d7 at h
   refine cS (cS (cR (oY rfl (yMI rfl) (oY rfl (yMI rfl) (oY rfl (bl rfl rfl) (oN (eT ?_)))))))
   obtain ⟨hp12,h⟩:=gOs h
   refine cF (vB hp12) (aE (ag ?_))
   obtain rfl:=sI h
   exact aw ⟨rfl,_,rfl,(kp4 (kp (kp rfl)))⟩
  ·intro e L tm hJ
   obtain ⟨rfl,tm0_u11,rfl,rfl⟩:=hJ
   refine ⟨(by intro hc; cases hc),?_⟩
   refine ae ?_
   obtain rfl:=sI h
   exact cv (.inr rfl) rfl  (fun W2 hW2 => ⟨rfl,hn8,hW2.take 2⟩)
theorem fz (p0:(List Int)) (p1:Int → Int → Option Int) (res:(List Int)) (h:cg p0 p1 = some res) (W:World) (w0:World) (R:Res) (Aa:Option Addr) (n0_0 ca : Nat) (hn0_0:n0_0 = p0.length) (fid1:Nat) (fst1 caps1 : List Value) (hgo1:bp Tryz.prog fid1 = true) (hof1:∀ W2,Below w0.heap.size w0 W2 → R.holds W2 → ∀ x0 x1,∀ y,p1 x0 x1 = some y → Calls Tryz.prog fid1 (fst1 ++ (([vI x0,vI x1] : List Value) ++ caps1)).toArray W2 fun e W3 => e = .returned (vI y) ∧ Ext W2 W3 []) (hW:Ext w0 W [R,aP Aa ca 3 1 n0_0 (encL cI p0)]) :
  Calls Tryz.prog 143 [.slice Aa n0_0 ca,.func (.func fid1) fst1.toArray caps1.toArray].toArray W fun e W2 => e = .returned (.tuple #[]) ∧ n0_0 = res.length ∧ Ext w0 W2 [R,aP Aa ca 3 1 n0_0 (encL cI res)]:=by
 subst hn0_0
 unfold cg at h
 refine aR (m:=9) Tryz.func143 rfl rfl (nB rfl) hW (cR (oY rfl (yMS rfl) (oY rfl (yMS rfl) (oY rfl (bk (us:=[]) cU rfl) (oY rfl (bz (v:=.func (.func fid1) fst1.toArray caps1.toArray) rfl) ?_)))))
 obtain ⟨y1,hy2,h⟩:=bOs h
 refine eJ 1 [.slice Aa p0.length ca,vI (p0.length:Int),.func (.func fid1) fst1.toArray caps1.toArray] (fun (_:Unit) => p0.length = y1.length) (fun _ => .tuple #[]) (fun _ => aP Aa ca 3 1 p0.length (encL cI y1)) (fun _ => []) rfl rfl go_175 rfl (fun W2 hW2 => (gR p0 (p0.length:Int) p1 y1 hy2 W2 _ (cE [R,aP Aa ca 3 1 p0.length (encL cI p0)] [1]) Aa p0.length ca rfl fid1 fst1 caps1 hgo1 (fun W3 hb hR => hof1 W3 hb (hR.1 0 _ (by decide) rfl)) hW2).mono (fun e W3 h3 => ⟨(),h3.2.1,h3.1,h3.2.2⟩)) ?_
 rintro - hn3
 try dsimp only [lsz,lss,List.append_nil]
 refine oN ?_
 obtain rfl:=sI h
 exact cv (.inr rfl) rfl  (fun W2 hW2 => ⟨rfl,hn3,hW2.take 2⟩)
theorem lu (p0:Int) (p1:Int) (res:Int) (h:gS p0 p1 = some res) (W:World)  :
  Calls Tryz.prog 145 [vI p0,vI p1].toArray W fun e W2 => e = .returned (vI res) ∧ Ext W W2 []:=by
 unfold gS at h
 refine ab (m:=20) Tryz.func145 rfl rfl (nB rfl) (cS (cR (oY rfl (yAI rfl) (oN (eT (cS (cR (oY rfl (yMI rfl) ?_))))))))
 obtain ⟨y1,hy2,h⟩:=bOs h
 refine oY rfl (yC [vI p0] qM rfl (fun W2 hW2 => eI p0 y1 hy2 W2 ) rfl) (oY rfl (yAB rfl) (oN (eT (cS (cR (oY rfl (yMI rfl) ?_))))))
 obtain ⟨y3,hy4,h⟩:=bOs h
 refine oY rfl (yC [vI p1] qM rfl (fun W2 hW2 => eI p1 y3 hy4 W2 ) rfl) (oY rfl (yAB rfl) (oN (eT (cS (cS (cR (oY rfl (yMB rfl) (oN (eT ?_)))))))))
 rcases iOs h with ⟨hp5,h⟩ | ⟨hp5,h⟩
 ·refine cT (vB hp5) (cS (cS (cR (oY rfl (yMB rfl) (oN (eT ?_))))))
  rcases iOs h with ⟨hp6,h⟩ | ⟨hp6,h⟩
  ·refine cT (vB hp6) (cS (cR (oY rfl (yAI rfl) (oN (eT (ak (aa (aa ?_))))))))
   obtain rfl:=sI h
   exact aj (.inl rfl) rfl (rVt (v:=vI 0) rfl) (fun W2 hW2 => ⟨rfl,hW2.none⟩)
  ·refine cF (vB hp6) (cK (eT (cS (cR (oY rfl (yAI rfl) (oN (eT (ak (aa ?_)))))))))
   obtain rfl:=sI h
   exact aj (.inl rfl) rfl (rVt (v:=vI (-1)) rfl) (fun W2 hW2 => ⟨rfl,hW2.none⟩)
 ·refine cF (vB hp5) (cK (eT (cS (cS (cR (oY rfl (yMB rfl) (oN (eT ?_))))))))
  rcases iOs h with ⟨hp7,h⟩ | ⟨hp7,h⟩
  ·refine cT (vB hp7) (cS (cR (oY rfl (yAI rfl) (oN (eT (ak (aa ?_)))))))
   obtain rfl:=sI h
   exact aj (.inl rfl) rfl (rVt (v:=vI 1) rfl) (fun W2 hW2 => ⟨rfl,hW2.none⟩)
  ·refine cF (vB hp7) (cK (eT (cS (cS (cR (oY rfl (yMI rfl) (oY rfl (yMI rfl) (oY rfl (bl rfl rfl) (oN (eT ?_))))))))))
   rcases iOs h with ⟨hp8,h⟩ | ⟨hp8,h⟩
   ·refine cT (vB hp8) (cS (cR (oY rfl (yAI rfl) (oN (eT (ak (aa ?_)))))))
    obtain rfl:=sI h
    exact aj (.inl rfl) rfl (rVt (v:=vI (-1)) rfl) (fun W2 hW2 => ⟨rfl,hW2.none⟩)
   ·refine cF (vB hp8) (cK (eT (cS (cS (cR (oY rfl (yMI rfl) (oY rfl (yMI rfl) (oY rfl (gq rfl rfl) (oN (eT ?_))))))))))
    rcases iOs h with ⟨hp9,h⟩ | ⟨hp9,h⟩
    ·refine cT (vB hp9) (cS (cR (oY rfl (yAI rfl) (oN (eT (ak (aa ?_)))))))
     obtain rfl:=sI h
     exact aj (.inl rfl) rfl (rVt (v:=vI 1) rfl) (fun W2 hW2 => ⟨rfl,hW2.none⟩)
    ·refine cF (vB hp9) (cK (eT (cS (cR (oY rfl (yAI rfl) (oN (eT (ak ?_))))))))
     obtain rfl:=sI h
     exact aj (.inl rfl) rfl (rVt (v:=vI 0) rfl) (fun W2 hW2 => ⟨rfl,hW2.none⟩)
theorem nx (p0:Int) (p1:Int) (cap0:TY) (res:Int) (h:hY p0 p1 cap0 = some res) (W:World) (bc0:Nat) (A100_0:Option Addr) (n100_0 c100_0 : Nat) (hn100_0:n100_0 = cap0.fB.length) (hr100_0:Rd W A100_0 n100_0 c100_0 (encL aA cap0.fB)) (A100_1:Option Addr) (n100_1 c100_1 : Nat) (hn100_1:n100_1 = cap0.fR.length) (hr100_1:Rd W A100_1 n100_1 c100_1 (encL ay cap0.fR)) (hcap0:Rd W (some ⟨bc0,0,none⟩) 1 1 [.slice A100_0 n100_0 c100_0,.slice A100_1 n100_1 c100_1]) :
  Calls Tryz.prog 144 [vI p0,vI p1,.pointer (some ⟨bc0,0,none⟩)].toArray W fun e W2 => e = .returned (vI res) ∧ Ext W W2 []:=by
 subst hn100_0
 subst hn100_1
 unfold hY at h
 refine ab (m:=19) Tryz.func144 rfl rfl (nB rfl) (cS (cR (oY rfl (yAI rfl) (oN (eT (cS ?_))))))
 refine bA 14 dE (by kernel_rfl) (by kernel_rfl) ?_
 refine qY rfl (yFR (A:=(some ⟨bc0,0,none⟩)) (j:=0) bV rfl) (qY rfl (yR (A:=(some ⟨bc0,0,none⟩)) (j:=(0 + 1)) (v:=.slice A100_1 cap0.fR.length c100_1) f9 (RdL.arg hcap0) rfl rfl) (qY rfl (yMI rfl) ?_))
 obtain ⟨hg1,h⟩:=gOs h
 refine qY rfl (yI jE (by decide) hg1.1 hg1.2 (RdL.arg hr100_1) (eL am rfl) rfl rfl) ?_
 refine qY rfl (yFR (A:=A100_1) (j:=(Int.toNat p1 * 5)) iv rfl) (qY rfl (yR (A:=A100_1) (j:=((Int.toNat p1 * 5) + 4)) (v:=vI ((rdL cap0.fR p1).fW)) a8 (RdL.arg hr100_1) rfl (eG am hg1.1 (ap hg1.2 rfl) rfl)) (qY rfl (yFR (A:=(some ⟨bc0,0,none⟩)) (j:=0) bV rfl) (qY rfl (yR (A:=(some ⟨bc0,0,none⟩)) (j:=(0 + 1)) (v:=.slice A100_1 cap0.fR.length c100_1) f9 (RdL.arg hcap0) rfl rfl) (qY rfl (yMI rfl) ?_))))
 obtain ⟨hg2,h⟩:=gOs h
 refine qY rfl (yI jE (by decide) hg2.1 hg2.2 (RdL.arg hr100_1) (eL am rfl) rfl rfl) ?_
 refine qY rfl (yFR (A:=A100_1) (j:=(Int.toNat p0 * 5)) iv rfl) (qY rfl (yR (A:=A100_1) (j:=((Int.toNat p0 * 5) + 4)) (v:=vI ((rdL cap0.fR p0).fW)) a8 (RdL.arg hr100_1) rfl (eG am hg2.1 (ap hg2.2 rfl) rfl)) ?_)
 obtain ⟨y3,hy4,h⟩:=bOs h
 refine qY rfl (yC [vI ((rdL cap0.fR p1).fW),vI ((rdL cap0.fR p0).fW)] go_145 rfl (fun W2 hW2 => lu ((rdL cap0.fR p1).fW) ((rdL cap0.fR p0).fW) y3 hy4 W2 ) rfl) (qY rfl (yAI rfl) (dm (oN (eT (ak ?_)))))
 obtain rfl:=sI h
 exact aj (.inl rfl) rfl (rVt (v:=vI y3) rfl) (fun W2 hW2 => ⟨rfl,hW2.none⟩)
theorem li (p0:TY) (res:(List (Int × Int))) (h:j9 p0 = some res) (W:World) (Aa:Option Addr) (n0_0 ca : Nat) (hn0_0:n0_0 = p0.fB.length) (hr0_0:Rd W Aa n0_0 ca (encL aA p0.fB)) (Ab:Option Addr) (n0_1 cb : Nat) (hn0_1:n0_1 = p0.fR.length) (hr0_1:Rd W Ab n0_1 cb (encL ay p0.fR)) :
  Calls Tryz.prog 100 [.agg #[.slice Aa n0_0 ca,.slice Ab n0_1 cb]].toArray W fun e W2 => ∃ x : Nat,e = .returned (.map (some x)) ∧ Ext W W2 [mapV Tryz.prog 3 kI dI kI 0 x res]:=by
 subst hn0_0
 subst hn0_1
 unfold j9 at h
 refine ab (m:=35) Tryz.func100 rfl rfl (nB rfl) (cS (cR ?_))
 refine aN [.slice Aa p0.fB.length ca,.slice Ab p0.fR.length cb] rfl rfl rfl (fun b1 => ?_)
 refine oY rfl (d9 rfl) (oN (eT (cS (cR (oY rfl (yAS rfl) (oN (eT (cS (cS (cR (oY rfl (yFA bV rfl) (oY rfl (yL 0 f9 rfl rfl rfl) (oY rfl (bk (us:=[]) kG rfl) (oY rfl (yMI rfl) (oN (eT (cB ?_)))))))))))))))))
 obtain ⟨u5,hl11,h⟩:=bOs h
 refine dv 3 1 ?_
 refine bv (fun (s:(Int × (List Int))) L tm => ∃ (tm0:Nat → Value) (A1_s:Option Addr) (c1_s:Nat) (n1_s:Nat),n1_s = s.2.length ∧ L = [ai b1 53 [.slice Aa p0.fB.length ca,.slice Ab p0.fR.length cb],aP A1_s c1_s 3 1 n1_s (encL cI s.2)] ∧ tm = (upd (upd (upd (upd (upd tm0 1 (.pointer (some ⟨b1,0,none⟩))) 2 (.map none)) 3 (.slice A1_s n1_s c1_s)) 10 (vI (p0.fR.length:Int))) 11 (vI s.1))) 0 hl11 ⟨_,none,0,0,rfl,rfl,(kp4 (kp rfl))⟩ ?_ ?_
 ·rintro s4 L tm st ⟨tm0_s4,A1_s4,c1_s4,n1_s4,rfl,rfl,rfl⟩ h
  unfold kN at h
  refine cS (cR (oY rfl (bl rfl rfl) (oN (eT (cS ?_)))))
  rcases iOs h with ⟨hp6,h⟩ | ⟨hp6,h⟩
  ·refine cT (vB hp6) (cK (eT (cS (cB (cS (cR (oY rfl (yMI rfl) (oY rfl (yAI rfl) (oN (eT (cR (oY rfl (yMS rfl) (oY rfl (yMI rfl) ?_)))))))))))))
   refine aK 1 (encL cI [s4.1]) _ na cU mh oW (by decide) (by decide) (by kernel_rfl) (eL aD rfl) rfl (fun b7 => ?_)
   obtain ⟨hg10,h⟩:=gOs h
   refine co 1 cU mh oW rfl rfl rfl (RdL.row 2 rfl) (eL aD rfl) (dO nX _) (ex hg10 (by decide)) rfl (fun A8 c9 => ?_)
   refine oY rfl (yAS rfl) (oN (ax (eT (cR (oY rfl (aZ rfl rfl) (oY rfl (yMI rfl) (oN (aT 2 ?_))))))))
   obtain rfl:=sI h
   exact eN ⟨_,A8,c9,(s4.2.length + 1),(iM rfl rfl),rfl,(kp4 (kp rfl))⟩
  ·refine cF (vB hp6) (aE (ag ?_))
   obtain rfl:=sI h
   exact aw ⟨rfl,_,A1_s4,c1_s4,s4.2.length,rfl,rfl,(kp4 (kp rfl))⟩
 ·intro e L tm hJ
  obtain ⟨rfl,tm0_u5,A1_u5,c1_u5,n1_u5,rfl,rfl,rfl⟩:=hJ
  refine ⟨(by intro hc; cases hc),?_⟩
  refine ae (eT (cS (cR (oY rfl (yMS rfl) (oY rfl (bP [.pointer (some ⟨b1,0,none⟩)] rfl rfl) ?_)))))
  obtain ⟨y14,hy15,h⟩:=bOs h
  refine eJ 1 [.slice A1_u5 u5.2.length c1_u5,.func (.func 144) #[] #[.pointer (some ⟨b1,0,none⟩)]] (fun (_:Unit) => u5.2.length = y14.length) (fun _ => .tuple #[]) (fun _ => aP A1_u5 c1_u5 3 1 u5.2.length (encL cI y14)) (fun _ => []) rfl rfl go_143 rfl (fun W2 hW2 => (fz u5.2 (fun x12 x13 => hY x12 x13 p0) y14 hy15 W2 _ (cE [ai b1 53 [.slice Aa p0.fB.length ca,.slice Ab p0.fR.length cb],aP A1_u5 c1_u5 3 1 u5.2.length (encL cI u5.2)] [1]) A1_u5 u5.2.length c1_u5 rfl 144 [] [.pointer (some ⟨b1,0,none⟩)] go_144 (fun W3 hb hR x0 x1 y hxy => nx  x0 x1 p0 y hxy W3 b1 Aa p0.fB.length ca rfl ((RdL.arg hr0_0) W3 (hW2.rest hb hR)) Ab p0.fR.length cb rfl ((RdL.arg hr0_1) W3 (hW2.rest hb hR)) ((RdL.cells 0 rfl) W3 (hW2.rest hb hR))) hW2).mono (fun e W3 h3 => ⟨(),h3.2.1,h3.1,h3.2.2⟩)) ?_
  rintro - hn16
  try dsimp only [lsz,lss,List.append_nil]
  refine oN (eT (cS (cR ?_)))
  refine jj 3 kI dI kI 0 rfl (fun b17 => ?_)
  refine oY rfl (d9 rfl) (oN (eT (cS (cS (cR (oY rfl (yMS rfl) (oY rfl (bk (us:=[]) cU rfl) (oY rfl (yMI rfl) (oN (eT (cB ?_)))))))))))
  obtain ⟨u21,hl26,h⟩:=bOs h
  refine bv (fun (s:(Int × (List (Int × Int)))) L tm => ∃ (tm0:Nat → Value),L = [ai b1 53 [.slice Aa p0.fB.length ca,.slice Ab p0.fR.length cb],aP A1_u5 c1_u5 3 1 u5.2.length (encL cI y14),mapV Tryz.prog 3 kI dI kI 0 b17 s.2] ∧ tm = (upd (upd (upd (upd (upd (upd tm0 1 (.pointer (some ⟨b1,0,none⟩))) 2 (.map none)) 5 (.map (some b17))) 23 (.slice A1_u5 u5.2.length c1_u5)) 24 (vI (u5.2.length:Int))) 25 (vI s.1))) 2 hl26 ⟨_,rfl,(kp4 (kp (kp rfl)))⟩ ?_ ?_
  ·rintro s20 L tm st ⟨tm0_s20,rfl,rfl⟩ h
   unfold kP at h
   refine cS (cR (oY rfl (bl rfl rfl) (oN (eT (cS ?_)))))
   rcases iOs h with ⟨hp22,h⟩ | ⟨hp22,h⟩
   ·refine cT (vB hp22) (cK (eT (cS (cB (cS (cR ?_))))))
    obtain ⟨hg23,h⟩:=gOs h
    refine oY rfl (yI dz (by decide) hg23.1 hg23.2 (RdL.row 1 rfl) (eL aD hn16) rfl rfl) ?_
    refine oY rfl (yR (A:=A1_u5) (j:=(Int.toNat s20.1 * 1)) (v:=vI (rdL y14 s20.1)) a8 (RdL.row 1 rfl) rfl (aG aD hg23.1 (ap hg23.2 hn16) rfl)) (oY rfl (yAI rfl) (oN (eT (cR (oY rfl (cn rfl) (oY rfl (yN 0 [.slice Aa p0.fB.length ca,.slice Ab p0.fR.length cb] dc rfl rfl rfl) (oY rfl (yMI rfl) ?_)))))))
    obtain ⟨y24,hy25,h⟩:=bOs h
    refine ff [2] [] [.map (some b17),.agg #[.slice Aa p0.fB.length ca,.slice Ab p0.fR.length cb],vI (rdL y14 s20.1)] [] (fun (_:Unit) => True) (fun _ => .bool y24.1) (fun _ => [mapV Tryz.prog 3 kI dI kI 0 b17 y24.2]) (fun _ => []) (Foc.c1 rfl) (by decide) rfl go_117 rfl rfl (fun _ => rfl) (fun W2 hW2 => ig s20.2 p0 (rdL y14 s20.1) y24 hy25 W2 _ (cE [ai b1 53 [.slice Aa p0.fB.length ca,.slice Ab p0.fR.length cb],aP A1_u5 c1_u5 3 1 u5.2.length (encL cI y14),mapV Tryz.prog 3 kI dI kI 0 b17 s20.2] [2]) b17 Aa p0.fB.length ca rfl (fun W3 hb hR => (RdL.arg hr0_0) W3 (hW2.restL hb hR)) Ab p0.fR.length cb rfl (fun W3 hb hR => (RdL.arg hr0_1) W3 (hW2.restL hb hR)) hW2) ?_
    rintro - -
    try dsimp only [kJ,lsz,lss,List.append_nil]
    refine oN (ax (eT (cR (oY rfl (aZ rfl rfl) (oY rfl (yMI rfl) (oN ?_))))))
    obtain rfl:=sI h
    exact eN ⟨_,rfl,(kp4 (kp (kp rfl)))⟩
   ·refine cF (vB hp22) (aE (ag ?_))
    obtain rfl:=sI h
    exact aw ⟨rfl,_,rfl,(kp4 (kp (kp rfl)))⟩
  ·intro e L tm hJ
   obtain ⟨rfl,tm0_u21,rfl,rfl⟩:=hJ
   refine ⟨(by intro hc; cases hc),?_⟩
   refine ae (eT (cS (cR (oY rfl (cn rfl) (oY rfl (d9 rfl) (oN (eT (ak ?_))))))))
   obtain rfl:=sI h
   exact aj (.inl rfl) rfl (rVt (v:=.map (some b17)) rfl) (fun W2 hW2 => ⟨b17,rfl,(hW2.pick 2 rfl)⟩)
theorem gV (p0:(List (Int × Int))) (p1:TY) (res:Int) (h:eH p0 p1 = some res) (W:World) (bm0_0:Nat) (hm0_0:(mapV Tryz.prog 3 kI dI kI 0 bm0_0 p0).holds W) (Ac:Option Addr) (n1_0 cc : Nat) (hn1_0:n1_0 = p1.fB.length) (hr1_0:Rd W Ac n1_0 cc (encL aA p1.fB)) (A1_1:Option Addr) (n1_1 c1_1 : Nat) (hn1_1:n1_1 = p1.fR.length) (hr1_1:Rd W A1_1 n1_1 c1_1 (encL ay p1.fR)) :
  Calls Tryz.prog 130 [.map (some bm0_0),.agg #[.slice Ac n1_0 cc,.slice A1_1 n1_1 c1_1]].toArray W fun e W2 => e = .returned (vI res) ∧ Ext W W2 []:=by
 subst hn1_0
 subst hn1_1
 unfold eH at h
 refine ab (m:=23) Tryz.func130 rfl rfl (nB rfl) (cS (cR ?_))
 refine aN [.slice Ac p1.fB.length cc,.slice A1_1 p1.fR.length c1_1] rfl rfl rfl (fun b1 => ?_)
 refine oY rfl (yAI rfl) (oN (eT (cS (cR (oY rfl (yAI rfl) (oN (eT (cS (cS (cR (oY rfl (cn rfl) (pw hm0_0 ke_3 pk rfl rfl (fun b2 k3 hk4 => (oN (eT ?_)))))))))))))))
 obtain ⟨hg14,h⟩:=gOs h
 refine cB (qP (fun (s12:Nat × (Int → Bool) × Int) L tm => FoldI dI p0 (fun a y5 => w64 (a + ((rdL p1.fR (av 0 p0 y5)).fW))) 0 s12 ∧ ∃ (tm0:Nat → Value),L = [ai b1 53 [.slice Ac p1.fB.length cc,.slice A1_1 p1.fR.length c1_1],rngA W Tryz.prog 3 kI dI kI 0 bm0_0 b2 p0 s12.2.1 s12.1 none] ∧ tm = (upd (upd (upd (upd (upd (upd tm0 0 (.map (some bm0_0))) 1 (.agg #[.slice Ac p1.fB.length cc,.slice A1_1 p1.fR.length c1_1])) 3 (.pointer (some ⟨b1,0,none⟩))) 4 (vI 0)) 5 (vI s12.2.2)) 9 (.pointer (some ⟨b2,0,none⟩)))) (fun s => s.1) (k3,(fun y => bd p0 y),0) ⟨FoldI.start,_,rfl,(kp4 (kp (kp rfl)))⟩ ?_)
 rintro s12 L tm ⟨hI13,tm0,rfl,rfl⟩
 refine cS (cR ?_)
 refine qK 1 ((mapV Tryz.prog 3 kI dI kI 0 bm0_0 p0).inb _ hm0_0 _ rfl) rfl ke_3 rfl rfl (fun hno11 => ?_) (fun y5 k6 hy7 hly8 hM9 hk10 => ?_)
 ·refine oY rfl (yE rfl rfl) (oN (eT (cS (cF rfl (aE (ag ?_))))))
  refine rM (by intro h; cases h) ?_
  have hS16:=hI13.done (C:=(fun y5 => ((0:Int) ≤ av 0 p0 y5 ∧ av 0 p0 y5 < (p1.fR.length:Int)))) hg14 hno11 (fun x _ y _ z => w64_comm (fun y5 => ((rdL p1.fR (av 0 p0 y5)).fW)) x y z)
  rw [hS16]
  refine ae (eT (cS (cR (oY rfl (yMI rfl) (oY rfl (yAI rfl) (oN (eT (ak ?_))))))))
  obtain rfl:=sI h
  exact aj (.inl rfl) rfl (rVt (v:=vI ((gm p0).foldl (fun a y5 => w64 (a + ((rdL p1.fR (av 0 p0 y5)).fW))) 0)) rfl) (fun W2 hW2 => ⟨rfl,hW2.none⟩)
 ·refine oY rfl (yE rfl rfl) (oN (eT (cS (cT rfl (cK (eT (cB (cS (cR (oY rfl (qT 1 ((mapV Tryz.prog 3 kI dI kI 0 bm0_0 p0).inb _ hm0_0 _ rfl) rfl rfl) (oY rfl (yE rfl rfl) (oY rfl (yAI rfl) (oN (eT (cR (oY rfl (yMI rfl) (oY rfl (yFA bV rfl) (oY rfl (yL 0 f9 rfl rfl rfl) (oY rfl (yMI rfl) ?_)))))))))))))))))))
  refine oY rfl (yI jE (by decide) (jl (C:=(fun y5 => ((0:Int) ≤ av 0 p0 y5 ∧ av 0 p0 y5 < (p1.fR.length:Int)))) hg14 hM9).1 (jl (C:=(fun y5 => ((0:Int) ≤ av 0 p0 y5 ∧ av 0 p0 y5 < (p1.fR.length:Int)))) hg14 hM9).2 (RdL.arg hr1_1) (eL am rfl) rfl rfl) ?_
  refine oY rfl (yFR (A:=A1_1) (j:=(Int.toNat (av 0 p0 y5) * 5)) iv rfl) (oY rfl (yR (A:=A1_1) (j:=((Int.toNat (av 0 p0 y5) * 5) + 4)) (v:=vI ((rdL p1.fR (av 0 p0 y5)).fW)) a8 (RdL.arg hr1_1) rfl (eG am (jl (C:=(fun y5 => ((0:Int) ≤ av 0 p0 y5 ∧ av 0 p0 y5 < (p1.fR.length:Int)))) hg14 hM9).1 (ap (jl (C:=(fun y5 => ((0:Int) ≤ av 0 p0 y5 ∧ av 0 p0 y5 < (p1.fR.length:Int)))) hg14 hM9).2 rfl) rfl)) (oY rfl (aZ rfl rfl) (oY rfl (yAI rfl) (oN (ax (ni 1 rfl ?_))))))
  exact qy (k6,(fun q => s12.2.1 q && !decide (q = y5)),w64 (s12.2.2 + ((rdL p1.fR (av 0 p0 y5)).fW))) ⟨hI13.step hy7 hly8 hM9,_,rfl,(kp4 (kp (kp rfl)))⟩ hk10
theorem eo (p0:TY) (res:Int) (h:eX p0 = some res) (W:World) (Aa:Option Addr) (n0_0 ca : Nat) (hn0_0:n0_0 = p0.fB.length) (hr0_0:Rd W Aa n0_0 ca (encL aA p0.fB)) (Ab:Option Addr) (n0_1 cb : Nat) (hn0_1:n0_1 = p0.fR.length) (hr0_1:Rd W Ab n0_1 cb (encL ay p0.fR)) :
  Calls Tryz.prog 83 [.agg #[.slice Aa n0_0 ca,.slice Ab n0_1 cb]].toArray W fun e W2 => e = .returned (vI res) ∧ Ext W W2 []:=by
 subst hn0_0
 subst hn0_1
 unfold eX at h
 refine ab (m:=10) Tryz.func83 rfl rfl (nB rfl) (cS (cR ?_))
 refine aN [.slice Aa p0.fB.length ca,.slice Ab p0.fR.length cb] rfl rfl rfl (fun b1 => ?_)
 refine oY rfl (yAI rfl) (oN (eT (cS (cR (oY rfl (yN 0 [.slice Aa p0.fB.length ca,.slice Ab p0.fR.length cb] dc rfl rfl rfl) ?_)))))
 obtain ⟨y2,hy3,h⟩:=bOs h
 refine lH [.agg #[.slice Aa p0.fB.length ca,.slice Ab p0.fR.length cb]] _ _ rfl go_100 rfl (fun W2 hW2 => li p0 y2 hy3 W2 Aa p0.fB.length ca rfl ((RdL.arg hr0_0) W2 hW2) Ab p0.fR.length cb rfl ((RdL.arg hr0_1) W2 hW2)) ?_
 rintro b4
 refine oY rfl (pT [.map (some b4)] [] rfl rfl) (oY rfl (ef rfl) (oN (eT (cS (cR (oY rfl (c8 rfl) (oY rfl (yN 0 [.slice Aa p0.fB.length ca,.slice Ab p0.fR.length cb] dc rfl rfl rfl) ?_)))))))
 obtain ⟨y5,hy6,h⟩:=bOs h
 refine oY rfl (f4 (fst:=[.map (some b4)]) (caps:=[]) [.agg #[.slice Aa p0.fB.length ca,.slice Ab p0.fR.length cb]] go_130 rfl rfl (fun W2 hW2 => gV y2 p0 y5 hy6 W2 b4 ((MpL.own 1 rfl) W2 hW2) Aa p0.fB.length ca rfl ((RdL.arg hr0_0) W2 hW2) Ab p0.fR.length cb rfl ((RdL.arg hr0_1) W2 hW2))) (oY rfl (yAI rfl) (oN (eT (ak ?_))))
 obtain rfl:=sI h
 exact aj (.inl rfl) rfl (rVt (v:=vI y5) rfl) (fun W2 hW2 => ⟨rfl,hW2.none⟩)
theorem mr (p0__:TO) (p1:Int → Option Int) (cap0:Int) (res:Bool) (h:jk p0__ p1 cap0 = some res) (W:World) (fid1:Nat) (fst1 caps1 : List Value) (hgo1:bp Tryz.prog fid1 = true) (hof1:∀ W2,Below W.heap.size W W2 → ∀ x,∀ y,p1 x = some y → Calls Tryz.prog fid1 (fst1 ++ (([vI x] : List Value) ++ caps1)).toArray W2 fun e W3 => e = .returned (vI y) ∧ Ext W2 W3 []) (bc0:Nat) (hcap0:Rd W (some ⟨bc0,0,none⟩) 1 1 (cI cap0)) :
  Calls Tryz.prog 85 [.agg #[vI p0__.fID,vI p0__.fH.fLo,vI p0__.fH.fHi,vI p0__.fD,vI p0__.fW],.func (.func fid1) fst1.toArray caps1.toArray,.pointer (some ⟨bc0,0,none⟩)].toArray W fun e W2 => e = .returned (.bool res) ∧ Ext W W2 []:=by
 unfold jk at h
 refine ab (m:=10) Tryz.func85 rfl rfl (nB rfl) (cS (cR ?_))
 refine aN [vI p0__.fID,vI p0__.fH.fLo,vI p0__.fH.fHi,vI p0__.fD,vI p0__.fW] rfl rfl rfl (fun b1 => ?_)
 refine oY rfl (yAB rfl) (oN (eT (cS ?_)))
 refine bA 5 dE (by kernel_rfl) (by kernel_rfl) ?_
 refine qY rfl (bz (v:=.func (.func fid1) fst1.toArray caps1.toArray) rfl) ?_
 obtain ⟨y2,hy3,h⟩:=bOs h
 refine qY rfl (f4 [vI 0] hgo1 rfl rfl (fun W2 hW2 => hof1 W2 hW2.below 0 y2 hy3)) (qY rfl (yR (A:=(some ⟨bc0,0,none⟩)) (j:=0) (v:=vI cap0) a8 (RdL.arg hcap0) rfl rfl) (qY rfl (bl rfl rfl) (qY rfl (yAB rfl) (dm (oN (eT (ak ?_)))))))
 obtain rfl:=sI h
 exact aj (.inl rfl) rfl (rVt (v:=.bool (decide (y2 < cap0))) rfl) (fun W2 hW2 => ⟨rfl,hW2.none⟩)
theorem mR (p0:TO) (p1:Int → Option Int) (cap0:Int) (res:Bool) (h:jP p0 p1 cap0 = some res) (W:World) (fid1:Nat) (fst1 caps1 : List Value) (hgo1:bp Tryz.prog fid1 = true) (hof1:∀ W2,Below W.heap.size W W2 → ∀ x,∀ y,p1 x = some y → Calls Tryz.prog fid1 (fst1 ++ (([vI x] : List Value) ++ caps1)).toArray W2 fun e W3 => e = .returned (vI y) ∧ Ext W2 W3 []) (bc0:Nat) (hcap0:Rd W (some ⟨bc0,0,none⟩) 1 1 (cI cap0)) :
  Calls Tryz.prog 88 [.agg #[vI p0.fID,vI p0.fH.fLo,vI p0.fH.fHi,vI p0.fD,vI p0.fW],.func (.func fid1) fst1.toArray caps1.toArray,.pointer (some ⟨bc0,0,none⟩)].toArray W fun e W2 => e = .returned (.bool res) ∧ Ext W W2 []:=by
 unfold jP at h
 refine ab (m:=13) Tryz.func88 rfl rfl (nB rfl) (cS (cR ?_))
 refine aN [vI p0.fID,vI p0.fH.fLo,vI p0.fH.fHi,vI p0.fD,vI p0.fW] rfl rfl rfl (fun b1 => ?_)
 refine oY rfl (yAB rfl) (oN (eT (cS ?_)))
 refine bA 8 dE (by kernel_rfl) (by kernel_rfl) ?_
 refine qY rfl (bz (v:=.func (.func fid1) fst1.toArray caps1.toArray) rfl) (qY rfl (yFA iv rfl) (qY rfl (yL 0 a8 rfl rfl rfl) (qY rfl (aZ rfl rfl) ?_)))
 obtain ⟨y2,hy3,h⟩:=bOs h
 refine qY rfl (f4 [vI (w64 (p0.fW + 1))] hgo1 rfl rfl (fun W2 hW2 => hof1 W2 hW2.below (w64 (p0.fW + 1)) y2 hy3)) (qY rfl (yR (A:=(some ⟨bc0,0,none⟩)) (j:=0) (v:=vI cap0) a8 (RdL.arg hcap0) rfl rfl) (qY rfl (cL rfl rfl) (qY rfl (yAB rfl) (dm (oN (eT (ak ?_)))))))
 obtain rfl:=sI h
 exact aj (.inl rfl) rfl (rVt (v:=.bool (y2 == cap0)) rfl) (fun W2 hW2 => ⟨rfl,hW2.none⟩)
theorem g7 (p0:(List TO)) (res:(List TO)) (h:dt p0 = some res) (W:World) (Aa:Option Addr) (n0_0 ca : Nat) (hn0_0:n0_0 = p0.length) (hr0_0:Rd W Aa n0_0 ca (encL ay p0)) :
  Calls Tryz.prog 115 [.slice Aa n0_0 ca].toArray W fun e W2 => ∃ x : Option Addr × Nat × Nat,x.2.1 = res.length ∧ e = .returned (.slice x.1 x.2.1 x.2.2) ∧ Ext W W2 [aP x.1 x.2.2 65 5 x.2.1 (encL ay res)]:=by
 subst hn0_0
 unfold dt at h
 refine ab (m:=8) Tryz.func115 rfl rfl (nB rfl) (cS (cR (oY rfl (yAS rfl) (oN (eT (cS (cS (cR (oY rfl (yMS rfl) (oY rfl (oU kG rfl rfl) (oN (eT ?_))))))))))))
 rcases al (Option.isNone Aa) with hp1 | hp1
 ·refine cT (vB hp1) ?_
  have z6:=o5 (Option.isNone_iff_eq_none.1 hp1 ▸ hr0_0) am (by decide)
  replace h:=(gOs h).2
  rw [z6] at h
  refine cS (cR (oY rfl (yAS rfl) (oN (eT (ak (aa ?_))))))
  obtain rfl:=sI h
  exact aj (.inl rfl) rfl (rVt (v:=.slice none 0 0) rfl) (fun W2 hW2 => ⟨(none,0,0),rfl,rfl,((hW2.nilrow 65 5).pick 0 rfl)⟩)
 ·refine cF (vB hp1) (cK (eT (cS (cR ?_))))
  refine f5 ay kG nK by_65 rfl (fun b2 => ?_)
  refine oY rfl (yMS rfl) ?_
  obtain ⟨hg5,h⟩:=gOs h
  refine co 0 kG nK by_65 rfl rfl rfl (RdL.arg hr0_0) (eL am rfl) (dO mw _) (ex hg5 (by decide)) rfl (fun A3 c4 => ?_)
  refine oY rfl (yAS rfl) (oN (eT (ak ?_)))
  obtain rfl:=sI h
  exact aj (.inl rfl) rfl (rVt (v:=.slice A3 (0 + p0.length) c4) rfl) (fun W2 hW2 => ⟨(A3,(0 + p0.length),c4),(iM rfl rfl),rfl,(hW2.pick 0 rfl)⟩)
end Go.Proofs.YthndghnkebboaaaGreat
set_option maxHeartbeats 4000000
set_option maxRecDepth 100000
namespace Go.Proofs.YthndghnkebboaaaGreat
open Go.RowKit (Below)
attribute [local irreducible] OX QX CX EX OpY Calls CallsIn
theorem jX (p0:Int) (cap0:TY) (cap1:Int) (res:Int) (h:eS p0 cap0 cap1 = some res) (W:World) (bc0:Nat) (A100_0:Option Addr) (n100_0 c100_0 : Nat) (hn100_0:n100_0 = cap0.fB.length) (hr100_0:Rd W A100_0 n100_0 c100_0 (encL aA cap0.fB)) (A100_1:Option Addr) (n100_1 c100_1 : Nat) (hn100_1:n100_1 = cap0.fR.length) (hr100_1:Rd W A100_1 n100_1 c100_1 (encL ay cap0.fR)) (hcap0:Rd W (some ⟨bc0,0,none⟩) 1 1 [.slice A100_0 n100_0 c100_0,.slice A100_1 n100_1 c100_1]) (bc1:Nat) (hcap1:Rd W (some ⟨bc1,0,none⟩) 1 1 (cI cap1)) :
  Calls Tryz.prog 131 [vI p0,.pointer (some ⟨bc0,0,none⟩),.pointer (some ⟨bc1,0,none⟩)].toArray W fun e W2 => e = .returned (vI res) ∧ Ext W W2 []:=by
 subst hn100_0
 subst hn100_1
 unfold eS at h
 refine ab (m:=20) Tryz.func131 rfl rfl (nB rfl) (cS (cR (oY rfl (yAI rfl) (oN (eT (cS ?_))))))
 obtain ⟨y2,hy3,h⟩:=bOs h
 refine fx [[],[0],[],[2],[2,3],[0,1,2,3,4],[],[0,1,2,3,4,5,6]] [(none,0,[]),(none,0,[]),(none,0,[]),(none,0,[]),(none,1,[]),(none,0,[true]),(none,1,[false]),(some 1,0,[true,true])] [⟨fun _ => slA (some ⟨bc0,0,none⟩) (0 + 0),fun _ => noR,fun _ => []⟩,⟨fun _ => .slice A100_0 cap0.fB.length c100_0,fun _ => noR,fun _ => []⟩,⟨fun _ => slA (some ⟨bc0,0,none⟩) (0 + 1),fun _ => noR,fun _ => []⟩,⟨fun _ => .slice A100_1 cap0.fR.length c100_1,fun _ => noR,fun _ => []⟩,⟨fun ξ1 => .slice (ξ1 4 0).1 y2.length (ξ1 4 0).2.2.1,fun _ => noR,fun ξ1 => [aP (ξ1 4 0).1 (ξ1 4 0).2.2.1 65 5 y2.length (encL ay y2)]⟩,⟨fun ξ1 => .agg #[.slice A100_0 cap0.fB.length c100_0,.slice (ξ1 4 0).1 y2.length (ξ1 4 0).2.2.1],fun _ => noR,fun _ => []⟩,⟨fun ξ1 => .pointer (some ⟨(ξ1 6 0).2.1,0,none⟩),fun _ => noR,fun ξ1 => [ai (ξ1 6 0).2.1 53 [.slice none 0 0,.slice none 0 0]]⟩,⟨fun _ => undef,fun ξ1 => ai (ξ1 6 0).2.1 53 [.slice A100_0 cap0.fB.length c100_0,.slice (ξ1 4 0).1 y2.length (ξ1 4 0).2.2.1],fun _ => []⟩] 0 dE (by kernel_rfl) (by kernel_rfl) ⟨⟨fun ξ1 ξ1' h => ⟨rfl,rfl,rfl⟩,fun _ => rfl⟩,⟨fun ξ1 ξ1' h => ⟨rfl,rfl,rfl⟩,fun _ => rfl⟩,⟨fun ξ1 ξ1' h => ⟨rfl,rfl,rfl⟩,fun _ => rfl⟩,⟨fun ξ1 ξ1' h => ⟨rfl,rfl,rfl⟩,fun _ => rfl⟩,⟨fun ξ1 ξ1' h => ⟨by simp only [h 4 (.inl rfl)],rfl,by simp only [h 4 (.inl rfl)]⟩,fun _ => rfl⟩,⟨fun ξ1 ξ1' h => ⟨by simp only [h 4 (.inr rfl)],rfl,rfl⟩,fun _ => rfl⟩,⟨fun ξ1 ξ1' h => ⟨by simp only [h 6 (.inl rfl)],rfl,by simp only [h 6 (.inl rfl)]⟩,fun _ => rfl⟩,⟨fun ξ1 ξ1' h => ⟨rfl,by simp only [h 4 (.inr rfl),h 6 (.inr rfl)],rfl⟩,fun _ => rfl⟩,trivial⟩ rfl (fun ξ1 => ?_)
 refine cq rfl (fun L2 => ?_) ?_
 ·dsimp only [aF,lca,lna]
  refine oY rfl (yFR (A:=(some ⟨bc0,0,none⟩)) (j:=0) dU rfl) (oN ?_)
  exact ar (fun _ => (none,0,0,[],noR)) rfl (List.append_nil _)
 dsimp only [bJ,lsz,lss,lna,lca,List.append_nil]
 refine cq rfl (fun L2 => ?_) ?_
 ·dsimp only [aF,lca,lna]
  refine oY rfl (yR (A:=(some ⟨bc0,0,none⟩)) (j:=(0 + 0)) (v:=.slice A100_0 cap0.fB.length c100_0) jD (RdL.arg hcap0) rfl rfl) (oN ?_)
  exact ar (fun _ => (none,0,0,[],noR)) rfl (List.append_nil _)
 dsimp only [bJ,lsz,lss,lna,lca,List.append_nil]
 refine cq rfl (fun L2 => ?_) ?_
 ·dsimp only [aF,lca,lna]
  refine oY rfl (yFR (A:=(some ⟨bc0,0,none⟩)) (j:=0) bV rfl) (oN ?_)
  exact ar (fun _ => (none,0,0,[],noR)) rfl (List.append_nil _)
 dsimp only [bJ,lsz,lss,lna,lca,List.append_nil]
 refine cq rfl (fun L2 => ?_) ?_
 ·dsimp only [aF,lca,lna]
  refine oY rfl (yR (A:=(some ⟨bc0,0,none⟩)) (j:=(0 + 1)) (v:=.slice A100_1 cap0.fR.length c100_1) f9 (RdL.arg hcap0) rfl rfl) (oN ?_)
  exact ar (fun _ => (none,0,0,[],noR)) rfl (List.append_nil _)
 dsimp only [bJ,lsz,lss,lna,lca,List.append_nil]
 refine cq rfl (fun L2 => ?_) ?_
 ·dsimp only [aF,lca,lna]
  refine oC [.slice A100_1 cap0.fR.length c100_1] _ _ _ rfl go_115 rfl (fun W2 hW2 => g7 cap0.fR y2 hy3 W2 A100_1 cap0.fR.length c100_1 rfl ((RdL.arg hr100_1) W2 hW2)) ?_
  rintro ⟨A4,n6,c5⟩ hn7
  replace hn7 : n6 = y2.length:=hn7; subst hn7
  refine oN ?_
  exact ar (fun _ => (A4,0,c5,[],noR)) rfl rfl
 dsimp only [bJ,lsz,lss,lna,lca,List.append_nil]
 refine cq rfl (fun L2 => ?_) ?_
 ·dsimp only [aF,lca,lna]
  refine oY rfl (bc [.slice A100_0 cap0.fB.length c100_0,.slice (ξ1 4 0).1 y2.length (ξ1 4 0).2.2.1] [(0,1),(1,1)] tx pZ (by kernel_rfl)) ?_
  refine oN ?_
  exact ar (fun _ => (none,0,0,[],noR)) rfl (List.append_nil _)
 dsimp only [bJ,lsz,lss,lna,lca,List.append_nil]
 refine cq rfl (fun L2 => ?_) ?_
 ·dsimp only [aF,lca,lna]
  refine aB pZ rfl (fun b8 => ?_)
  refine oN ?_
  exact ar (fun _ => (none,b8,0,[],noR)) rfl rfl
 dsimp only [bJ,lsz,lss,lna,lca,List.append_nil]
 refine sf rfl (fun L2 => ?_) ?_
 ·dsimp only [aF,lca,lna]
  refine cJ rfl (yS 1 [.slice A100_0 cap0.fB.length c100_0,.slice (ξ1 4 0).1 y2.length (ξ1 4 0).2.2.1] sz_53 rfl (nB rfl) rfl rfl rfl) (oN ?_)
  first | exact bL (fun _ => (none,0,0,[],noR)) rfl | exact bL (fun _ => (none,0,0,[],noR)) (List.append_nil _)
 dsimp only [bJ,lsz,lss,lna,lca,List.append_nil]
 refine k7 (eT (cS (cR (oY rfl (yFA bV rfl) (oY rfl (yL 1 f9 rfl rfl rfl) (oY rfl (yR (A:=(some ⟨bc1,0,none⟩)) (j:=0) (v:=vI cap1) a8 (RdL.arg hcap1) rfl rfl) (oY rfl (yMI rfl) ?_)))))))
 obtain ⟨hg9,h⟩:=gOs h
 refine oY rfl (yI jE (by decide) hg9.1 hg9.2 (RdL.row 0 rfl) (eL am rfl) rfl rfl) ?_
 refine oY rfl (yFR (A:=(ξ1 4 0).1) (j:=(Int.toNat cap1 * 5)) iv rfl) ?_
 refine cJ rfl (rX 0 (xs:=y2) am (TO.mk ((rdL y2 cap1).fID) (TSpan.mk ((rdL y2 cap1).fH.fLo) ((rdL y2 cap1).fH.fHi)) ((rdL y2 cap1).fD) p0) 4 (by decide) p7 rfl hg9.1 (ap hg9.2 rfl) rfl rfl rfl rfl) ?_
 refine oN (eT (cS (cR (oY rfl (yN 1 [.slice A100_0 cap0.fB.length c100_0,.slice (ξ1 4 0).1 y2.length (ξ1 4 0).2.2.1] dc rfl rfl rfl) ?_))))
 obtain ⟨y10,hy11,h⟩:=bOs h
 refine oY rfl (yC [.agg #[.slice A100_0 cap0.fB.length c100_0,.slice (ξ1 4 0).1 y2.length (ξ1 4 0).2.2.1]] rz rfl (fun W2 hW2 => eo (TY.mk cap0.fB (y2.set (Int.toNat cap1) (TO.mk ((rdL y2 cap1).fID) (TSpan.mk ((rdL y2 cap1).fH.fLo) ((rdL y2 cap1).fH.fHi)) ((rdL y2 cap1).fD) p0))) y10 hy11 W2 A100_0 cap0.fB.length c100_0 rfl ((RdL.arg hr100_0) W2 hW2) (ξ1 4 0).1 y2.length (ξ1 4 0).2.2.1 (fg rfl) ((RdL.row 0 rfl) W2 hW2)) rfl) (oY rfl (yAI rfl) (oN (eT (ak ?_))))
 obtain rfl:=sI h
 exact aj (.inl rfl) rfl (rVt (v:=vI y10) rfl) (fun W2 hW2 => ⟨rfl,hW2.none⟩)
theorem jL (p0:TY) (cap0:Int) (res:(List Int)) (h:fv p0 cap0 = some res) (W:World) (Aa:Option Addr) (n0_0 ca : Nat) (hn0_0:n0_0 = p0.fB.length) (hr0_0:Rd W Aa n0_0 ca (encL aA p0.fB)) (Ab:Option Addr) (n0_1 cb : Nat) (hn0_1:n0_1 = p0.fR.length) (hr0_1:Rd W Ab n0_1 cb (encL ay p0.fR)) (bc0:Nat) (hcap0:Rd W (some ⟨bc0,0,none⟩) 1 1 (cI cap0)) :
  Calls Tryz.prog 84 [.agg #[.slice Aa n0_0 ca,.slice Ab n0_1 cb],.func (.func 85) #[] #[.pointer (some ⟨bc0,0,none⟩)]].toArray W fun e W2 => ∃ x : Option Addr × Nat × Nat,x.2.1 = res.length ∧ e = .returned (.slice x.1 x.2.1 x.2.2) ∧ Ext W W2 [aP x.1 x.2.2 3 1 x.2.1 (encL cI res)]:=by
 subst hn0_0
 subst hn0_1
 unfold fv at h
 refine ab (m:=31) Tryz.func84 rfl rfl (nB rfl) (cS (cR ?_))
 refine aN [.slice Aa p0.fB.length ca,.slice Ab p0.fR.length cb] rfl rfl rfl (fun b1 => ?_)
 refine oY rfl (yAS rfl) (oN (eT (cS (cR (oY rfl (yAS rfl) (oN (eT (cS (cS (cR (oY rfl (yFA bV rfl) (oY rfl (yL 0 f9 rfl rfl rfl) (oY rfl (bk (us:=[]) kG rfl) (oY rfl (yMI rfl) (oN (eT (cB ?_)))))))))))))))))
 obtain ⟨u5,hl18,h⟩:=bOs h
 refine dv 3 1 ?_
 refine bv (fun (s:(Int × (List Int))) L tm => ∃ (tm0:Nat → Value) (A1_s:Option Addr) (c1_s:Nat) (n1_s:Nat),n1_s = s.2.length ∧ L = [ai b1 53 [.slice Aa p0.fB.length ca,.slice Ab p0.fR.length cb],aP A1_s c1_s 3 1 n1_s (encL cI s.2)] ∧ tm = (upd (upd (upd (upd (upd (upd (upd tm0 1 (.func (.func 85) #[] #[slA (some ⟨bc0,0,none⟩) 0])) 2 (.pointer (some ⟨b1,0,none⟩))) 4 (.slice none 0 0)) 5 (.slice A1_s n1_s c1_s)) 10 (.slice Ab p0.fR.length cb)) 11 (vI (p0.fR.length:Int))) 12 (vI s.1))) 0 hl18 ⟨_,none,0,0,rfl,rfl,(kp4 (kp (kp (kp rfl))))⟩ ?_ ?_
 ·rintro s4 L tm st ⟨tm0_s4,A1_s4,c1_s4,n1_s4,rfl,rfl,rfl⟩ h
  unfold gk at h
  refine cS (cR (oY rfl (bl rfl rfl) (oN (eT (cS ?_)))))
  rcases iOs h with ⟨hp6,h⟩ | ⟨hp6,h⟩
  ·refine cT (vB hp6) (cK (eT (cS (cB (cS (cR (oY rfl (yMI rfl) ?_)))))))
   obtain ⟨hg7,h⟩:=gOs h
   refine oY rfl (yI jE (by decide) hg7.1 hg7.2 (RdL.arg hr0_1) (eL am rfl) rfl rfl) ?_
   refine oY rfl (yM (A:=Ab) (j:=(Int.toNat s4.1 * 5)) [vI ((rdL p0.fR s4.1).fID),vI ((rdL p0.fR s4.1).fH.fLo),vI ((rdL p0.fR s4.1).fH.fHi),vI ((rdL p0.fR s4.1).fD),vI ((rdL p0.fR s4.1).fW)] pr (Nat.succ_pos _) (RdL.arg hr0_1) rfl (bh am hg7.1 (ap hg7.2 rfl))) ?_
   refine aB mh rfl (fun b8 => ?_)
   refine aB nK rfl (fun b9 => ?_)
   refine cJ rfl (df 2 (v:=vI s4.1) p7 rfl (Nat.lt_of_lt_of_le (Nat.lt_succ_self _) (nB rfl)) rfl rfl rfl) (cJ rfl (yS 3 [vI ((rdL p0.fR s4.1).fID),vI ((rdL p0.fR s4.1).fH.fLo),vI ((rdL p0.fR s4.1).fH.fHi),vI ((rdL p0.fR s4.1).fD),vI ((rdL p0.fR s4.1).fW)] sz_65 rfl (nB rfl) rfl rfl rfl) (oN (eT (cS (cR (oY rfl (bP [.pointer (some ⟨b1,0,none⟩),.pointer (some ⟨b8,0,none⟩)] rfl rfl) (oY rfl (ef rfl) (oN (eT (cS (cR (oY rfl (c8 rfl) (oY rfl (yN 3 [vI ((rdL p0.fR s4.1).fID),vI ((rdL p0.fR s4.1).fH.fLo),vI ((rdL p0.fR s4.1).fH.fHi),vI ((rdL p0.fR s4.1).fD),vI ((rdL p0.fR s4.1).fW)] pr rfl rfl rfl) (oY rfl (c8 rfl) ?_))))))))))))))
   obtain ⟨y11,hy12,h⟩:=bOs h
   refine oY rfl (nf (caps:=[slA (some ⟨bc0,0,none⟩) 0]) [.agg #[vI ((rdL p0.fR s4.1).fID),vI ((rdL p0.fR s4.1).fH.fLo),vI ((rdL p0.fR s4.1).fH.fHi),vI ((rdL p0.fR s4.1).fD),vI ((rdL p0.fR s4.1).fW)],.func (.func 131) #[] #[.pointer (some ⟨b1,0,none⟩),.pointer (some ⟨b8,0,none⟩)]] go_85 rfl rfl (fun W2 hW2 => mr (TO.mk ((rdL p0.fR s4.1).fID) (TSpan.mk ((rdL p0.fR s4.1).fH.fLo) ((rdL p0.fR s4.1).fH.fHi)) ((rdL p0.fR s4.1).fD) ((rdL p0.fR s4.1).fW)) (fun x10 => eS x10 p0 s4.1) cap0 y11 hy12 W2 131 [] [.pointer (some ⟨b1,0,none⟩),.pointer (some ⟨b8,0,none⟩)] go_131 (fun W3 hb x y hxy => jX  x p0 s4.1 y hxy W3 b1 Aa p0.fB.length ca rfl (((RdL.arg hr0_0) W2 hW2).later hb) Ab p0.fR.length cb rfl (((RdL.arg hr0_1) W2 hW2).later hb) (((RdL.cells 0 rfl) W2 hW2).later hb) b8 (((RdL.cells 2 rfl) W2 hW2).later hb)) bc0 ((RdL.arg hcap0) W2 hW2))) (oN (eT ?_))
   rcases iOs h with ⟨hp13,h⟩ | ⟨hp13,h⟩
   ·refine cT (vB hp13) (cR (oY rfl (yMS rfl) (oY rfl (yFA jF rfl) (oY rfl (yL 3 a8 rfl rfl rfl) ?_))))
    refine aK 1 (encL cI [(rdL p0.fR s4.1).fID]) _ na cU mh oW (by decide) (by decide) (by kernel_rfl) (eL aD rfl) rfl (fun b14 => ?_)
    obtain ⟨hg17,h⟩:=gOs h
    refine co 1 cU mh oW rfl rfl rfl (RdL.row 4 rfl) (eL aD rfl) (dO nX _) (ex hg17 (by decide)) rfl (fun A15 c16 => ?_)
    refine oY rfl (yAS rfl) (oN (ax (eT (cR (oY rfl (aZ rfl rfl) (oY rfl (yMI rfl) (oN (aT 2 ?_))))))))
    obtain rfl:=sI h
    exact eN ⟨_,A15,c16,(s4.2.length + 1),(iM rfl rfl),rfl,(kp4 (kp (kp (kp rfl))))⟩
   ·refine cF (vB hp13) (cK (ax (eT (cR (oY rfl (aZ rfl rfl) (oY rfl (yMI rfl) (oN (aT 2 ?_))))))))
    obtain rfl:=sI h
    exact eN ⟨_,A1_s4,c1_s4,s4.2.length,rfl,rfl,(kp4 (kp (kp (kp rfl))))⟩
  ·refine cF (vB hp6) (aE (ag ?_))
   obtain rfl:=sI h
   exact aw ⟨rfl,_,A1_s4,c1_s4,s4.2.length,rfl,rfl,(kp4 (kp (kp (kp rfl))))⟩
 ·intro e L tm hJ
  obtain ⟨rfl,tm0_u5,A1_u5,c1_u5,n1_u5,rfl,rfl,rfl⟩:=hJ
  refine ⟨(by intro hc; cases hc),?_⟩
  refine ae (eT (cS (cR (oY rfl (yMS rfl) ?_))))
  obtain ⟨y19,hy20,h⟩:=bOs h
  refine eJ 1 [.slice A1_u5 u5.2.length c1_u5] (fun (_:Unit) => u5.2.length = y19.length) (fun _ => .tuple #[]) (fun _ => aP A1_u5 c1_u5 3 1 u5.2.length (encL cI y19)) (fun _ => []) rfl rfl go_81 rfl (fun W2 hW2 => (dN u5.2 y19 hy20 W2 _ (cE [ai b1 53 [.slice Aa p0.fB.length ca,.slice Ab p0.fR.length cb],aP A1_u5 c1_u5 3 1 u5.2.length (encL cI u5.2)] [1]) A1_u5 u5.2.length c1_u5 rfl hW2).mono (fun e W3 h3 => ⟨(),h3.2.1,h3.1,h3.2.2⟩)) ?_
  rintro - hn21
  try dsimp only [lsz,lss,List.append_nil]
  refine oN (eT (cS (cR (oY rfl (yMS rfl) (oY rfl (yAS rfl) (oN (eT (ak ?_))))))))
  obtain rfl:=sI h
  exact aj (.inl rfl) rfl (rVt (v:=.slice A1_u5 u5.2.length c1_u5) rfl) (fun W2 hW2 => ⟨(A1_u5,u5.2.length,c1_u5),hn21,rfl,(hW2.pick 1 rfl)⟩)
theorem ki (p0:TY) (cap0:Int) (res:(List Int)) (h:fO p0 cap0 = some res) (W:World) (Aa:Option Addr) (n0_0 ca : Nat) (hn0_0:n0_0 = p0.fB.length) (hr0_0:Rd W Aa n0_0 ca (encL aA p0.fB)) (Ab:Option Addr) (n0_1 cb : Nat) (hn0_1:n0_1 = p0.fR.length) (hr0_1:Rd W Ab n0_1 cb (encL ay p0.fR)) (bc0:Nat) (hcap0:Rd W (some ⟨bc0,0,none⟩) 1 1 (cI cap0)) :
  Calls Tryz.prog 84 [.agg #[.slice Aa n0_0 ca,.slice Ab n0_1 cb],.func (.func 88) #[] #[.pointer (some ⟨bc0,0,none⟩)]].toArray W fun e W2 => ∃ x : Option Addr × Nat × Nat,x.2.1 = res.length ∧ e = .returned (.slice x.1 x.2.1 x.2.2) ∧ Ext W W2 [aP x.1 x.2.2 3 1 x.2.1 (encL cI res)]:=by
 subst hn0_0
 subst hn0_1
 unfold fO at h
 refine ab (m:=31) Tryz.func84 rfl rfl (nB rfl) (cS (cR ?_))
 refine aN [.slice Aa p0.fB.length ca,.slice Ab p0.fR.length cb] rfl rfl rfl (fun b1 => ?_)
 refine oY rfl (yAS rfl) (oN (eT (cS (cR (oY rfl (yAS rfl) (oN (eT (cS (cS (cR (oY rfl (yFA bV rfl) (oY rfl (yL 0 f9 rfl rfl rfl) (oY rfl (bk (us:=[]) kG rfl) (oY rfl (yMI rfl) (oN (eT (cB ?_)))))))))))))))))
 obtain ⟨u5,hl18,h⟩:=bOs h
 refine dv 3 1 ?_
 refine bv (fun (s:(Int × (List Int))) L tm => ∃ (tm0:Nat → Value) (A1_s:Option Addr) (c1_s:Nat) (n1_s:Nat),n1_s = s.2.length ∧ L = [ai b1 53 [.slice Aa p0.fB.length ca,.slice Ab p0.fR.length cb],aP A1_s c1_s 3 1 n1_s (encL cI s.2)] ∧ tm = (upd (upd (upd (upd (upd (upd (upd tm0 1 (.func (.func 88) #[] #[slA (some ⟨bc0,0,none⟩) 0])) 2 (.pointer (some ⟨b1,0,none⟩))) 4 (.slice none 0 0)) 5 (.slice A1_s n1_s c1_s)) 10 (.slice Ab p0.fR.length cb)) 11 (vI (p0.fR.length:Int))) 12 (vI s.1))) 0 hl18 ⟨_,none,0,0,rfl,rfl,(kp4 (kp (kp (kp rfl))))⟩ ?_ ?_
 ·rintro s4 L tm st ⟨tm0_s4,A1_s4,c1_s4,n1_s4,rfl,rfl,rfl⟩ h
  unfold gu at h
  refine cS (cR (oY rfl (bl rfl rfl) (oN (eT (cS ?_)))))
  rcases iOs h with ⟨hp6,h⟩ | ⟨hp6,h⟩
  ·refine cT (vB hp6) (cK (eT (cS (cB (cS (cR (oY rfl (yMI rfl) ?_)))))))
   obtain ⟨hg7,h⟩:=gOs h
   refine oY rfl (yI jE (by decide) hg7.1 hg7.2 (RdL.arg hr0_1) (eL am rfl) rfl rfl) ?_
   refine oY rfl (yM (A:=Ab) (j:=(Int.toNat s4.1 * 5)) [vI ((rdL p0.fR s4.1).fID),vI ((rdL p0.fR s4.1).fH.fLo),vI ((rdL p0.fR s4.1).fH.fHi),vI ((rdL p0.fR s4.1).fD),vI ((rdL p0.fR s4.1).fW)] pr (Nat.succ_pos _) (RdL.arg hr0_1) rfl (bh am hg7.1 (ap hg7.2 rfl))) ?_
   refine aB mh rfl (fun b8 => ?_)
   refine aB nK rfl (fun b9 => ?_)
   refine cJ rfl (df 2 (v:=vI s4.1) p7 rfl (Nat.lt_of_lt_of_le (Nat.lt_succ_self _) (nB rfl)) rfl rfl rfl) (cJ rfl (yS 3 [vI ((rdL p0.fR s4.1).fID),vI ((rdL p0.fR s4.1).fH.fLo),vI ((rdL p0.fR s4.1).fH.fHi),vI ((rdL p0.fR s4.1).fD),vI ((rdL p0.fR s4.1).fW)] sz_65 rfl (nB rfl) rfl rfl rfl) (oN (eT (cS (cR (oY rfl (bP [.pointer (some ⟨b1,0,none⟩),.pointer (some ⟨b8,0,none⟩)] rfl rfl) (oY rfl (ef rfl) (oN (eT (cS (cR (oY rfl (c8 rfl) (oY rfl (yN 3 [vI ((rdL p0.fR s4.1).fID),vI ((rdL p0.fR s4.1).fH.fLo),vI ((rdL p0.fR s4.1).fH.fHi),vI ((rdL p0.fR s4.1).fD),vI ((rdL p0.fR s4.1).fW)] pr rfl rfl rfl) (oY rfl (c8 rfl) ?_))))))))))))))
   obtain ⟨y11,hy12,h⟩:=bOs h
   refine oY rfl (nf (caps:=[slA (some ⟨bc0,0,none⟩) 0]) [.agg #[vI ((rdL p0.fR s4.1).fID),vI ((rdL p0.fR s4.1).fH.fLo),vI ((rdL p0.fR s4.1).fH.fHi),vI ((rdL p0.fR s4.1).fD),vI ((rdL p0.fR s4.1).fW)],.func (.func 131) #[] #[.pointer (some ⟨b1,0,none⟩),.pointer (some ⟨b8,0,none⟩)]] go_88 rfl rfl (fun W2 hW2 => mR (TO.mk ((rdL p0.fR s4.1).fID) (TSpan.mk ((rdL p0.fR s4.1).fH.fLo) ((rdL p0.fR s4.1).fH.fHi)) ((rdL p0.fR s4.1).fD) ((rdL p0.fR s4.1).fW)) (fun x10 => eS x10 p0 s4.1) cap0 y11 hy12 W2 131 [] [.pointer (some ⟨b1,0,none⟩),.pointer (some ⟨b8,0,none⟩)] go_131 (fun W3 hb x y hxy => jX  x p0 s4.1 y hxy W3 b1 Aa p0.fB.length ca rfl (((RdL.arg hr0_0) W2 hW2).later hb) Ab p0.fR.length cb rfl (((RdL.arg hr0_1) W2 hW2).later hb) (((RdL.cells 0 rfl) W2 hW2).later hb) b8 (((RdL.cells 2 rfl) W2 hW2).later hb)) bc0 ((RdL.arg hcap0) W2 hW2))) (oN (eT ?_))
   rcases iOs h with ⟨hp13,h⟩ | ⟨hp13,h⟩
   ·refine cT (vB hp13) (cR (oY rfl (yMS rfl) (oY rfl (yFA jF rfl) (oY rfl (yL 3 a8 rfl rfl rfl) ?_))))
    refine aK 1 (encL cI [(rdL p0.fR s4.1).fID]) _ na cU mh oW (by decide) (by decide) (by kernel_rfl) (eL aD rfl) rfl (fun b14 => ?_)
    obtain ⟨hg17,h⟩:=gOs h
    refine co 1 cU mh oW rfl rfl rfl (RdL.row 4 rfl) (eL aD rfl) (dO nX _) (ex hg17 (by decide)) rfl (fun A15 c16 => ?_)
    refine oY rfl (yAS rfl) (oN (ax (eT (cR (oY rfl (aZ rfl rfl) (oY rfl (yMI rfl) (oN (aT 2 ?_))))))))
    obtain rfl:=sI h
    exact eN ⟨_,A15,c16,(s4.2.length + 1),(iM rfl rfl),rfl,(kp4 (kp (kp (kp rfl))))⟩
   ·refine cF (vB hp13) (cK (ax (eT (cR (oY rfl (aZ rfl rfl) (oY rfl (yMI rfl) (oN (aT 2 ?_))))))))
    obtain rfl:=sI h
    exact eN ⟨_,A1_s4,c1_s4,s4.2.length,rfl,rfl,(kp4 (kp (kp (kp rfl))))⟩
  ·refine cF (vB hp6) (aE (ag ?_))
   obtain rfl:=sI h
   exact aw ⟨rfl,_,A1_s4,c1_s4,s4.2.length,rfl,rfl,(kp4 (kp (kp (kp rfl))))⟩
 ·intro e L tm hJ
  obtain ⟨rfl,tm0_u5,A1_u5,c1_u5,n1_u5,rfl,rfl,rfl⟩:=hJ
  refine ⟨(by intro hc; cases hc),?_⟩
  refine ae (eT (cS (cR (oY rfl (yMS rfl) ?_))))
  obtain ⟨y19,hy20,h⟩:=bOs h
  refine eJ 1 [.slice A1_u5 u5.2.length c1_u5] (fun (_:Unit) => u5.2.length = y19.length) (fun _ => .tuple #[]) (fun _ => aP A1_u5 c1_u5 3 1 u5.2.length (encL cI y19)) (fun _ => []) rfl rfl go_81 rfl (fun W2 hW2 => (dN u5.2 y19 hy20 W2 _ (cE [ai b1 53 [.slice Aa p0.fB.length ca,.slice Ab p0.fR.length cb],aP A1_u5 c1_u5 3 1 u5.2.length (encL cI u5.2)] [1]) A1_u5 u5.2.length c1_u5 rfl hW2).mono (fun e W3 h3 => ⟨(),h3.2.1,h3.1,h3.2.2⟩)) ?_
  rintro - hn21
  try dsimp only [lsz,lss,List.append_nil]
  refine oN (eT (cS (cR (oY rfl (yMS rfl) (oY rfl (yAS rfl) (oN (eT (ak ?_))))))))
  obtain rfl:=sI h
  exact aj (.inl rfl) rfl (rVt (v:=.slice A1_u5 u5.2.length c1_u5) rfl) (fun W2 hW2 => ⟨(A1_u5,u5.2.length,c1_u5),hn21,rfl,(hW2.pick 1 rfl)⟩)
theorem nI (p0:TY) (res:((List Int) × Int)) (h:kD p0 = some res) (W:World) (Aa:Option Addr) (n0_0 ca : Nat) (hn0_0:n0_0 = p0.fB.length) (hr0_0:Rd W Aa n0_0 ca (encL aA p0.fB)) (Ab:Option Addr) (n0_1 cb : Nat) (hn0_1:n0_1 = p0.fR.length) (hr0_1:Rd W Ab n0_1 cb (encL ay p0.fR)) :
  Calls Tryz.prog 27 [.agg #[.slice Aa n0_0 ca,.slice Ab n0_1 cb]].toArray W fun e W2 => ∃ x : Option Addr × Nat × Nat,x.2.1 = res.1.length ∧ e = .returned (.tuple #[.slice x.1 x.2.1 x.2.2,vI res.2]) ∧ Ext W W2 [aP x.1 x.2.2 3 1 x.2.1 (encL cI res.1)]:=by
 subst hn0_0
 subst hn0_1
 unfold kD at h
 refine ab (m:=16) Tryz.func27 rfl rfl (nB rfl) (cS (cR ?_))
 refine aN [.slice Aa p0.fB.length ca,.slice Ab p0.fR.length cb] rfl rfl rfl (fun b1 => ?_)
 refine oY rfl (yAS rfl) (oY rfl (yAI rfl) (oN (eT (cS (cS (cR (oY rfl (yN 0 [.slice Aa p0.fB.length ca,.slice Ab p0.fR.length cb] dc rfl rfl rfl) ?_)))))))
 obtain ⟨y2,hy3,h⟩:=bOs h
 refine oY rfl (yC [.agg #[.slice Aa p0.fB.length ca,.slice Ab p0.fR.length cb]] sV rfl (fun W2 hW2 => du p0 y2 hy3 W2 Aa p0.fB.length ca rfl ((RdL.arg hr0_0) W2 hW2) Ab p0.fR.length cb rfl ((RdL.arg hr0_1) W2 hW2)) rfl) (oY rfl (yAI rfl) (oN (eT (cS (cR (oY rfl (yMI rfl) (oY rfl (dD rfl rfl) (oN (eT ?_)))))))))
 rcases iOs h with ⟨hp4,h⟩ | ⟨hp4,h⟩
 ·refine cT (vB hp4) (cS (cR (oY rfl (yMI rfl) (oY rfl (yAS rfl) (oY rfl (yAI rfl) (oN (eT (ak (aa ?_)))))))))
  obtain rfl:=sI h
  exact bD (.inl rfl) rfl (rVt (v:=.slice none 0 0) rfl) (rVt (v:=vI y2) rfl) (fun W2 hW2 => ⟨(none,0,0),rfl,rfl,((hW2.nilrow 3 1).pick 1 rfl)⟩)
 ·refine cF (vB hp4) (cK (eT (cS (cR (oY rfl (yN 0 [.slice Aa p0.fB.length ca,.slice Ab p0.fR.length cb] dc rfl rfl rfl) ?_)))))
  obtain ⟨y5,hy6,h⟩:=bOs h
  refine oY rfl (yC [.agg #[.slice Aa p0.fB.length ca,.slice Ab p0.fR.length cb]] rz rfl (fun W2 hW2 => eo p0 y5 hy6 W2 Aa p0.fB.length ca rfl ((RdL.arg hr0_0) W2 hW2) Ab p0.fR.length cb rfl ((RdL.arg hr0_1) W2 hW2)) rfl) ?_
  refine aB mh rfl (fun b7 => ?_)
  refine cJ rfl (df 1 (v:=vI y5) p7 rfl (Nat.lt_of_lt_of_le (Nat.lt_succ_self _) (nB rfl)) rfl rfl rfl) (oN (eT (cS (cR (oY rfl (yN 0 [.slice Aa p0.fB.length ca,.slice Ab p0.fR.length cb] dc rfl rfl rfl) (oY rfl (bP [.pointer (some ⟨b7,0,none⟩)] rfl rfl) ?_))))))
  obtain ⟨y8,hy9,h⟩:=bOs h
  refine oC [.agg #[.slice Aa p0.fB.length ca,.slice Ab p0.fR.length cb],.func (.func 85) #[] #[.pointer (some ⟨b7,0,none⟩)]] _ _ _ rfl go_84 rfl (fun W2 hW2 => jL p0 y5 y8 hy9 W2 Aa p0.fB.length ca rfl ((RdL.arg hr0_0) W2 hW2) Ab p0.fR.length cb rfl ((RdL.arg hr0_1) W2 hW2) b7 ((RdL.cells 1 rfl) W2 hW2)) ?_
  rintro ⟨A12,n10,c13⟩ hn11
  replace hn11 : n10 = y8.length:=hn11; subst hn11
  refine oY rfl (yAS rfl) (oY rfl (yAI rfl) (oN (eT (ak ?_))))
  obtain rfl:=sI h
  exact bD (.inl rfl) rfl (rVt (v:=.slice A12 y8.length c13) rfl) (rVt (v:=vI 0) rfl) (fun W2 hW2 => ⟨(A12,y8.length,c13),rfl,rfl,(hW2.pick 2 rfl)⟩)
theorem oQ (p0:TY) (res:((List Int) × Int)) (h:lW p0 = some res) (W:World) (Aa:Option Addr) (n0_0 ca : Nat) (hn0_0:n0_0 = p0.fB.length) (hr0_0:Rd W Aa n0_0 ca (encL aA p0.fB)) (Ab:Option Addr) (n0_1 cb : Nat) (hn0_1:n0_1 = p0.fR.length) (hr0_1:Rd W Ab n0_1 cb (encL ay p0.fR)) :
  Calls Tryz.prog 29 [.agg #[.slice Aa n0_0 ca,.slice Ab n0_1 cb]].toArray W fun e W2 => ∃ x : Option Addr × Nat × Nat,x.2.1 = res.1.length ∧ e = .returned (.tuple #[.slice x.1 x.2.1 x.2.2,vI res.2]) ∧ Ext W W2 [aP x.1 x.2.2 3 1 x.2.1 (encL cI res.1)]:=by
 subst hn0_0
 subst hn0_1
 unfold lW at h
 refine ab (m:=16) Tryz.func29 rfl rfl (nB rfl) (cS (cR ?_))
 refine aN [.slice Aa p0.fB.length ca,.slice Ab p0.fR.length cb] rfl rfl rfl (fun b1 => ?_)
 refine oY rfl (yAS rfl) (oY rfl (yAI rfl) (oN (eT (cS (cS (cR (oY rfl (yN 0 [.slice Aa p0.fB.length ca,.slice Ab p0.fR.length cb] dc rfl rfl rfl) ?_)))))))
 obtain ⟨y2,hy3,h⟩:=bOs h
 refine oY rfl (yC [.agg #[.slice Aa p0.fB.length ca,.slice Ab p0.fR.length cb]] sV rfl (fun W2 hW2 => du p0 y2 hy3 W2 Aa p0.fB.length ca rfl ((RdL.arg hr0_0) W2 hW2) Ab p0.fR.length cb rfl ((RdL.arg hr0_1) W2 hW2)) rfl) (oY rfl (yAI rfl) (oN (eT (cS (cR (oY rfl (yMI rfl) (oY rfl (dD rfl rfl) (oN (eT ?_)))))))))
 rcases iOs h with ⟨hp4,h⟩ | ⟨hp4,h⟩
 ·refine cT (vB hp4) (cS (cR (oY rfl (yMI rfl) (oY rfl (yAS rfl) (oY rfl (yAI rfl) (oN (eT (ak (aa ?_)))))))))
  obtain rfl:=sI h
  exact bD (.inl rfl) rfl (rVt (v:=.slice none 0 0) rfl) (rVt (v:=vI y2) rfl) (fun W2 hW2 => ⟨(none,0,0),rfl,rfl,((hW2.nilrow 3 1).pick 1 rfl)⟩)
 ·refine cF (vB hp4) (cK (eT (cS (cR (oY rfl (yN 0 [.slice Aa p0.fB.length ca,.slice Ab p0.fR.length cb] dc rfl rfl rfl) ?_)))))
  obtain ⟨y5,hy6,h⟩:=bOs h
  refine oY rfl (yC [.agg #[.slice Aa p0.fB.length ca,.slice Ab p0.fR.length cb]] rz rfl (fun W2 hW2 => eo p0 y5 hy6 W2 Aa p0.fB.length ca rfl ((RdL.arg hr0_0) W2 hW2) Ab p0.fR.length cb rfl ((RdL.arg hr0_1) W2 hW2)) rfl) ?_
  refine aB mh rfl (fun b7 => ?_)
  refine cJ rfl (df 1 (v:=vI y5) p7 rfl (Nat.lt_of_lt_of_le (Nat.lt_succ_self _) (nB rfl)) rfl rfl rfl) (oN (eT (cS (cR (oY rfl (yN 0 [.slice Aa p0.fB.length ca,.slice Ab p0.fR.length cb] dc rfl rfl rfl) (oY rfl (bP [.pointer (some ⟨b7,0,none⟩)] rfl rfl) ?_))))))
  obtain ⟨y8,hy9,h⟩:=bOs h
  refine oC [.agg #[.slice Aa p0.fB.length ca,.slice Ab p0.fR.length cb],.func (.func 88) #[] #[.pointer (some ⟨b7,0,none⟩)]] _ _ _ rfl go_84 rfl (fun W2 hW2 => ki p0 y5 y8 hy9 W2 Aa p0.fB.length ca rfl ((RdL.arg hr0_0) W2 hW2) Ab p0.fR.length cb rfl ((RdL.arg hr0_1) W2 hW2) b7 ((RdL.cells 1 rfl) W2 hW2)) ?_
  rintro ⟨A12,n10,c13⟩ hn11
  replace hn11 : n10 = y8.length:=hn11; subst hn11
  refine oY rfl (yAS rfl) (oY rfl (yAI rfl) (oN (eT (ak ?_))))
  obtain rfl:=sI h
  exact bD (.inl rfl) rfl (rVt (v:=.slice A12 y8.length c13) rfl) (rVt (v:=vI 0) rfl) (fun W2 hW2 => ⟨(A12,y8.length,c13),rfl,rfl,(hW2.pick 2 rfl)⟩)
theorem oy (p0:Int) (cap0:(List (Int × Int))) (cap1:TY) (res:(Bool × (List (Int × Int)))) (h:lR p0 cap0 cap1 = some res) (W:World) (w0:World) (R:Res) (bmc0:Nat) (bc0:Nat) (hcap0:∀ W2,Below w0.heap.size w0 W2 → R.holds W2 → Rd W2 (some ⟨bc0,0,none⟩) 1 1 [.map (some bmc0)]) (bc1:Nat) (A101_0:Option Addr) (n101_0 c101_0 : Nat) (hn101_0:n101_0 = cap1.fB.length) (hr101_0:∀ W2,Below w0.heap.size w0 W2 → R.holds W2 → Rd W2 A101_0 n101_0 c101_0 (encL aA cap1.fB)) (A101_1:Option Addr) (n101_1 c101_1 : Nat) (hn101_1:n101_1 = cap1.fR.length) (hr101_1:∀ W2,Below w0.heap.size w0 W2 → R.holds W2 → Rd W2 A101_1 n101_1 c101_1 (encL ay cap1.fR)) (hcap1:∀ W2,Below w0.heap.size w0 W2 → R.holds W2 → Rd W2 (some ⟨bc1,0,none⟩) 1 1 [.slice A101_0 n101_0 c101_0,.slice A101_1 n101_1 c101_1]) (hW:Ext w0 W [R,mapV Tryz.prog 3 kI dI kI 0 bmc0 cap0]) :
  Calls Tryz.prog 137 [vI p0,.pointer (some ⟨bc0,0,none⟩),.pointer (some ⟨bc1,0,none⟩)].toArray W fun e W2 => ∃ x : Unit,True ∧ e = .returned (.bool res.1) ∧ Ext w0 W2 [R,mapV Tryz.prog 3 kI dI kI 0 bmc0 res.2]:=by
 subst hn101_0
 subst hn101_1
 unfold lR at h
 refine aR (m:=12) Tryz.func137 rfl rfl (nB rfl) hW (cS (cR (oY rfl (yAB rfl) (oN (eT (cS ?_))))))
 refine bA 5 dE (by kernel_rfl) (by kernel_rfl) ?_
 refine qY rfl (yR (A:=(some ⟨bc0,0,none⟩)) (j:=0) (v:=.map (some bmc0)) qF (RdL.under hcap0) rfl rfl) (qY rfl (yM (A:=(some ⟨bc1,0,none⟩)) (j:=0) [.slice A101_0 cap1.fB.length c101_0,.slice A101_1 cap1.fR.length c101_1] dc (Nat.succ_pos _) (RdL.under hcap1) rfl (oV rfl)) (qY rfl (yM (A:=(some ⟨bc1,0,none⟩)) (j:=0) [.slice A101_0 cap1.fB.length c101_0,.slice A101_1 cap1.fR.length c101_1] dc (Nat.succ_pos _) (RdL.under hcap1) rfl (oV rfl)) (qY rfl (yMI rfl) ?_)))
 obtain ⟨y1,hy2,h⟩:=bOs h
 refine qY rfl (yC [.agg #[.slice A101_0 cap1.fB.length c101_0,.slice A101_1 cap1.fR.length c101_1],vI p0] go_90 rfl (fun W2 hW2 => iZ cap1 p0 y1 hy2 W2 A101_0 cap1.fB.length c101_0 rfl ((RdL.under hr101_0) W2 hW2) A101_1 cap1.fR.length c101_1 rfl ((RdL.under hr101_1) W2 hW2)) rfl) (dm ?_)
 obtain ⟨y3,hy4,h⟩:=bOs h
 refine ff [1] [] [.map (some bmc0),.agg #[.slice A101_0 cap1.fB.length c101_0,.slice A101_1 cap1.fR.length c101_1],vI y1] [] (fun (_:Unit) => True) (fun _ => .bool y3.1) (fun _ => [mapV Tryz.prog 3 kI dI kI 0 bmc0 y3.2]) (fun _ => []) (Foc.c1 rfl) (by decide) rfl go_117 rfl rfl (fun _ => rfl) (fun W2 hW2 => ig cap0 cap1 y1 y3 hy4 W2 _ (cE [R,mapV Tryz.prog 3 kI dI kI 0 bmc0 cap0] [1]) bmc0 A101_0 cap1.fB.length c101_0 rfl (fun W3 hb hR => (RdL.under hr101_0) W3 (hW2.restL hb hR)) A101_1 cap1.fR.length c101_1 rfl (fun W3 hb hR => (RdL.under hr101_1) W3 (hW2.restL hb hR)) hW2) ?_
 rintro - -
 try dsimp only [kJ,lsz,lss,List.append_nil]
 refine oY rfl (bE rfl) (oY rfl (yAB rfl) (oN (eT (ak ?_))))
 obtain rfl:=sI h
 exact aj (.inl rfl) rfl (rVt (v:=.bool (!y3.1)) rfl) (fun W2 hW2 => ⟨(),trivial,rfl,hW2.take 2⟩)
theorem fy (p0:(List Int)) (cap0:(List (Int × Int))) (cap1:TY) (res:(Int × (List (Int × Int)))) (h:bZ p0 cap0 cap1 = some res) (W:World) (w0:World) (R:Res) (bmc0:Nat) (Aa:Option Addr) (n0_0 ca : Nat) (hn0_0:n0_0 = p0.length) (hr0_0:∀ W2,Below w0.heap.size w0 W2 → R.holds W2 → Rd W2 Aa n0_0 ca (encL cI p0)) (bc0:Nat) (hcap0:∀ W2,Below w0.heap.size w0 W2 → R.holds W2 → Rd W2 (some ⟨bc0,0,none⟩) 1 1 [.map (some bmc0)]) (bc1:Nat) (A101_0:Option Addr) (n101_0 c101_0 : Nat) (hn101_0:n101_0 = cap1.fB.length) (hr101_0:∀ W2,Below w0.heap.size w0 W2 → R.holds W2 → Rd W2 A101_0 n101_0 c101_0 (encL aA cap1.fB)) (A101_1:Option Addr) (n101_1 c101_1 : Nat) (hn101_1:n101_1 = cap1.fR.length) (hr101_1:∀ W2,Below w0.heap.size w0 W2 → R.holds W2 → Rd W2 A101_1 n101_1 c101_1 (encL ay cap1.fR)) (hcap1:∀ W2,Below w0.heap.size w0 W2 → R.holds W2 → Rd W2 (some ⟨bc1,0,none⟩) 1 1 [.slice A101_0 n101_0 c101_0,.slice A101_1 n101_1 c101_1]) (hW:Ext w0 W [R,mapV Tryz.prog 3 kI dI kI 0 bmc0 cap0]) :
  Calls Tryz.prog 138 [.slice Aa n0_0 ca,.func (.func 137) #[] #[.pointer (some ⟨bc0,0,none⟩),.pointer (some ⟨bc1,0,none⟩)]].toArray W fun e W2 => ∃ x : Unit,True ∧ e = .returned (vI res.1) ∧ Ext w0 W2 [R,mapV Tryz.prog 3 kI dI kI 0 bmc0 res.2]:=by
 subst hn0_0
 subst hn101_0
 subst hn101_1
 unfold bZ at h
 refine aR (m:=19) Tryz.func138 rfl rfl (nB rfl) hW (cS (cR (oY rfl (yAI rfl) (oN (eT (cS (cS (cR (oY rfl (yMS rfl) (oY rfl (bk (us:=[]) cU rfl) (oY rfl (yMI rfl) (oN (eT (cB ?_))))))))))))))
 obtain ⟨u4,hl10,h⟩:=bOs h
 refine bt (fun (s:(Int × Int × (List (Int × Int)))) L tm => ∃ (tm0:Nat → Value),L = [R,mapV Tryz.prog 3 kI dI kI 0 bmc0 s.2.2] ∧ tm = (upd (upd (upd (upd (upd tm0 0 (.slice Aa p0.length ca)) 1 (.func (.func 137) #[] #[slA (some ⟨bc0,0,none⟩) 0,slA (some ⟨bc1,0,none⟩) 0])) 4 (vI s.1)) 7 (vI (p0.length:Int))) 8 (vI s.2.1))) 0 hl10 ⟨_,rfl,(kp4 (kp rfl))⟩ ?_ ?_
 ·rintro s3 L tm st ⟨tm0_s3,rfl,rfl⟩ h
  unfold db at h
  refine cS (cR (oY rfl (bl rfl rfl) (oN (eT (cS ?_)))))
  rcases iOs h with ⟨hp5,h⟩ | ⟨hp5,h⟩
  ·refine cT (vB hp5) (cK (eT (cS (cB (cS (cR (oY rfl (yMI rfl) (oY rfl (yAI rfl) (oN (eT (cS (cR (oY rfl (c8 rfl) (oY rfl (yMS rfl) (oY rfl (yMI rfl) ?_)))))))))))))))
   obtain ⟨hg6,h⟩:=gOs h
   refine oY rfl (yI dz (by decide) hg6.1 hg6.2 (RdL.under hr0_0) (eL aD rfl) rfl rfl) ?_
   refine oY rfl (yR (A:=Aa) (j:=(Int.toNat s3.2.1 * 1)) (v:=vI (rdL p0 s3.2.1)) a8 (RdL.under hr0_0) rfl (aG aD hg6.1 (ap hg6.2 rfl) rfl)) ?_
   obtain ⟨y7,hy8,h⟩:=bOs h
   refine ff [1] [] [vI (rdL p0 s3.2.1)] [slA (some ⟨bc0,0,none⟩) 0,slA (some ⟨bc1,0,none⟩) 0] (fun (_:Unit) => True) (fun _ => .bool y7.1) (fun _ => [mapV Tryz.prog 3 kI dI kI 0 bmc0 y7.2]) (fun _ => []) (Foc.c1 rfl) (by decide) rfl go_137 rfl rfl (fun _ => rfl) (fun W2 hW2 => oy (rdL p0 s3.2.1) s3.2.2 cap1 y7 hy8 W2 _ (cE [R,mapV Tryz.prog 3 kI dI kI 0 bmc0 s3.2.2] [1]) bmc0 bc0 (fun W3 hb hR => (RdL.under hcap0) W3 (hW2.restL hb hR)) bc1 A101_0 cap1.fB.length c101_0 rfl (fun W3 hb hR => (RdL.under hr101_0) W3 (hW2.restL hb hR)) A101_1 cap1.fR.length c101_1 rfl (fun W3 hb hR => (RdL.under hr101_1) W3 (hW2.restL hb hR)) (fun W3 hb hR => (RdL.under hcap1) W3 (hW2.restL hb hR)) hW2) ?_
   rintro - -
   try dsimp only [kJ,lsz,lss,List.append_nil]
   refine oN (eT ?_)
   rcases iOs h with ⟨hp9,h⟩ | ⟨hp9,h⟩
   ·refine cT (vB hp9) (cS (cR (oY rfl (yMI rfl) (oY rfl (yAI rfl) (oN (eT (ak (ah (aa ?_)))))))))
    obtain rfl:=sI h
    exact aw ⟨rfl,_,rfl,(kp4 (kp rfl))⟩
   ·refine cF (vB hp9) (cK (ax (eT (cR (oY rfl (aZ rfl rfl) (oY rfl (yMI rfl) (oN ?_)))))))
    obtain rfl:=sI h
    exact eN ⟨_,rfl,(kp4 (kp rfl))⟩
  ·refine cF (vB hp5) (aE (ag ?_))
   obtain rfl:=sI h
   exact aw ⟨rfl,_,rfl,(kp4 (kp rfl))⟩
 ·intro e L tm hJ
  rcases u4 with u11 | u12
  ·dsimp only at h hJ
   obtain ⟨rfl,tm0_u11,rfl,rfl⟩:=hJ
   refine ⟨(by intro hc; cases hc),?_⟩
   refine ah (aa ?_)
   obtain rfl:=sI h
   exact aj (.inl rfl) rfl (rVt (v:=vI u11.1) rfl) (fun W2 hW2 => ⟨(),trivial,rfl,hW2.take 2⟩)
  ·dsimp only at h hJ
   obtain ⟨rfl,tm0_u12,rfl,rfl⟩:=hJ
   refine ⟨(by intro hc; cases hc),?_⟩
   refine ae (eT (cS (cR (oY rfl (yAI rfl) (oN (eT (ak ?_)))))))
   obtain rfl:=sI h
   exact aj (.inl rfl) rfl (rVt (v:=vI (-1)) rfl) (fun W2 hW2 => ⟨(),trivial,rfl,hW2.take 2⟩)
theorem dV (p0:(List Int)) (p1:Int → Option Bool) (res:Int) (h:bo p0 p1 = some res) (W:World) (Aa:Option Addr) (n0_0 ca : Nat) (hn0_0:n0_0 = p0.length) (hr0_0:Rd W Aa n0_0 ca (encL cI p0)) (fid1:Nat) (fst1 caps1 : List Value) (hgo1:bp Tryz.prog fid1 = true) (hof1:∀ W2,Below W.heap.size W W2 → ∀ x,∀ y,p1 x = some y → Calls Tryz.prog fid1 (fst1 ++ (([vI x] : List Value) ++ caps1)).toArray W2 fun e W3 => e = .returned (.bool y) ∧ Ext W2 W3 []) :
  Calls Tryz.prog 138 [.slice Aa n0_0 ca,.func (.func fid1) fst1.toArray caps1.toArray].toArray W fun e W2 => e = .returned (vI res) ∧ Ext W W2 []:=by
 subst hn0_0
 unfold bo at h
 refine ab (m:=19) Tryz.func138 rfl rfl (nB rfl) (cS (cR (oY rfl (yAI rfl) (oN (eT (cS (cS (cR (oY rfl (yMS rfl) (oY rfl (bk (us:=[]) cU rfl) (oY rfl (yMI rfl) (oN (eT (cB ?_))))))))))))))
 obtain ⟨u3,hl9,h⟩:=bOs h
 refine bt (fun (s:(Int × Int)) L tm => ∃ (tm0:Nat → Value),L = [] ∧ tm = (upd (upd (upd (upd (upd tm0 0 (.slice Aa p0.length ca)) 1 (.func (.func fid1) fst1.toArray caps1.toArray)) 4 (vI s.1)) 7 (vI (p0.length:Int))) 8 (vI s.2))) 0 hl9 ⟨_,rfl,(kp4 (kp rfl))⟩ ?_ ?_
 ·rintro s2 L tm st ⟨tm0_s2,rfl,rfl⟩ h
  unfold bf at h
  refine cS (cR (oY rfl (bl rfl rfl) (oN (eT (cS ?_)))))
  rcases iOs h with ⟨hp4,h⟩ | ⟨hp4,h⟩
  ·refine cT (vB hp4) (cK (eT (cS (cB (cS (cR (oY rfl (yMI rfl) (oY rfl (yAI rfl) (oN (eT (cS (cR (oY rfl (bz (v:=.func (.func fid1) fst1.toArray caps1.toArray) rfl) (oY rfl (yMS rfl) (oY rfl (yMI rfl) ?_)))))))))))))))
   obtain ⟨hg5,h⟩:=gOs h
   refine oY rfl (yI dz (by decide) hg5.1 hg5.2 (RdL.arg hr0_0) (eL aD rfl) rfl rfl) ?_
   refine oY rfl (yR (A:=Aa) (j:=(Int.toNat s2.2 * 1)) (v:=vI (rdL p0 s2.2)) a8 (RdL.arg hr0_0) rfl (aG aD hg5.1 (ap hg5.2 rfl) rfl)) ?_
   obtain ⟨y6,hy7,h⟩:=bOs h
   refine oY rfl (f4 [vI (rdL p0 s2.2)] hgo1 rfl rfl (fun W2 hW2 => hof1 W2 hW2.below (rdL p0 s2.2) y6 hy7)) (oN (eT ?_))
   rcases iOs h with ⟨hp8,h⟩ | ⟨hp8,h⟩
   ·refine cT (vB hp8) (cS (cR (oY rfl (yMI rfl) (oY rfl (yAI rfl) (oN (eT (ak (ah (aa ?_)))))))))
    obtain rfl:=sI h
    exact aw ⟨rfl,_,rfl,(kp4 (kp rfl))⟩
   ·refine cF (vB hp8) (cK (ax (eT (cR (oY rfl (aZ rfl rfl) (oY rfl (yMI rfl) (oN ?_)))))))
    obtain rfl:=sI h
    exact eN ⟨_,rfl,(kp4 (kp rfl))⟩
  ·refine cF (vB hp4) (aE (ag ?_))
   obtain rfl:=sI h
   exact aw ⟨rfl,_,rfl,(kp4 (kp rfl))⟩
 ·intro e L tm hJ
  rcases u3 with u10 | u11
  ·dsimp only at h hJ
   obtain ⟨rfl,tm0_u10,rfl,rfl⟩:=hJ
   refine ⟨(by intro hc; cases hc),?_⟩
   refine ah (aa ?_)
   obtain rfl:=sI h
   exact aj (.inl rfl) rfl (rVt (v:=vI u10.1) rfl) (fun W2 hW2 => ⟨rfl,hW2.none⟩)
  ·dsimp only at h hJ
   obtain ⟨rfl,tm0_u11,rfl,rfl⟩:=hJ
   refine ⟨(by intro hc; cases hc),?_⟩
   refine ae (eT (cS (cR (oY rfl (yAI rfl) (oN (eT (ak ?_)))))))
   obtain rfl:=sI h
   exact aj (.inl rfl) rfl (rVt (v:=vI (-1)) rfl) (fun W2 hW2 => ⟨rfl,hW2.none⟩)
theorem jt (p0:(List Int)) (cap0:(List (Int × Int))) (cap1:TY) (res:(Int × (List (Int × Int)))) (h:eP p0 cap0 cap1 = some res) (W:World) (w0:World) (R:Res) (bmc0:Nat) (Aa:Option Addr) (n0_0 ca : Nat) (hn0_0:n0_0 = p0.length) (hr0_0:∀ W2,Below w0.heap.size w0 W2 → R.holds W2 → Rd W2 Aa n0_0 ca (encL cI p0)) (bc0:Nat) (hcap0:∀ W2,Below w0.heap.size w0 W2 → R.holds W2 → Rd W2 (some ⟨bc0,0,none⟩) 1 1 [.map (some bmc0)]) (bc1:Nat) (A101_0:Option Addr) (n101_0 c101_0 : Nat) (hn101_0:n101_0 = cap1.fB.length) (hr101_0:∀ W2,Below w0.heap.size w0 W2 → R.holds W2 → Rd W2 A101_0 n101_0 c101_0 (encL aA cap1.fB)) (A101_1:Option Addr) (n101_1 c101_1 : Nat) (hn101_1:n101_1 = cap1.fR.length) (hr101_1:∀ W2,Below w0.heap.size w0 W2 → R.holds W2 → Rd W2 A101_1 n101_1 c101_1 (encL ay cap1.fR)) (hcap1:∀ W2,Below w0.heap.size w0 W2 → R.holds W2 → Rd W2 (some ⟨bc1,0,none⟩) 1 1 [.slice A101_0 n101_0 c101_0,.slice A101_1 n101_1 c101_1]) (hW:Ext w0 W [R,mapV Tryz.prog 3 kI dI kI 0 bmc0 cap0]) :
  Calls Tryz.prog 136 [.slice Aa n0_0 ca,.func (.func 137) #[] #[.pointer (some ⟨bc0,0,none⟩),.pointer (some ⟨bc1,0,none⟩)]].toArray W fun e W2 => ∃ x : Unit,True ∧ e = .returned (vI res.1) ∧ Ext w0 W2 [R,mapV Tryz.prog 3 kI dI kI 0 bmc0 res.2]:=by
 subst hn0_0
 subst hn101_0
 subst hn101_1
 unfold eP at h
 refine aR (m:=8) Tryz.func136 rfl rfl (nB rfl) hW (cS (cR (oY rfl (yAI rfl) (oN (eT (cS (cR (oY rfl (yMS rfl) (oY rfl (c8 rfl) ?_)))))))))
 obtain ⟨y1,hy2,h⟩:=bOs h
 refine ff [1] [] [.slice Aa p0.length ca,.func (.func 137) #[] #[slA (some ⟨bc0,0,none⟩) 0,slA (some ⟨bc1,0,none⟩) 0]] [] (fun (_:Unit) => True) (fun _ => vI y1.1) (fun _ => [mapV Tryz.prog 3 kI dI kI 0 bmc0 y1.2]) (fun _ => []) (Foc.c1 rfl) (by decide) rfl te rfl rfl (fun _ => rfl) (fun W2 hW2 => fy p0 cap0 cap1 y1 hy2 W2 _ (cE [R,mapV Tryz.prog 3 kI dI kI 0 bmc0 cap0] [1]) bmc0 Aa p0.length ca rfl (fun W3 hb hR => (RdL.under hr0_0) W3 (hW2.restL hb hR)) bc0 (fun W3 hb hR => (RdL.under hcap0) W3 (hW2.restL hb hR)) bc1 A101_0 cap1.fB.length c101_0 rfl (fun W3 hb hR => (RdL.under hr101_0) W3 (hW2.restL hb hR)) A101_1 cap1.fR.length c101_1 rfl (fun W3 hb hR => (RdL.under hr101_1) W3 (hW2.restL hb hR)) (fun W3 hb hR => (RdL.under hcap1) W3 (hW2.restL hb hR)) hW2) ?_
 rintro - -
 try dsimp only [kJ,lsz,lss,List.append_nil]
 refine oY rfl (yAI rfl) (oN (eT (ak ?_)))
 obtain rfl:=sI h
 exact aj (.inl rfl) rfl (rVt (v:=vI y1.1) rfl) (fun W2 hW2 => ⟨(),trivial,rfl,hW2.take 2⟩)
theorem lK (p0:(List Int)) (p1:Int → Option Bool) (res:Int) (h:f0 p0 p1 = some res) (W:World) (Aa:Option Addr) (n0_0 ca : Nat) (hn0_0:n0_0 = p0.length) (hr0_0:Rd W Aa n0_0 ca (encL cI p0)) (fid1:Nat) (fst1 caps1 : List Value) (hgo1:bp Tryz.prog fid1 = true) (hof1:∀ W2,Below W.heap.size W W2 → ∀ x,∀ y,p1 x = some y → Calls Tryz.prog fid1 (fst1 ++ (([vI x] : List Value) ++ caps1)).toArray W2 fun e W3 => e = .returned (.bool y) ∧ Ext W2 W3 []) :
  Calls Tryz.prog 136 [.slice Aa n0_0 ca,.func (.func fid1) fst1.toArray caps1.toArray].toArray W fun e W2 => e = .returned (vI res) ∧ Ext W W2 []:=by
 subst hn0_0
 unfold f0 at h
 refine ab (m:=8) Tryz.func136 rfl rfl (nB rfl) (cS (cR (oY rfl (yAI rfl) (oN (eT (cS (cR (oY rfl (yMS rfl) (oY rfl (bz (v:=.func (.func fid1) fst1.toArray caps1.toArray) rfl) ?_)))))))))
 obtain ⟨y1,hy2,h⟩:=bOs h
 refine oY rfl (yC [.slice Aa p0.length ca,.func (.func fid1) fst1.toArray caps1.toArray] te rfl (fun W2 hW2 => dV p0 p1 y1 hy2 W2 Aa p0.length ca rfl ((RdL.arg hr0_0) W2 hW2) fid1 fst1 caps1 hgo1 (fun W3 hb => hof1 W3 (fI hW2.below hb))) rfl) (oY rfl (yAI rfl) (oN (eT (ak ?_))))
 obtain rfl:=sI h
 exact aj (.inl rfl) rfl (rVt (v:=vI y1) rfl) (fun W2 hW2 => ⟨rfl,hW2.none⟩)
theorem nz (p0:TY) (p1:(List Int)) (res:Bool) (h:mK p0 p1 = some res) (W:World) (Aa:Option Addr) (n0_0 ca : Nat) (hn0_0:n0_0 = p0.fB.length) (hr0_0:Rd W Aa n0_0 ca (encL aA p0.fB)) (Ab:Option Addr) (n0_1 cb : Nat) (hn0_1:n0_1 = p0.fR.length) (hr0_1:Rd W Ab n0_1 cb (encL ay p0.fR)) (Ac:Option Addr) (n1_0 cc : Nat) (hn1_0:n1_0 = p1.length) (hr1_0:Rd W Ac n1_0 cc (encL cI p1)) :
  Calls Tryz.prog 91 [.agg #[.slice Aa n0_0 ca,.slice Ab n0_1 cb],.slice Ac n1_0 cc].toArray W fun e W2 => e = .returned (.bool res) ∧ Ext W W2 []:=by
 subst hn0_0
 subst hn0_1
 subst hn1_0
 unfold mK at h
 refine ab (m:=11) Tryz.func91 rfl rfl (nB rfl) (cS (cR ?_))
 refine aN [.slice Aa p0.fB.length ca,.slice Ab p0.fR.length cb] rfl rfl rfl (fun b1 => ?_)
 refine oY rfl (yAB rfl) (oN (eT (cS (cR ?_))))
 refine jj 3 kI dI kI 0 rfl (fun b2 => ?_)
 refine aB ze_152 rfl (fun b3 => ?_)
 refine cJ rfl (df 2 (v:=.map (some b2)) sz_152 rfl (Nat.lt_of_lt_of_le (Nat.lt_succ_self _) (nB rfl)) rfl rfl rfl) (oN (eT (cS (cR (oY rfl (yMS rfl) (oY rfl (bP [.pointer (some ⟨b3,0,none⟩),.pointer (some ⟨b1,0,none⟩)] rfl rfl) ?_))))))
 obtain ⟨y4,hy5,h⟩:=bOs h
 refine ff [1] [] [.slice Ac p1.length cc,.func (.func 137) #[] #[.pointer (some ⟨b3,0,none⟩),.pointer (some ⟨b1,0,none⟩)]] [] (fun (_:Unit) => True) (fun _ => vI y4.1) (fun _ => [mapV Tryz.prog 3 kI dI kI 0 b2 y4.2]) (fun _ => []) (Foc.c1 rfl) (by decide) rfl go_136 rfl rfl (fun _ => rfl) (fun W2 hW2 => jt p1 [] p0 y4 hy5 W2 _ (cE [ai b1 53 [.slice Aa p0.fB.length ca,.slice Ab p0.fR.length cb],mapV Tryz.prog 3 kI dI kI 0 b2 [],ai b3 152 [.map (some b2)]] [1]) b2 Ac p1.length cc rfl (fun W3 hb hR => (RdL.arg hr1_0) W3 (hW2.restL hb hR)) b3 (fun W3 hb hR => (RdL.cells 2 rfl) W3 (hW2.restL hb hR)) b1 Aa p0.fB.length ca rfl (fun W3 hb hR => (RdL.arg hr0_0) W3 (hW2.restL hb hR)) Ab p0.fR.length cb rfl (fun W3 hb hR => (RdL.arg hr0_1) W3 (hW2.restL hb hR)) (fun W3 hb hR => (RdL.cells 0 rfl) W3 (hW2.restL hb hR)) hW2) ?_
 rintro - -
 try dsimp only [kJ,lsz,lss,List.append_nil]
 refine oY rfl (bl rfl rfl) (oY rfl (yAB rfl) (oN (eT (ak ?_))))
 obtain rfl:=sI h
 exact aj (.inl rfl) rfl (rVt (v:=.bool (decide (y4.1 < 0))) rfl) (fun W2 hW2 => ⟨rfl,hW2.none⟩)
theorem dB (p0:(List Int)) (res:(List Int)) (h:bG p0 = some res) (W:World) (Aa:Option Addr) (n0_0 ca : Nat) (hn0_0:n0_0 = p0.length) (hr0_0:Rd W Aa n0_0 ca (encL cI p0)) :
  Calls Tryz.prog 92 [.slice Aa n0_0 ca].toArray W fun e W2 => ∃ x : Option Addr × Nat × Nat,x.2.1 = res.length ∧ e = .returned (.slice x.1 x.2.1 x.2.2) ∧ Ext W W2 [aP x.1 x.2.2 3 1 x.2.1 (encL cI res)]:=by
 subst hn0_0
 unfold bG at h
 refine ab (m:=8) Tryz.func92 rfl rfl (nB rfl) (cS (cR (oY rfl (yAS rfl) (oN (eT (cS (cS (cR (oY rfl (yMS rfl) (oY rfl (oU cU rfl rfl) (oN (eT ?_))))))))))))
 rcases al (Option.isNone Aa) with hp1 | hp1
 ·refine cT (vB hp1) ?_
  have z6:=o5 (Option.isNone_iff_eq_none.1 hp1 ▸ hr0_0) aD (by decide)
  replace h:=(gOs h).2
  rw [z6] at h
  refine cS (cR (oY rfl (yAS rfl) (oN (eT (ak (aa ?_))))))
  obtain rfl:=sI h
  exact aj (.inl rfl) rfl (rVt (v:=.slice none 0 0) rfl) (fun W2 hW2 => ⟨(none,0,0),rfl,rfl,((hW2.nilrow 3 1).pick 0 rfl)⟩)
 ·refine cF (vB hp1) (cK (eT (cS (cR ?_))))
  refine f5 cI cU mh oW rfl (fun b2 => ?_)
  refine oY rfl (yMS rfl) ?_
  obtain ⟨hg5,h⟩:=gOs h
  refine co 0 cU mh oW rfl rfl rfl (RdL.arg hr0_0) (eL aD rfl) (dO nX _) (ex hg5 (by decide)) rfl (fun A3 c4 => ?_)
  refine oY rfl (yAS rfl) (oN (eT (ak ?_)))
  obtain rfl:=sI h
  exact aj (.inl rfl) rfl (rVt (v:=.slice A3 (0 + p0.length) c4) rfl) (fun W2 hW2 => ⟨(A3,(0 + p0.length),c4),(iM rfl rfl),rfl,(hW2.pick 0 rfl)⟩)
theorem gz (p0:(List Int)) (p1:Int → Option Bool) (res:(List Int)) (h:cX p0 p1 = some res) (W:World) (w0:World) (R:Res) (Aa:Option Addr) (n0_0 ca : Nat) (hn0_0:n0_0 = p0.length) (fid1:Nat) (fst1 caps1 : List Value) (hgo1:bp Tryz.prog fid1 = true) (hof1:∀ W2,Below w0.heap.size w0 W2 → R.holds W2 → ∀ x,∀ y,p1 x = some y → Calls Tryz.prog fid1 (fst1 ++ (([vI x] : List Value) ++ caps1)).toArray W2 fun e W3 => e = .returned (.bool y) ∧ Ext W2 W3 []) (hW:Ext w0 W [R,aP Aa ca 3 1 n0_0 (encL cI p0)]) :
  Calls Tryz.prog 93 [.slice Aa n0_0 ca,.func (.func fid1) fst1.toArray caps1.toArray].toArray W fun e W2 => ∃ k : Nat,k = res.length ∧ e = .returned (.slice Aa k ca) ∧ Ext w0 W2 [R,aP Aa ca 3 1 k (encL cI res)]:=by
 subst hn0_0
 unfold cX at h
 refine aR (m:=42) Tryz.func93 rfl rfl (nB rfl) hW (cS (cR (oY rfl (yAS rfl) (oN (eT (cS (cR (oY rfl (yMS rfl) (oY rfl (bz (v:=.func (.func fid1) fst1.toArray caps1.toArray) rfl) ?_)))))))))
 obtain ⟨y1,hy2,h⟩:=bOs h
 refine oY rfl (yC [.slice Aa p0.length ca,.func (.func fid1) fst1.toArray caps1.toArray] te rfl (fun W2 hW2 => dV p0 p1 y1 hy2 W2 Aa p0.length ca rfl ((RdL.row 1 rfl) W2 hW2) fid1 fst1 caps1 hgo1 (fun W3 hb => hof1 W3 (fI hW2.below hb) ((hW2.below' hb).mem (i:=0) rfl))) rfl) (oY rfl (yAI rfl) (oN (eT (cS (cS (cR (oY rfl (yMI rfl) (oY rfl (cL rfl rfl) (oN (eT ?_))))))))))
 rcases iOs h with ⟨hp3,h⟩ | ⟨hp3,h⟩
 ·refine cT (vB hp3) (cS (cR (oY rfl (yMS rfl) (oY rfl (yAS rfl) (oN (eT (ak (aa ?_))))))))
  obtain rfl:=sI h
  exact aj (.inl rfl) rfl (rVt (v:=.slice Aa p0.length ca) rfl) (fun W2 hW2 => ⟨p0.length,rfl,rfl,hW2.take 2⟩)
 ·refine cF (vB hp3) (cK (eT (cS (cS (cR (oY rfl (yMI rfl) (oY rfl (aZ rfl rfl) (oY rfl (yAI rfl) (oN (eT (cB ?_)))))))))))
  obtain ⟨u7,hl14,h⟩:=bOs h
  refine bv (fun (s:(Int × Int × (List Int))) L tm => ∃ (tm0:Nat → Value),p0.length = s.2.2.length ∧ L = [R,aP Aa ca 3 1 p0.length (encL cI s.2.2)] ∧ tm = (upd (upd (upd (upd (upd tm0 0 (.slice Aa p0.length ca)) 1 (.func (.func fid1) fst1.toArray caps1.toArray)) 4 (.slice none 0 0)) 5 (vI s.1)) 6 (vI s.2.1))) 0 hl14 ⟨_,rfl,rfl,(kp4 (kp rfl))⟩ ?_ ?_
  ·rintro s6 L tm st ⟨tm0_s6,hn1_s6,rfl,rfl⟩ h
   unfold dQ at h
   refine cS (cS (cR (oY rfl (yMI rfl) (oY rfl (yMS rfl) (oY rfl (bk (us:=[]) cU rfl) (oY rfl (bl rfl rfl) (oN (eT ?_))))))))
   rcases iOs h with ⟨hp8,h⟩ | ⟨hp8,h⟩
   ·refine cT (vB hp8) (cK (eT (cS (cB (cS (cR (oY rfl (yMS rfl) (oY rfl (yMI rfl) ?_))))))))
    obtain ⟨hg9,h⟩:=gOs h
    refine oY rfl (yI dz (by decide) hg9.1 hg9.2 (RdL.row 1 rfl) (eL aD hn1_s6) rfl rfl) ?_
    refine oY rfl (yR (A:=Aa) (j:=(Int.toNat s6.2.1 * 1)) (v:=vI (rdL s6.2.2 s6.2.1)) a8 (RdL.row 1 rfl) rfl (aG aD hg9.1 (ap hg9.2 hn1_s6) rfl)) (oY rfl (yAI rfl) (oN (eT (cS (cR (oY rfl (bz (v:=.func (.func fid1) fst1.toArray caps1.toArray) rfl) (oY rfl (yMI rfl) ?_)))))))
    obtain ⟨y10,hy11,h⟩:=bOs h
    refine oY rfl (f4 [vI (rdL s6.2.2 s6.2.1)] hgo1 rfl rfl (fun W2 hW2 => hof1 W2 hW2.below (hW2.mem (i:=0) rfl) (rdL s6.2.2 s6.2.1) y10 hy11)) (oY rfl (bE rfl) (oN (eT ?_)))
    rcases iOs h with ⟨hp12,h⟩ | ⟨hp12,h⟩
    ·refine cT (vB hp12) (cS (cR (oY rfl (yMS rfl) (oY rfl (yMI rfl) (oY rfl (yMI rfl) ?_)))))
     obtain ⟨hg13,h⟩:=gOs h
     refine oY rfl (yI dz (by decide) hg13.1 hg13.2 (RdL.row 1 rfl) (eL aD hn1_s6) rfl rfl) ?_
     refine cJ rfl (iQ 1 (xs:=s6.2.2) aD (rdL s6.2.2 s6.2.1) p7 rfl hg13.1 (ap hg13.2 hn1_s6) rfl rfl rfl rfl) (oN (eT (cR (oY rfl (yMI rfl) (oY rfl (aZ rfl rfl) (oY rfl (yAI rfl) (oN (ax (eT (cR (oY rfl (yMI rfl) (oY rfl (aZ rfl rfl) (oY rfl (yAI rfl) (oN ?_))))))))))))))
     obtain rfl:=sI h
     exact eN ⟨_,(fg hn1_s6),rfl,(kp4 (kp rfl))⟩
    ·refine cF (vB hp12) (cK (ax (eT (cR (oY rfl (yMI rfl) (oY rfl (aZ rfl rfl) (oY rfl (yAI rfl) (oN ?_))))))))
     obtain rfl:=sI h
     exact eN ⟨_,hn1_s6,rfl,(kp4 (kp rfl))⟩
   ·refine cF (vB hp8) (aE (ag ?_))
    obtain rfl:=sI h
    exact aw ⟨rfl,_,hn1_s6,rfl,(kp4 (kp rfl))⟩
  ·intro e L tm hJ
   obtain ⟨rfl,tm0_u7,hn1_u7,rfl,rfl⟩:=hJ
   refine ⟨(by intro hc; cases hc),?_⟩
   refine ae (eT (cS (cR (oY rfl (yMS rfl) (oY rfl (yMI rfl) ?_)))))
   obtain ⟨hg15,h⟩:=gOs h
   refine oY rfl (sv dz hg15.1 hg15.2 (RdL.row 1 rfl) rfl rfl) ?_
   obtain ⟨hg16,h⟩:=gOs h
   refine cJ rfl (y_clearH 1 cU mh rfl (by decide) rfl aD rfl hg16.1 hg16.2 rfl) ?_
   refine oN (eT (cS (cR (oY rfl (yMS rfl) (oY rfl (yMI rfl) (oY rfl (y_cutHc dz hg16.1 (fun W2 hW2 => (fc (hW2.mem (i:=1) rfl)).cap) rfl rfl) (oY rfl (yAS rfl) (oN (eT (ak ?_))))))))))
   obtain rfl:=sI h
   exact aj (.inl rfl) rfl (rVt (v:=.slice Aa (Int.toNat u7.1) ca) rfl) (fun W2 hW2 => ⟨Int.toNat u7.1,(qm hg16.2 hn1_u7),rfl,hW2.take 2⟩)
theorem lM (p0:Int) (cap0:Int) (res:Bool) (h:fX p0 cap0 = some res) (W:World) (bc0:Nat) (hcap0:Rd W (some ⟨bc0,0,none⟩) 1 1 (cI cap0)) :
  Calls Tryz.prog 94 [vI p0,.pointer (some ⟨bc0,0,none⟩)].toArray W fun e W2 => e = .returned (.bool res) ∧ Ext W W2 []:=by
 unfold fX at h
 refine ab (m:=7) Tryz.func94 rfl rfl (nB rfl) (cS (cR (oY rfl (yAB rfl) (oN (eT (cS (cR (oY rfl (yMI rfl) (oY rfl (yR (A:=(some ⟨bc0,0,none⟩)) (j:=0) (v:=vI cap0) a8 (RdL.arg hcap0) rfl rfl) (oY rfl (cL rfl rfl) (oY rfl (yAB rfl) (oN (eT (ak ?_))))))))))))))
 obtain rfl:=sI h
 exact aj (.inl rfl) rfl (rVt (v:=.bool (p0 == cap0)) rfl) (fun W2 hW2 => ⟨rfl,hW2.none⟩)
theorem mZ (p0:TY) (p1:(List Int)) (res:((List Int) × Int)) (h:jB p0 p1 = some res) (W:World) (Aa:Option Addr) (n0_0 ca : Nat) (hn0_0:n0_0 = p0.fB.length) (hr0_0:Rd W Aa n0_0 ca (encL aA p0.fB)) (Ab:Option Addr) (n0_1 cb : Nat) (hn0_1:n0_1 = p0.fR.length) (hr0_1:Rd W Ab n0_1 cb (encL ay p0.fR)) (Ac:Option Addr) (n1_0 cc : Nat) (hn1_0:n1_0 = p1.length) (hr1_0:Rd W Ac n1_0 cc (encL cI p1)) :
  Calls Tryz.prog 31 [.agg #[.slice Aa n0_0 ca,.slice Ab n0_1 cb],.slice Ac n1_0 cc].toArray W fun e W2 => ∃ x : Option Addr × Nat × Nat,x.2.1 = res.1.length ∧ e = .returned (.tuple #[.slice x.1 x.2.1 x.2.2,vI res.2]) ∧ Ext W W2 [aP x.1 x.2.2 3 1 x.2.1 (encL cI res.1)]:=by
 subst hn0_0
 subst hn0_1
 subst hn1_0
 unfold jB at h
 refine ab (m:=65) Tryz.func31 rfl rfl (nB rfl) (cS (cR ?_))
 refine aN [.slice Aa p0.fB.length ca,.slice Ab p0.fR.length cb] rfl rfl rfl (fun b1 => ?_)
 refine oY rfl (yAS rfl) (oY rfl (yAI rfl) (oN (eT (cS (cS (cR (oY rfl (yN 0 [.slice Aa p0.fB.length ca,.slice Ab p0.fR.length cb] dc rfl rfl rfl) ?_)))))))
 obtain ⟨y2,hy3,h⟩:=bOs h
 refine oY rfl (yC [.agg #[.slice Aa p0.fB.length ca,.slice Ab p0.fR.length cb]] sV rfl (fun W2 hW2 => du p0 y2 hy3 W2 Aa p0.fB.length ca rfl ((RdL.arg hr0_0) W2 hW2) Ab p0.fR.length cb rfl ((RdL.arg hr0_1) W2 hW2)) rfl) (oY rfl (yAI rfl) (oN (eT (cS (cR (oY rfl (yMI rfl) (oY rfl (dD rfl rfl) (oN (eT ?_)))))))))
 rcases iOs h with ⟨hp4,h⟩ | ⟨hp4,h⟩
 ·refine cT (vB hp4) (cS (cR (oY rfl (yMI rfl) (oY rfl (yAS rfl) (oY rfl (yAI rfl) (oN (eT (ak (aa ?_)))))))))
  obtain rfl:=sI h
  exact bD (.inl rfl) rfl (rVt (v:=.slice none 0 0) rfl) (rVt (v:=vI y2) rfl) (fun W2 hW2 => ⟨(none,0,0),rfl,rfl,((hW2.nilrow 3 1).pick 1 rfl)⟩)
 ·refine cF (vB hp4) (cK (eT (cS (cS (cR (oY rfl (yMS rfl) (oY rfl (bk (us:=[]) cU rfl) (oY rfl (yMI rfl) (oN (eT (cB ?_)))))))))))
  obtain ⟨u7,hl20,h⟩:=bOs h
  refine dv 3 1 ?_
  refine bt (fun (s:(Int × Int)) L tm => ∃ (tm0:Nat → Value),L = [ai b1 53 [.slice Aa p0.fB.length ca,.slice Ab p0.fR.length cb],aP none 0 3 1 0 (encL cI ([]:List Int))] ∧ tm = (upd (upd (upd (upd (upd (upd (upd tm0 1 (.slice Ac p1.length cc)) 2 (.pointer (some ⟨b1,0,none⟩))) 4 (.slice none 0 0)) 5 (vI s.1)) 18 (.slice Ac p1.length cc)) 19 (vI (p1.length:Int))) 20 (vI s.2))) 0 hl20 ⟨_,rfl,(kp4 (kp (kp (kp rfl))))⟩ ?_ ?_
  ·rintro s6 L tm st ⟨tm0_s6,rfl,rfl⟩ h
   unfold jO at h
   refine cS (cR (oY rfl (bl rfl rfl) (oN (eT (cS ?_)))))
   rcases iOs h with ⟨hp8,h⟩ | ⟨hp8,h⟩
   ·refine cT (vB hp8) (cK (eT (cS (cB (cS (cR (oY rfl (yMI rfl) ?_)))))))
    obtain ⟨hg9,h⟩:=gOs h
    refine oY rfl (yI dz (by decide) hg9.1 hg9.2 (RdL.arg hr1_0) (eL aD rfl) rfl rfl) ?_
    refine oY rfl (yR (A:=Ac) (j:=(Int.toNat s6.2 * 1)) (v:=vI (rdL p1 s6.2)) a8 (RdL.arg hr1_0) rfl (aG aD hg9.1 (ap hg9.2 rfl) rfl)) (oY rfl (yAI rfl) (oY rfl (yAI rfl) (oN (eT (cS (cR (oY rfl (yN 0 [.slice Aa p0.fB.length ca,.slice Ab p0.fR.length cb] dc rfl rfl rfl) (oY rfl (yMI rfl) ?_))))))))
    obtain ⟨y10,hy11,h⟩:=bOs h
    refine oY rfl (yC [.agg #[.slice Aa p0.fB.length ca,.slice Ab p0.fR.length cb],vI (rdL p1 s6.2)] go_90 rfl (fun W2 hW2 => iZ p0 (rdL p1 s6.2) y10 hy11 W2 Aa p0.fB.length ca rfl ((RdL.arg hr0_0) W2 hW2) Ab p0.fR.length cb rfl ((RdL.arg hr0_1) W2 hW2)) rfl) (oY rfl (bl rfl rfl) (oY rfl (yMB rfl) ?_))
    obtain ⟨b13,hb14,h⟩:=bOs h
    refine oJ 12 (fun tm0 => (upd (upd (upd (upd (upd (upd (upd (upd (upd (upd (upd tm0 1 (.slice Ac p1.length cc)) 2 (.pointer (some ⟨b1,0,none⟩))) 4 (.slice none 0 0)) 5 (vI s6.1)) 18 (.slice Ac p1.length cc)) 19 (vI (p1.length:Int))) 20 (vI s6.2)) 21 (.bool (decide (s6.2 < (p1.length:Int))))) 7 (vI s6.2)) 8 (vI (rdL p1 s6.2))) 41 (.bool b13))) (fun tm0 => ?_) (fun key => ?_)
    ·refine oN (eT ?_)
     rcases iOs h with ⟨hp15,h⟩ | ⟨hp15,h⟩
     ·refine cT (vB hp15) (cS (cR (oY rfl (yAS rfl) (oY rfl (yAI rfl) (oN (eT (ak (ah (aa ?_)))))))))
      obtain rfl:=sI h
      exact aw ⟨rfl,_,rfl,(kp4 (kp (kp (kp rfl))))⟩
     ·refine cF (vB hp15) (cK (ax (eT (cR (oY rfl (aZ rfl rfl) (oY rfl (yMI rfl) (oN ?_)))))))
      obtain rfl:=sI h
      exact eN ⟨_,rfl,(kp4 (kp (kp (kp rfl))))⟩
    ·clear h; rcases iOs hb14 with ⟨hp12,h⟩ | ⟨hp12,h⟩
     ·refine oSk (sF rfl rfl rfl rfl hp12) (oSk (sF rfl rfl rfl rfl hp12) (oSk (sF rfl rfl rfl rfl hp12) (oSk rfl (oSk rfl (oSk rfl (oSk rfl (oSk rfl (oSk rfl (oSk rfl (oSk (sF rfl rfl rfl rfl hp12) (oY rfl (ac (vB hp12) rfl) ?_)))))))))))
      obtain rfl:=sI h
      exact key _ _ (kp4 (kp4 (kp (kp (kp rfl)))))
     ·refine oY (sT rfl rfl rfl rfl hp12) (yMI rfl) (oY (sT rfl rfl rfl rfl hp12) (gq rfl rfl) (oY (sT rfl rfl rfl rfl hp12) (yMB rfl) ?_))
      obtain ⟨b17,hb18,h⟩:=bOs h
      refine oJ 8 (fun tm0 => (upd (upd (upd (upd (upd (upd (upd (upd (upd (upd (upd (upd tm0 1 (.slice Ac p1.length cc)) 2 (.pointer (some ⟨b1,0,none⟩))) 4 (.slice none 0 0)) 5 (vI s6.1)) 18 (.slice Ac p1.length cc)) 19 (vI (p1.length:Int))) 20 (vI s6.2)) 21 (.bool (decide (s6.2 < (p1.length:Int))))) 7 (vI s6.2)) 8 (vI (rdL p1 s6.2))) 29 (.bool (decide (y10 < 0)))) 40 (.bool b17))) (fun tm0 => ?_) (fun key => ?_)
      ·refine oY rfl (ad (vB hp12) rfl) ?_
       obtain rfl:=sI h
       exact key _ _ (kp4 (kp4 (kp (kp (kp rfl)))))
      ·clear h; rcases iOs hb18 with ⟨hp16,h⟩ | ⟨hp16,h⟩
       ·refine oY (sT rfl rfl rfl rfl hp16) (yMI rfl) (oY (sT rfl rfl rfl rfl hp16) (yMS rfl) (oY (sT rfl rfl rfl rfl hp16) (yMI rfl) (oY (sT rfl rfl rfl rfl hp16) (gF rfl rfl) ?_)))
        obtain ⟨hg19,h⟩:=gOs h
        refine oY (sT rfl rfl rfl rfl hp16) (yI dz (by decide) hg19.1 hg19.2 (RdL.arg hr1_0) (eL aD rfl) rfl rfl) ?_
        refine oY (sT rfl rfl rfl rfl hp16) (yR (A:=Ac) (j:=(Int.toNat (w64 (s6.2 - 1)) * 1)) (v:=vI (rdL p1 (w64 (s6.2 - 1)))) a8 (RdL.arg hr1_0) rfl (aG aD hg19.1 (ap hg19.2 rfl) rfl)) (oY (sT rfl rfl rfl rfl hp16) (ju rfl rfl) (oY (sT rfl rfl rfl rfl hp12) (ac (vB hp16) rfl) ?_))
        obtain rfl:=sI h
        exact key _ _ (kp4 (kp4 (kp4 rfl)))
       ·refine oSk (sF rfl rfl rfl rfl hp16) (oSk (sF rfl rfl rfl rfl hp16) (oSk (sF rfl rfl rfl rfl hp16) (oSk (sF rfl rfl rfl rfl hp16) (oSk (sF rfl rfl rfl rfl hp16) (oSk (sF rfl rfl rfl rfl hp16) (oSk (sF rfl rfl rfl rfl hp16) (oY (sT rfl rfl rfl rfl hp12) (ad (vB hp16) rfl) ?_)))))))
        obtain rfl:=sI h
        exact key _ _ (kp4 (kp4 (kp4 rfl)))
   ·refine cF (vB hp8) (aE (ag ?_))
    obtain rfl:=sI h
    exact aw ⟨rfl,_,rfl,(kp4 (kp (kp (kp rfl))))⟩
  ·intro e L tm hJ
   rcases u7 with u21 | u22
   ·dsimp only at h hJ
    obtain ⟨rfl,tm0_u21,rfl,rfl⟩:=hJ
    refine ⟨(by intro hc; cases hc),?_⟩
    refine ah (aa ?_)
    obtain rfl:=sI h
    exact bD (.inl rfl) rfl (rVt (v:=.slice none 0 0) rfl) (rVt (v:=vI u21.1) rfl) (fun W2 hW2 => ⟨(none,0,0),rfl,rfl,(hW2.pick 1 rfl)⟩)
   ·dsimp only at h hJ
    obtain ⟨rfl,tm0_u22,rfl,rfl⟩:=hJ
    refine ⟨(by intro hc; cases hc),?_⟩
    refine ae (eT (cS (cS (cR (oY rfl (yN 0 [.slice Aa p0.fB.length ca,.slice Ab p0.fR.length cb] dc rfl rfl rfl) (oY rfl (yMS rfl) ?_))))))
    obtain ⟨y23,hy24,h⟩:=bOs h
    refine oY rfl (yC [.agg #[.slice Aa p0.fB.length ca,.slice Ab p0.fR.length cb],.slice Ac p1.length cc] go_91 rfl (fun W2 hW2 => nz p0 p1 y23 hy24 W2 Aa p0.fB.length ca rfl ((RdL.arg hr0_0) W2 hW2) Ab p0.fR.length cb rfl ((RdL.arg hr0_1) W2 hW2) Ac p1.length cc rfl ((RdL.arg hr1_0) W2 hW2)) rfl) (oN (eT ?_))
    rcases iOs h with ⟨hp25,h⟩ | ⟨hp25,h⟩
    ·refine cT (vB hp25) (cS (cR (oY rfl (yAS rfl) (oY rfl (yAI rfl) (oN (eT (ak (aa ?_))))))))
     obtain rfl:=sI h
     exact bD (.inl rfl) rfl (rVt (v:=.slice none 0 0) rfl) (rVt (v:=vI 5) rfl) (fun W2 hW2 => ⟨(none,0,0),rfl,rfl,((hW2.nilrow 3 1).pick 2 rfl)⟩)
    ·refine cF (vB hp25) (cK (eT (cS (cR (oY rfl (yMS rfl) ?_)))))
     obtain ⟨y26,hy27,h⟩:=bOs h
     refine oC [.slice Ac p1.length cc] _ _ _ rfl go_92 rfl (fun W2 hW2 => dB p1 y26 hy27 W2 Ac p1.length cc rfl ((RdL.arg hr1_0) W2 hW2)) ?_
     rintro ⟨A28,n30,c29⟩ hn31
     replace hn31 : n30 = y26.length:=hn31; subst hn31
     refine oY rfl (yAS rfl) (oN (eT (cS (cS (cR (oY rfl (yMS rfl) (oY rfl (bk (us:=[]) cU rfl) (oY rfl (yMI rfl) (oN (eT (cB ?_)))))))))))
     obtain ⟨u35,hl53,h⟩:=bOs h
     refine bv (fun (s:(Int × (List Int))) L tm => ∃ (tm0:Nat → Value) (A2_s:Option Addr) (c2_s:Nat) (n2_s:Nat),n2_s = s.2.length ∧ L = [ai b1 53 [.slice Aa p0.fB.length ca,.slice Ab p0.fR.length cb],aP none 0 3 1 0 (encL cI ([]:List Int)),aP A2_s c2_s 3 1 n2_s (encL cI s.2)] ∧ tm = (upd (upd (upd (upd (upd (upd (upd tm0 2 (.pointer (some ⟨b1,0,none⟩))) 4 (.slice none 0 0)) 5 (vI u22.1)) 9 (.slice A2_s n2_s c2_s)) 48 (.slice Ac p1.length cc)) 49 (vI (p1.length:Int))) 50 (vI s.1))) 2 hl53 ⟨_,A28,c29,y26.length,rfl,rfl,(kp4 (kp (kp (kp rfl))))⟩ ?_ ?_
     ·rintro s34 L tm st ⟨tm0_s34,A2_s34,c2_s34,n2_s34,rfl,rfl,rfl⟩ h
      unfold jN at h
      refine cS (cR (oY rfl (bl rfl rfl) (oN (eT (cS ?_)))))
      rcases iOs h with ⟨hp36,h⟩ | ⟨hp36,h⟩
      ·refine cT (vB hp36) (cK (eT (cS (cB (cS (cR ?_))))))
       obtain ⟨hg37,h⟩:=gOs h
       refine oY rfl (yI dz (by decide) hg37.1 hg37.2 (RdL.arg hr1_0) (eL aD rfl) rfl rfl) ?_
       refine oY rfl (yR (A:=Ac) (j:=(Int.toNat s34.1 * 1)) (v:=vI (rdL p1 s34.1)) a8 (RdL.arg hr1_0) rfl (aG aD hg37.1 (ap hg37.2 rfl) rfl)) ?_
       refine aB mh rfl (fun b38 => ?_)
       refine cJ rfl (df 3 (v:=vI (rdL p1 s34.1)) p7 rfl (Nat.lt_of_lt_of_le (Nat.lt_succ_self _) (nB rfl)) rfl rfl rfl) (oN (eT (cS (cR (oY rfl (yMS rfl) ?_)))))
       obtain ⟨y39,hy40,h⟩:=bOs h
       refine oC [.slice A2_s34 s34.2.length c2_s34] _ _ _ rfl go_92 rfl (fun W2 hW2 => dB s34.2 y39 hy40 W2 A2_s34 s34.2.length c2_s34 rfl ((RdL.row 2 rfl) W2 hW2)) ?_
       rintro ⟨A41,n43,c42⟩ hn44
       replace hn44 : n43 = y39.length:=hn44; subst hn44
       refine oY rfl (bP [.pointer (some ⟨b38,0,none⟩)] rfl rfl) ?_
       obtain ⟨y46,hy47,h⟩:=bOs h
       refine eJ 4 [.slice A41 y39.length c42,.func (.func 94) #[] #[.pointer (some ⟨b38,0,none⟩)]] (fun k : Nat => k = y46.length) (fun k => .slice A41 k c42) (fun k => aP A41 c42 3 1 k (encL cI y46)) (fun _ => []) rfl rfl go_93 rfl (fun W2 hW2 => (gz y39 (fun x45 => fX x45 (rdL p1 s34.1)) y46 hy47 W2 _ (cE [ai b1 53 [.slice Aa p0.fB.length ca,.slice Ab p0.fR.length cb],aP none 0 3 1 0 (encL cI ([]:List Int)),aP A2_s34 c2_s34 3 1 s34.2.length (encL cI s34.2),ai b38 3 [vI (rdL p1 s34.1)],aP A41 c42 3 1 y39.length (encL cI y39)] [4]) A41 y39.length c42 rfl 94 [] [.pointer (some ⟨b38,0,none⟩)] go_94 (fun W3 hb hR x y hxy => lM  x (rdL p1 s34.1) y hxy W3 b38 ((RdL.cells 3 rfl) W3 (hW2.rest hb hR))) hW2).mono (fun e W3 h3 => h3)) ?_
       rintro k48 hn49
       subst hn49
       try dsimp only [lsz,lss,List.append_nil]
       refine oY rfl (yAS rfl) (oN (eT (cS (cR (oY rfl (yN 0 [.slice Aa p0.fB.length ca,.slice Ab p0.fR.length cb] dc rfl rfl rfl) (oY rfl (yMS rfl) ?_))))))
       obtain ⟨y50,hy51,h⟩:=bOs h
       refine oY rfl (yC [.agg #[.slice Aa p0.fB.length ca,.slice Ab p0.fR.length cb],.slice A41 y46.length c42] go_91 rfl (fun W2 hW2 => nz p0 y46 y50 hy51 W2 Aa p0.fB.length ca rfl ((RdL.arg hr0_0) W2 hW2) Ab p0.fR.length cb rfl ((RdL.arg hr0_1) W2 hW2) A41 y46.length c42 rfl ((RdL.row 4 rfl) W2 hW2)) rfl) (oY rfl (bE rfl) (oN (eT ?_)))
       rcases iOs h with ⟨hp52,h⟩ | ⟨hp52,h⟩
       ·refine cT (vB hp52) (cR (oY rfl (yMS rfl) (oY rfl (yAS rfl) (oN (ax (eT (cR (oY rfl (aZ rfl rfl) (oY rfl (yMI rfl) (oN ?_))))))))))
        refine ex_mv 2 4 (by decide) rfl ?_
        try dsimp only [lsz,lss]
        refine aT 3 ?_
        obtain rfl:=sI h
        exact eN ⟨_,A41,c42,y46.length,rfl,rfl,(kp4 (kp (kp (kp rfl))))⟩
       ·refine cF (vB hp52) (cK (ax (eT (cR (oY rfl (aZ rfl rfl) (oY rfl (yMI rfl) (oN (aT 3 ?_))))))))
        obtain rfl:=sI h
        exact eN ⟨_,A2_s34,c2_s34,s34.2.length,rfl,rfl,(kp4 (kp (kp (kp rfl))))⟩
      ·refine cF (vB hp36) (aE (ag ?_))
       obtain rfl:=sI h
       exact aw ⟨rfl,_,A2_s34,c2_s34,s34.2.length,rfl,rfl,(kp4 (kp (kp (kp rfl))))⟩
     ·intro e L tm hJ
      obtain ⟨rfl,tm0_u35,A2_u35,c2_u35,n2_u35,rfl,rfl,rfl⟩:=hJ
      refine ⟨(by intro hc; cases hc),?_⟩
      refine ae (eT (cS (cR (oY rfl (yMS rfl) (oY rfl (yAS rfl) (oY rfl (yAI rfl) (oN (eT (ak ?_)))))))))
      obtain rfl:=sI h
      exact bD (.inl rfl) rfl (rVt (v:=.slice A2_u35 u35.2.length c2_u35) rfl) (rVt (v:=vI 0) rfl) (fun W2 hW2 => ⟨(A2_u35,u35.2.length,c2_u35),rfl,rfl,(hW2.pick 2 rfl)⟩)
theorem iF (p0:(List TBay)) (p1:Int) (p2:Int) (res:(List TBay)) (h:dW p0 p1 p2 = some res) (W:World) (w0:World) (R:Res) (Aa:Option Addr) (n0_0 ca : Nat) (hn0_0:n0_0 = p0.length) (hW:Ext w0 W [R,aP Aa ca 69 3 n0_0 (encL aA p0)]) :
  Calls Tryz.prog 141 [.slice Aa n0_0 ca,vI p1,vI p2].toArray W fun e W2 => ∃ k : Nat,k = res.length ∧ e = .returned (.slice Aa k ca) ∧ Ext w0 W2 [R,aP Aa ca 69 3 k (encL aA res)]:=by
 subst hn0_0
 unfold dW at h
 refine aR (m:=33) Tryz.func141 rfl rfl (nB rfl) hW (cS (cR (oY rfl (yAS rfl) (oN (eT (cS (cR (oY rfl (yMS rfl) (oY rfl (yMI rfl) (oY rfl (yMI rfl) (oY rfl (yMS rfl) (oY rfl (bk (us:=[]) jv rfl) ?_))))))))))))
 obtain ⟨hg1,h⟩:=gOs h
 refine oY rfl (y_cut3 lJ hg1.1 hg1.2.1 hg1.2.2.1 hg1.2.2.2 (RdL.row 1 rfl) rfl rfl rfl rfl) (oN (eT (cS (cS (cR (oY rfl (yMI rfl) (oY rfl (yMI rfl) (oY rfl (cL rfl rfl) (oN (eT ?_))))))))))
 rcases iOs h with ⟨hp2,h⟩ | ⟨hp2,h⟩
 ·refine cT (vB hp2) (cS (cR (oY rfl (yMS rfl) (oY rfl (yAS rfl) (oN (eT (ak (aa ?_))))))))
  obtain rfl:=sI h
  exact aj (.inl rfl) rfl (rVt (v:=.slice Aa p0.length ca) rfl) (fun W2 hW2 => ⟨p0.length,rfl,rfl,hW2.take 2⟩)
 ·refine cF (vB hp2) (cK (eT (cS (cR (oY rfl (yMS rfl) (oY rfl (bk (us:=[]) jv rfl) (oY rfl (yAI rfl) (oN (eT (cS ?_))))))))))
  refine bA 6 dE (by kernel_rfl) (by kernel_rfl) ?_
  refine qY rfl (yMS rfl) (qY rfl (yMI rfl) ?_)
  obtain ⟨hg3,h⟩:=gOs h
  refine qY rfl (tu lJ hg3.1 hg3.2 (RdL.row 1 rfl) rfl rfl) (qY rfl (yMS rfl) (qY rfl (yMI rfl) ?_))
  obtain ⟨hg4,h⟩:=gOs h
  refine qY rfl (sv lJ hg4.1 hg4.2 (RdL.row 1 rfl) rfl rfl) (dm ?_)
  obtain ⟨hg5,h⟩:=gOs h
  refine me 1 aH kq jv nH by_69 rfl rfl hg3.1 hg5 hg4.2 rfl rfl rfl (oY rfl (yAS rfl) (oN (eT (cS (cR (oY rfl (yMS rfl) (oY rfl (yMS rfl) (oY rfl (bk (us:=[]) jv rfl) (oY rfl (yMI rfl) ?_)))))))))
  refine oY rfl (y_cutO lJ (by omega) (by have h8:=(lj hg3.1 hg5 hg4.2); omega) (by have h9:=(fc (hW.mem (i:=1) rfl)).cap; omega) rfl rfl rfl) ?_
  refine cJ rfl (qW 1 jv nH rfl (by decide) rfl rfl (by have h8:=(lj hg3.1 hg5 hg4.2); have h9:=(fc (hW.mem (i:=1) rfl)).cap; simp only [Int.toNat_natCast]; omega) rfl) ?_
  refine oN (eT (cS (cR (oY rfl (yMS rfl) (oY rfl (yAS rfl) (oN (eT (ak ?_))))))))
  obtain rfl:=sI h
  exact aj (.inl rfl) rfl (rVt (v:=.slice Aa (Int.toNat p1 + (p0.length - Int.toNat p2)) ca) rfl) (fun W2 hW2 => ⟨(Int.toNat p1 + (p0.length - Int.toNat p2)),(nV hg3.1 hg5 hg4.2 rfl),rfl,hW2.take 2⟩)
theorem jg (p0:(List TBay)) (res:(List TBay)) (h:eA p0 = some res) (W:World) (Aa:Option Addr) (n0_0 ca : Nat) (hn0_0:n0_0 = p0.length) (hr0_0:Rd W Aa n0_0 ca (encL aA p0)) :
  Calls Tryz.prog 142 [.slice Aa n0_0 ca].toArray W fun e W2 => ∃ x : Option Addr × Nat × Nat,x.2.1 = res.length ∧ e = .returned (.slice x.1 x.2.1 x.2.2) ∧ Ext W W2 [aP x.1 x.2.2 69 3 x.2.1 (encL aA res)]:=by
 subst hn0_0
 unfold eA at h
 refine ab (m:=8) Tryz.func142 rfl rfl (nB rfl) (cS (cR (oY rfl (yAS rfl) (oN (eT (cS (cS (cR (oY rfl (yMS rfl) (oY rfl (oU jv rfl rfl) (oN (eT ?_))))))))))))
 rcases al (Option.isNone Aa) with hp1 | hp1
 ·refine cT (vB hp1) ?_
  have z6:=o5 (Option.isNone_iff_eq_none.1 hp1 ▸ hr0_0) aH (by decide)
  replace h:=(gOs h).2
  rw [z6] at h
  refine cS (cR (oY rfl (yAS rfl) (oN (eT (ak (aa ?_))))))
  obtain rfl:=sI h
  exact aj (.inl rfl) rfl (rVt (v:=.slice none 0 0) rfl) (fun W2 hW2 => ⟨(none,0,0),rfl,rfl,((hW2.nilrow 69 3).pick 0 rfl)⟩)
 ·refine cF (vB hp1) (cK (eT (cS (cR ?_))))
  refine f5 aA jv nH by_69 rfl (fun b2 => ?_)
  refine oY rfl (yMS rfl) ?_
  obtain ⟨hg5,h⟩:=gOs h
  refine co 0 jv nH by_69 rfl rfl rfl (RdL.arg hr0_0) (eL aH rfl) (dO kq _) (ex hg5 (by decide)) rfl (fun A3 c4 => ?_)
  refine oY rfl (yAS rfl) (oN (eT (ak ?_)))
  obtain rfl:=sI h
  exact aj (.inl rfl) rfl (rVt (v:=.slice A3 (0 + p0.length) c4) rfl) (fun W2 hW2 => ⟨(A3,(0 + p0.length),c4),(iM rfl rfl),rfl,(hW2.pick 0 rfl)⟩)
theorem jG (p0:TY) (p1:Int) (res:TY) (h:ij p0 p1 = some res) (W:World) (Aa:Option Addr) (n0_0 ca : Nat) (hn0_0:n0_0 = p0.fB.length) (hr0_0:Rd W Aa n0_0 ca (encL aA p0.fB)) (Ab:Option Addr) (n0_1 cb : Nat) (hn0_1:n0_1 = p0.fR.length) (hr0_1:Rd W Ab n0_1 cb (encL ay p0.fR)) :
  Calls Tryz.prog 97 [.agg #[.slice Aa n0_0 ca,.slice Ab n0_1 cb],vI p1].toArray W fun e W2 => ∃ x : (Option Addr × Nat × Nat),x.2.1 = res.fB.length ∧ e = .returned (.agg #[.slice x.1 x.2.1 x.2.2,.slice Ab n0_1 cb]) ∧ Ext W W2 [aP x.1 x.2.2 69 3 x.2.1 (encL aA res.fB)]:=by
 subst hn0_0
 subst hn0_1
 unfold ij at h
 refine ab (m:=15) Tryz.func97 rfl rfl (nB rfl) (cS (cR ?_))
 refine aN [.slice Aa p0.fB.length ca,.slice Ab p0.fR.length cb] rfl rfl rfl (fun b1 => ?_)
 refine aB pZ rfl (fun b2 => ?_)
 refine oN (eT (cS ?_))
 obtain ⟨y4,hy5,h⟩:=bOs h
 obtain ⟨y10,hy11,h⟩:=bOs h
 refine fx [[],[0],[0,1],[],[],[4],[0,1,2,3,4,5],[],[7],[0,1,2,3,4,5,6,7,8],[0,1,2,3,4,5,6,7,8,9]] [(none,0,[true,true]),(none,0,[true,true]),(none,1,[true,true]),(none,0,[true,true,false]),(none,0,[true,true,false]),(none,0,[true,true,false]),(some 2,0,[true,true,true]),(none,0,[true,true,false]),(none,0,[true,true,false]),(none,0,[true,true,true]),(some 1,0,[true,true,true])] [⟨fun _ => .pointer (some ⟨b1,0 + 0,none⟩),fun _ => noR,fun _ => []⟩,⟨fun _ => .slice Aa p0.fB.length ca,fun _ => noR,fun _ => []⟩,⟨fun ξ3 => .slice (ξ3 2 0).1 y4.length (ξ3 2 0).2.2.1,fun _ => noR,fun ξ3 => [aP (ξ3 2 0).1 (ξ3 2 0).2.2.1 69 3 y4.length (encL aA y4)]⟩,⟨fun _ => vI p1,fun _ => noR,fun _ => []⟩,⟨fun _ => vI p1,fun _ => noR,fun _ => []⟩,⟨fun _ => vI (w64 (p1 + 1)),fun _ => noR,fun _ => []⟩,⟨fun ξ3 => .slice (ξ3 2 0).1 y10.length (ξ3 2 0).2.2.1,fun ξ3 => aP (ξ3 2 0).1 (ξ3 2 0).2.2.1 69 3 y10.length (encL aA y10),fun _ => []⟩,⟨fun _ => .pointer (some ⟨b1,0 + 1,none⟩),fun _ => noR,fun _ => []⟩,⟨fun _ => .slice Ab p0.fR.length cb,fun _ => noR,fun _ => []⟩,⟨fun ξ3 => .agg #[.slice (ξ3 2 0).1 y10.length (ξ3 2 0).2.2.1,.slice Ab p0.fR.length cb],fun _ => noR,fun _ => []⟩,⟨fun _ => undef,fun ξ3 => ai b2 53 [.slice (ξ3 2 0).1 y10.length (ξ3 2 0).2.2.1,.slice Ab p0.fR.length cb],fun _ => []⟩] 2 dE (by kernel_rfl) (by kernel_rfl) ⟨⟨fun ξ3 ξ3' h => ⟨rfl,rfl,rfl⟩,fun _ => rfl⟩,⟨fun ξ3 ξ3' h => ⟨rfl,rfl,rfl⟩,fun _ => rfl⟩,⟨fun ξ3 ξ3' h => ⟨by simp only [h 2 (.inl rfl)],rfl,by simp only [h 2 (.inl rfl)]⟩,fun _ => rfl⟩,⟨fun ξ3 ξ3' h => ⟨rfl,rfl,rfl⟩,fun _ => rfl⟩,⟨fun ξ3 ξ3' h => ⟨rfl,rfl,rfl⟩,fun _ => rfl⟩,⟨fun ξ3 ξ3' h => ⟨rfl,rfl,rfl⟩,fun _ => rfl⟩,⟨fun ξ3 ξ3' h => ⟨by simp only [h 2 (.inr rfl)],by simp only [h 2 (.inr rfl)],rfl⟩,fun _ => rfl⟩,⟨fun ξ3 ξ3' h => ⟨rfl,rfl,rfl⟩,fun _ => rfl⟩,⟨fun ξ3 ξ3' h => ⟨rfl,rfl,rfl⟩,fun _ => rfl⟩,⟨fun ξ3 ξ3' h => ⟨by simp only [h 2 (.inr rfl)],rfl,rfl⟩,fun _ => rfl⟩,⟨fun ξ3 ξ3' h => ⟨rfl,by simp only [h 2 (.inr rfl)],rfl⟩,fun _ => rfl⟩,trivial⟩ rfl (fun ξ3 => ?_)
 refine cq rfl (fun L2 => ?_) ?_
 ·dsimp only [aF,lca,lna]
  refine oY rfl (yFA dU rfl) (oN ?_)
  exact ar (fun _ => (none,0,0,[],noR)) rfl (List.append_nil _)
 dsimp only [bJ,lsz,lss,lna,lca,List.append_nil]
 refine cq rfl (fun L2 => ?_) ?_
 ·dsimp only [aF,lca,lna]
  refine oY rfl (yL 0 jD rfl rfl rfl) (oN ?_)
  exact ar (fun _ => (none,0,0,[],noR)) rfl (List.append_nil _)
 dsimp only [bJ,lsz,lss,lna,lca,List.append_nil]
 refine cq rfl (fun L2 => ?_) ?_
 ·dsimp only [aF,lca,lna]
  refine oC [.slice Aa p0.fB.length ca] _ _ _ rfl go_142 rfl (fun W2 hW2 => jg p0.fB y4 hy5 W2 Aa p0.fB.length ca rfl ((RdL.arg hr0_0) W2 hW2)) ?_
  rintro ⟨A6,n8,c7⟩ hn9
  replace hn9 : n8 = y4.length:=hn9; subst hn9
  refine oN ?_
  exact ar (fun _ => (A6,0,c7,[],noR)) rfl rfl
 dsimp only [bJ,lsz,lss,lna,lca,List.append_nil]
 refine cq rfl (fun L2 => ?_) ?_
 ·dsimp only [aF,lca,lna]
  refine oY rfl (yMI rfl) (oN ?_)
  exact ar (fun _ => (none,0,0,[],noR)) rfl (List.append_nil _)
 dsimp only [bJ,lsz,lss,lna,lca,List.append_nil]
 refine cq rfl (fun L2 => ?_) ?_
 ·dsimp only [aF,lca,lna]
  refine oY rfl (yMI rfl) (oN ?_)
  exact ar (fun _ => (none,0,0,[],noR)) rfl (List.append_nil _)
 dsimp only [bJ,lsz,lss,lna,lca,List.append_nil]
 refine cq rfl (fun L2 => ?_) ?_
 ·dsimp only [aF,lca,lna]
  refine oY rfl (aZ rfl rfl) (oN ?_)
  exact ar (fun _ => (none,0,0,[],noR)) rfl (List.append_nil _)
 dsimp only [bJ,lsz,lss,lna,lca,List.append_nil]
 refine cq rfl (fun L2 => ?_) ?_
 ·dsimp only [aF,lca,lna]
  refine eJ 2 [.slice (ξ3 2 0).1 y4.length (ξ3 2 0).2.2.1,vI p1,vI (w64 (p1 + 1))] (fun k : Nat => k = y10.length) (fun k => .slice (ξ3 2 0).1 k (ξ3 2 0).2.2.1) (fun k => aP (ξ3 2 0).1 (ξ3 2 0).2.2.1 69 3 k (encL aA y10)) (fun _ => []) rfl rfl go_141 rfl (fun W2 hW2 => (iF y4 p1 (w64 (p1 + 1)) y10 hy11 W2 _ _ (ξ3 2 0).1 y4.length (ξ3 2 0).2.2.1 rfl hW2).mono (fun e W3 h3 => h3)) ?_
  rintro k12 hn13
  subst hn13
  try dsimp only [lsz,lss,List.append_nil]
  refine oN ?_
  first | exact ar (fun _ => (none,0,0,[],noR)) rfl rfl | exact ar (fun _ => (none,0,0,[],noR)) rfl (List.append_nil _)
 dsimp only [bJ,lsz,lss,lna,lca,List.append_nil]
 refine cq rfl (fun L2 => ?_) ?_
 ·dsimp only [aF,lca,lna]
  refine oY rfl (yFA bV rfl) (oN ?_)
  exact ar (fun _ => (none,0,0,[],noR)) rfl (List.append_nil _)
 dsimp only [bJ,lsz,lss,lna,lca,List.append_nil]
 refine cq rfl (fun L2 => ?_) ?_
 ·dsimp only [aF,lca,lna]
  refine oY rfl (yL 0 f9 rfl rfl rfl) (oN ?_)
  exact ar (fun _ => (none,0,0,[],noR)) rfl (List.append_nil _)
 dsimp only [bJ,lsz,lss,lna,lca,List.append_nil]
 refine cq rfl (fun L2 => ?_) ?_
 ·dsimp only [aF,lca,lna]
  refine oY rfl (bc [.slice (ξ3 2 0).1 y10.length (ξ3 2 0).2.2.1,.slice Ab p0.fR.length cb] [(0,1),(1,1)] tx pZ (by kernel_rfl)) ?_
  refine oN ?_
  exact ar (fun _ => (none,0,0,[],noR)) rfl (List.append_nil _)
 dsimp only [bJ,lsz,lss,lna,lca,List.append_nil]
 refine sf rfl (fun L2 => ?_) ?_
 ·dsimp only [aF,lca,lna]
  refine cJ rfl (yS 1 [.slice (ξ3 2 0).1 y10.length (ξ3 2 0).2.2.1,.slice Ab p0.fR.length cb] sz_53 rfl (nB rfl) rfl rfl rfl) (oN ?_)
  first | exact bL (fun _ => (none,0,0,[],noR)) rfl | exact bL (fun _ => (none,0,0,[],noR)) (List.append_nil _)
 dsimp only [bJ,lsz,lss,lna,lca,List.append_nil]
 refine k7 (eT (ak ?_))
 obtain rfl:=sI h
 exact aj (.inl rfl) rfl (bY 1 [.slice (ξ3 2 0).1 y10.length (ξ3 2 0).2.2.1,.slice Ab p0.fR.length cb] dc rfl rfl rfl) (fun W2 hW2 => ⟨((ξ3 2 0).1,y10.length,(ξ3 2 0).2.2.1),rfl,rfl,hW2.pickL [2] (by decide) rfl⟩)
theorem ph (p0:TY) (p1:Int) (res:(Int × Int)) (h:mP p0 p1 = some res) (W:World) (Aa:Option Addr) (n0_0 ca : Nat) (hn0_0:n0_0 = p0.fB.length) (hr0_0:Rd W Aa n0_0 ca (encL aA p0.fB)) (Ab:Option Addr) (n0_1 cb : Nat) (hn0_1:n0_1 = p0.fR.length) (hr0_1:Rd W Ab n0_1 cb (encL ay p0.fR)) :
  Calls Tryz.prog 33 [.agg #[.slice Aa n0_0 ca,.slice Ab n0_1 cb],vI p1].toArray W fun e W2 => e = .returned (.tuple #[vI res.1,vI res.2]) ∧ Ext W W2 []:=by
 subst hn0_0
 subst hn0_1
 unfold mP at h
 refine ab (m:=25) Tryz.func33 rfl rfl (nB rfl) (cS (cR ?_))
 refine aN [.slice Aa p0.fB.length ca,.slice Ab p0.fR.length cb] rfl rfl rfl (fun b1 => ?_)
 refine oY rfl (yAI rfl) (oY rfl (yAI rfl) (oN (eT (cS (cS (cR (oY rfl (yN 0 [.slice Aa p0.fB.length ca,.slice Ab p0.fR.length cb] dc rfl rfl rfl) ?_)))))))
 obtain ⟨y2,hy3,h⟩:=bOs h
 refine oY rfl (yC [.agg #[.slice Aa p0.fB.length ca,.slice Ab p0.fR.length cb]] sV rfl (fun W2 hW2 => du p0 y2 hy3 W2 Aa p0.fB.length ca rfl ((RdL.arg hr0_0) W2 hW2) Ab p0.fR.length cb rfl ((RdL.arg hr0_1) W2 hW2)) rfl) (oY rfl (yAI rfl) (oN (eT (cS (cR (oY rfl (yMI rfl) (oY rfl (dD rfl rfl) (oN (eT ?_)))))))))
 rcases iOs h with ⟨hp4,h⟩ | ⟨hp4,h⟩
 ·refine cT (vB hp4) (cS (cR (oY rfl (yMI rfl) (oY rfl (yAI rfl) (oY rfl (yAI rfl) (oN (eT (ak (aa ?_)))))))))
  obtain rfl:=sI h
  exact bD (.inl rfl) rfl (rVt (v:=vI 0) rfl) (rVt (v:=vI y2) rfl) (fun W2 hW2 => ⟨rfl,hW2.none⟩)
 ·refine cF (vB hp4) (cK (eT (cS (cR (oY rfl (yN 0 [.slice Aa p0.fB.length ca,.slice Ab p0.fR.length cb] dc rfl rfl rfl) (oY rfl (yMI rfl) ?_))))))
  obtain ⟨y5,hy6,h⟩:=bOs h
  refine oY rfl (yC [.agg #[.slice Aa p0.fB.length ca,.slice Ab p0.fR.length cb],vI p1] go_96 rfl (fun W2 hW2 => nC p0 p1 y5 hy6 W2 Aa p0.fB.length ca rfl ((RdL.arg hr0_0) W2 hW2) Ab p0.fR.length cb rfl ((RdL.arg hr0_1) W2 hW2)) rfl) (oY rfl (yAI rfl) (oN (eT (cS (cS (cR (oY rfl (yMI rfl) (oY rfl (bl rfl rfl) (oN (eT ?_))))))))))
  rcases iOs h with ⟨hp7,h⟩ | ⟨hp7,h⟩
  ·refine cT (vB hp7) (cS (cR (oY rfl (yAI rfl) (oY rfl (yAI rfl) (oN (eT (ak (aa ?_))))))))
   obtain rfl:=sI h
   exact bD (.inl rfl) rfl (rVt (v:=vI 0) rfl) (rVt (v:=vI 5) rfl) (fun W2 hW2 => ⟨rfl,hW2.none⟩)
  ·refine cF (vB hp7) (cK (eT (cS ?_)))
   refine bA 4 dE (by kernel_rfl) (by kernel_rfl) ?_
   refine qY rfl (yN 0 [.slice Aa p0.fB.length ca,.slice Ab p0.fR.length cb] dc rfl rfl rfl) ?_
   obtain ⟨y8,hy9,h⟩:=bOs h
   refine qY rfl (yC [.agg #[.slice Aa p0.fB.length ca,.slice Ab p0.fR.length cb]] rz rfl (fun W2 hW2 => eo p0 y8 hy9 W2 Aa p0.fB.length ca rfl ((RdL.arg hr0_0) W2 hW2) Ab p0.fR.length cb rfl ((RdL.arg hr0_1) W2 hW2)) rfl) (qY rfl (yN 0 [.slice Aa p0.fB.length ca,.slice Ab p0.fR.length cb] dc rfl rfl rfl) (qY rfl (yMI rfl) (dm ?_)))
   obtain ⟨y10,hy11,h⟩:=bOs h
   refine oC [.agg #[.slice Aa p0.fB.length ca,.slice Ab p0.fR.length cb],vI y5] _ _ _ rfl go_97 rfl (fun W2 hW2 => jG p0 y5 y10 hy11 W2 Aa p0.fB.length ca rfl ((RdL.arg hr0_0) W2 hW2) Ab p0.fR.length cb rfl ((RdL.arg hr0_1) W2 hW2)) ?_
   rintro ⟨A16,n18,c17⟩ hn19
   replace hn19 : n18 = y10.fB.length:=hn19; subst hn19
   obtain ⟨y20,hy21,h⟩:=bOs h
   refine oY rfl (yC [.agg #[.slice A16 y10.fB.length c17,.slice Ab p0.fR.length cb]] rz rfl (fun W2 hW2 => eo (TY.mk y10.fB p0.fR) y20 hy21 W2 A16 y10.fB.length c17 rfl ((RdL.row 1 rfl) W2 hW2) Ab p0.fR.length cb rfl ((RdL.arg hr0_1) W2 hW2)) rfl) (oY rfl (gF rfl rfl) (oY rfl (yAI rfl) (oY rfl (yAI rfl) (oN (eT (ak ?_))))))
   obtain rfl:=sI h
   exact bD (.inl rfl) rfl (rVt (v:=vI (w64 (y8 - y20))) rfl) (rVt (v:=vI 0) rfl) (fun W2 hW2 => ⟨rfl,hW2.none⟩)
end Go.Proofs.YthndghnkebboaaaGreat
