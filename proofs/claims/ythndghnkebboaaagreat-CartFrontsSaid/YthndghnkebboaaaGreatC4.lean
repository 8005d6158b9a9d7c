import Derived.Test.YthndghnkebboaaaGreatF
import Derived.Test.YthndghnkebboaaaGreatGy
import Derived.Test.YthndghnkebboaaaGreatC0
import Derived.Test.YthndghnkebboaaaGreatC2
set_option maxHeartbeats 4000000
set_option maxRecDepth 100000
set_option linter.unusedVariables false
namespace Go.Proofs.YthndghnkebboaaaGreat
open Go.RowKit (Below)
attribute [local irreducible] OX QX CX EX OpY Calls CallsIn
theorem dY (p0:TY) (res:Int) (h:dx p0=some res) (W:World) (Aa:Option Addr) (Q ca:Nat) (q:Q=p0.fB.length) (K:Rd W Aa Q ca (encL aH p0.fB)) (Ab:Option Addr) (U cb:Nat) (p:U=p0.fR.length) (M:Rd W Ab U cb (encL aE p0.fR)) :
  Calls Tryz.prog 45 [.agg #[.slice Aa Q ca,.slice Ab U cb]].toArray W fun e W2=>e=.returned (vI res)∧Ext W W2 []:=by
 subst q
 subst p
 unfold dx at h
 refine aj (m:=102) Tryz.func45 E E (nB E) (cS (cR ?_))
 refine aN [.slice Aa p0.fB.length ca,.slice Ab p0.fR.length cb] E E E (fun O=>?_)
 refine oY E (yAI E) (oN (eT (cS (cS (cR (oY E (yFA fm E) (oY E (yL 0 ly E E E) (oY E (bi (us:=[]) kS E) (oY E (eu E E) (oY E (yMB E) ?_))))))))))
 refine oJ 5 (fun o=>(upd (upd (upd o 1 (.pointer (some ⟨O,0,none⟩))) 2 (vI 0)) 16 (.bool ((decide (24<(p0.fB.length:Int)))||(decide (24<(p0.fR.length:Int))))))) (fun o=>?_) (fun key=>?_)
 ·refine oN (eT ?_)
  rcases iOs h with⟨n,h⟩|⟨n,h⟩
  ·refine cT (vB n) (cS (cR (oY E (yAI E) (oN (eT (ap (ab ?_)))))))
   obtain rfl:=sI h
   exact am (.inl E) E (rVt (v:=vI 2) E) (fun W2 r=>⟨E,r.none⟩)
  ·refine cF (vB n) (cK (eT (cS (cS (cR (oY E (yFA fm E) (oY E (yL 0 ly E E E) (oY E (bi (us:=[]) kS E) (oY E (yMI E) (oN (eT (cB ?_))))))))))))
   obtain⟨u6,a,h⟩:=bOs h
   refine a8 (fun(s:(Int × Int)) L tm=>∃(o:Nat→Value),L=[ak O 53 [.slice Aa p0.fB.length ca,.slice Ab p0.fR.length cb]]∧tm=(upd (upd (upd (upd (upd o 1 (.pointer (some ⟨O,0,none⟩))) 2 (vI s.1)) 18 (.slice Aa p0.fB.length ca)) 19 (vI (p0.fB.length:Int))) 20 (vI s.2))) 0 a ⟨_,E,(kp4 (kp E))⟩ ?_ ?_
   ·rintro I L tm st ⟨g4,rfl,rfl⟩ h
    unfold jW at h
    refine cS (cR (oY E (be E E) (oN (eT (cS ?_)))))
    rcases iOs h with⟨l,h⟩|⟨l,h⟩
    ·refine cT (vB l) (cK (eT (cS (cB (cS (cR (oY E (yMI E) ?_)))))))
     obtain⟨R,h⟩:=gOs h
     refine oY E (yI ni (by decide) R.1 R.2 (RdL.arg K) (eL aO E) E E) ?_
     refine oY E (yM (A:=Aa) (j:=(Int.toNat I.2*3)) [vI ((rdL p0.fB I.2).fID),vI ((rdL p0.fB I.2).fHour),vI ((rdL p0.fB I.2).fD)] ag_69 (Nat.succ_pos _) (RdL.arg K) E (bc aO R.1 (ah R.2 E))) ?_
     refine aF pW E (fun b9=>?_)
     refine oY E (yAI E) (cy E (yS 1 [vI ((rdL p0.fB I.2).fID),vI ((rdL p0.fB I.2).fHour),vI ((rdL p0.fB I.2).fD)] sz_69 E (nB E) E E E) (oN (eT (cS (cS (cR (oY E (yFA ld E) (oY E (yL 1 aK E E E) ?_))))))))
     obtain⟨gf,z,h⟩:=bOs h
     refine oY E (yC [vI ((rdL p0.fB I.2).fID),vI 1,vI 1099511627776] iF E (fun W2 r=>bk ((rdL p0.fB I.2).fID) 1 1099511627776 gf z W2 ) E) (oY E (bD E) (oY E (yMB E) ?_))
     obtain⟨go,i,h⟩:=bOs h
     refine oJ 5 (fun o=>(upd (upd (upd (upd (upd (upd (upd (upd (upd o 1 (.pointer (some ⟨O,0,none⟩))) 2 (vI I.1)) 18 (.slice Aa p0.fB.length ca)) 19 (vI (p0.fB.length:Int))) 20 (vI I.2)) 21 (.bool (decide (I.2<(p0.fB.length:Int))))) 4 (.pointer (some ⟨b9,0,none⟩))) 3 (vI I.2)) 34 (.bool go))) (fun o=>?_) (fun key=>?_)
     ·refine oY E (yMB E) ?_
      obtain⟨o0,k,h⟩:=bOs h
      refine oJ 5 (fun o=>(upd (upd (upd (upd (upd (upd (upd (upd (upd o 1 (.pointer (some ⟨O,0,none⟩))) 2 (vI I.1)) 18 (.slice Aa p0.fB.length ca)) 19 (vI (p0.fB.length:Int))) 20 (vI I.2)) 21 (.bool (decide (I.2<(p0.fB.length:Int))))) 4 (.pointer (some ⟨b9,0,none⟩))) 3 (vI I.2)) 40 (.bool o0))) (fun o=>?_) (fun key=>?_)
      ·refine oN (eT ?_)
       rcases iOs h with⟨X,h⟩|⟨X,h⟩
       ·refine cT (vB X) (cS (cR (oY E (yAI E) (oN (eT (ap (ab (ae (ab (aQ 1 ?_))))))))))
        obtain rfl:=sI h
        exact av ⟨E,_,E,(kp4 (kp E))⟩
       ·refine cF (vB X) (cK (eT (cS (cR (oY E (yN 0 [.slice Aa p0.fB.length ca,.slice Ab p0.fR.length cb] dF E E E) (oY E (yFA ld E) (oY E (yL 1 aK E E E) ?_)))))))
        obtain⟨o1,x,h⟩:=bOs h
        refine oY E (yC [.agg #[.slice Aa p0.fB.length ca,.slice Ab p0.fR.length cb],vI ((rdL p0.fB I.2).fID)] go_96 E (fun W2 r=>pH p0 ((rdL p0.fB I.2).fID) o1 x W2 Aa p0.fB.length ca E ((RdL.arg K) W2 r) Ab p0.fR.length cb E ((RdL.arg M) W2 r)) E) (oY E (yMI E) (oY E (be E E) (oN (eT ?_))))
        rcases iOs h with⟨Y,h⟩|⟨Y,h⟩
        ·refine cT (vB Y) (cS (cR (oY E (yAI E) (oN (eT (ap (ae (ab (aQ 1 ?_)))))))))
         obtain rfl:=sI h
         exact av ⟨E,_,E,(kp4 (kp E))⟩
        ·refine cF (vB Y) (cK (aw (eT (cR (oY E (aL E E) (oY E (yMI E) (oN (aQ 1 ?_))))))))
         obtain rfl:=sI h
         exact eN ⟨_,E,(kp4 (kp E))⟩
      ·clear h;rcases iOs k with⟨w,h⟩|⟨w,h⟩
       ·refine oSk (sF E E E E w) (oSk (sF E E E E w) (oSk (sF E E E E w) (oSk (sF E E E E w) (oY E (ad (vB w) E) ?_))))
        obtain rfl:=sI h
        exact key _ _ (kp4 (kp4 (kp E)))
       ·refine oY (sT E E E E w) (yFA qT E) (oY (sT E E E E w) (yL 1 aK E E E) ?_)
        obtain⟨o2,y,h⟩:=bOs h
        refine oY (sT E E E E w) (yC [vI ((rdL p0.fB I.2).fD),vI 0,vI 9] iF E (fun W2 r=>bk ((rdL p0.fB I.2).fD) 0 9 o2 y W2 ) E) (oY (sT E E E E w) (bD E) (oY E (ag (vB w) E) ?_))
        obtain rfl:=sI h
        exact key _ _ (kp4 (kp4 (kp E)))
     ·clear h;rcases iOs i with⟨D,h⟩|⟨D,h⟩
      ·refine oSk (sF E E E E D) (oSk (sF E E E E D) (oSk (sF E E E E D) (oSk (sF E E E E D) (oY E (ad (vB D) E) ?_))))
       obtain rfl:=sI h
       exact key _ _ (kp4 (kp4 (kp E)))
      ·refine oY (sT E E E E D) (yFA qX E) (oY (sT E E E E D) (yL 1 aK E E E) ?_)
       obtain⟨oX,b,h⟩:=bOs h
       refine oY (sT E E E E D) (yC [vI ((rdL p0.fB I.2).fHour)] mb E (fun W2 r=>cL ((rdL p0.fB I.2).fHour) oX b W2 ) E) (oY (sT E E E E D) (bD E) (oY E (ag (vB D) E) ?_))
       obtain rfl:=sI h
       exact key _ _ (kp4 (kp4 (kp E)))
    ·refine cF (vB l) (aD (ai ?_))
     obtain rfl:=sI h
     exact av ⟨E,_,E,(kp4 (kp E))⟩
   ·intro e L tm hJ
    rcases u6 with oq|rd
    ·dsimp only at h hJ
     obtain⟨rfl,c,rfl,rfl⟩:=hJ
     refine⟨(by intro hc;cases hc),?_⟩
     refine ae (ab ?_)
     obtain rfl:=sI h
     exact am (.inl E) E (rVt (v:=vI oq.1) E) (fun W2 r=>⟨E,r.none⟩)
    ·dsimp only at h hJ
     obtain⟨rfl,f1,rfl,rfl⟩:=hJ
     refine⟨(by intro hc;cases hc),?_⟩
     refine ac (eT (cS (cS (cR (oY E (yFA cw E) (oY E (yL 0 iG E E E) (oY E (bi (us:=[]) mi E) (oY E (yMI E) (oN (eT (cB ?_)))))))))))
     obtain⟨op,f2,h⟩:=bOs h
     refine a8 (fun(s:(Int × Int)) L tm=>∃(o:Nat→Value),L=[ak O 53 [.slice Aa p0.fB.length ca,.slice Ab p0.fR.length cb]]∧tm=(upd (upd (upd (upd (upd o 1 (.pointer (some ⟨O,0,none⟩))) 2 (vI s.1)) 49 (.slice Ab p0.fR.length cb)) 50 (vI (p0.fR.length:Int))) 51 (vI s.2))) 2 f2 ⟨_,E,(kp4 (kp E))⟩ ?_ ?_
     ·rintro f L tm st ⟨f3,rfl,rfl⟩ h
      unfold j6 at h
      refine cS (cR (oY E (be E E) (oN (eT (cS ?_)))))
      rcases iOs h with⟨Z,h⟩|⟨Z,h⟩
      ·refine cT (vB Z) (cK (eT (cS (cB (cS (cR (oY E (yMI E) ?_)))))))
       obtain⟨N,h⟩:=gOs h
       refine oY E (yI lC (by decide) N.1 N.2 (RdL.arg M) (eL ax E) E E) ?_
       refine oY E (yM (A:=Ab) (j:=(Int.toNat f.2*5)) [vI ((rdL p0.fR f.2).fID),vI ((rdL p0.fR f.2).fH.fLo),vI ((rdL p0.fR f.2).fH.fHi),vI ((rdL p0.fR f.2).fD),vI ((rdL p0.fR f.2).fW)] rC (Nat.succ_pos _) (RdL.arg M) E (bc ax N.1 (ah N.2 E))) ?_
       refine aF pY E (fun V=>?_)
       refine oY E (yAI E) (cy E (yS 1 [vI ((rdL p0.fR f.2).fID),vI ((rdL p0.fR f.2).fH.fLo),vI ((rdL p0.fR f.2).fH.fHi),vI ((rdL p0.fR f.2).fD),vI ((rdL p0.fR f.2).fW)] sz_65 E (nB E) E E E) (oN (eT (cS (cS (cR (oY E (yFA k7 E) (oY E (yL 1 aK E E E) ?_))))))))
       obtain⟨om,fr,h⟩:=bOs h
       refine oY E (yC [vI ((rdL p0.fR f.2).fID),vI 1,vI 1099511627776] iF E (fun W2 r=>bk ((rdL p0.fR f.2).fID) 1 1099511627776 om fr W2 ) E) (oY E (bD E) (oY E (yMB E) ?_))
       obtain⟨ot,fd,h⟩:=bOs h
       refine oJ 6 (fun o=>(upd (upd (upd (upd (upd (upd (upd (upd (upd o 1 (.pointer (some ⟨O,0,none⟩))) 2 (vI f.1)) 49 (.slice Ab p0.fR.length cb)) 50 (vI (p0.fR.length:Int))) 51 (vI f.2)) 52 (.bool (decide (f.2<(p0.fR.length:Int))))) 6 (.pointer (some ⟨V,0,none⟩))) 5 (vI f.2)) 66 (.bool ot))) (fun o=>?_) (fun key=>?_)
       ·refine oY E (yMB E) ?_
        obtain⟨t,fE,h⟩:=bOs h
        refine oJ 6 (fun o=>(upd (upd (upd (upd (upd (upd (upd (upd (upd o 1 (.pointer (some ⟨O,0,none⟩))) 2 (vI f.1)) 49 (.slice Ab p0.fR.length cb)) 50 (vI (p0.fR.length:Int))) 51 (vI f.2)) 52 (.bool (decide (f.2<(p0.fR.length:Int))))) 6 (.pointer (some ⟨V,0,none⟩))) 5 (vI f.2)) 73 (.bool t))) (fun o=>?_) (fun key=>?_)
        ·refine oY E (yMB E) ?_
         refine oJ 8 (fun o=>(upd (upd (upd (upd (upd (upd (upd (upd (upd o 1 (.pointer (some ⟨O,0,none⟩))) 2 (vI f.1)) 49 (.slice Ab p0.fR.length cb)) 50 (vI (p0.fR.length:Int))) 51 (vI f.2)) 52 (.bool (decide (f.2<(p0.fR.length:Int))))) 6 (.pointer (some ⟨V,0,none⟩))) 5 (vI f.2)) 82 (.bool (t||(decide ((rdL p0.fR f.2).fH.fHi<(rdL p0.fR f.2).fH.fLo)))))) (fun o=>?_) (fun key=>?_)
         ·refine oY E (yMB E) ?_
          obtain⟨oa,fG,h⟩:=bOs h
          refine oJ 5 (fun o=>(upd (upd (upd (upd (upd (upd (upd (upd (upd o 1 (.pointer (some ⟨O,0,none⟩))) 2 (vI f.1)) 49 (.slice Ab p0.fR.length cb)) 50 (vI (p0.fR.length:Int))) 51 (vI f.2)) 52 (.bool (decide (f.2<(p0.fR.length:Int))))) 6 (.pointer (some ⟨V,0,none⟩))) 5 (vI f.2)) 88 (.bool oa))) (fun o=>?_) (fun key=>?_)
          ·refine oY E (yMB E) ?_
           obtain⟨oi,fK,h⟩:=bOs h
           refine oJ 5 (fun o=>(upd (upd (upd (upd (upd (upd (upd (upd (upd o 1 (.pointer (some ⟨O,0,none⟩))) 2 (vI f.1)) 49 (.slice Ab p0.fR.length cb)) 50 (vI (p0.fR.length:Int))) 51 (vI f.2)) 52 (.bool (decide (f.2<(p0.fR.length:Int))))) 6 (.pointer (some ⟨V,0,none⟩))) 5 (vI f.2)) 94 (.bool oi))) (fun o=>?_) (fun key=>?_)
           ·refine oN (eT ?_)
            rcases iOs h with⟨T,h⟩|⟨T,h⟩
            ·refine cT (vB T) (cS (cR (oY E (yAI E) (oN (eT (ap (ab (ae (ab (aQ 1 ?_))))))))))
             obtain rfl:=sI h
             exact av ⟨E,_,E,(kp4 (kp E))⟩
            ·refine cF (vB T) (cK (eT (cS (cR (oY E (yN 0 [.slice Aa p0.fB.length ca,.slice Ab p0.fR.length cb] dF E E E) (oY E (yFA k7 E) (oY E (yL 1 aK E E E) ?_)))))))
             obtain⟨oj,fT,h⟩:=bOs h
             refine oY E (yC [.agg #[.slice Aa p0.fB.length ca,.slice Ab p0.fR.length cb],vI ((rdL p0.fR f.2).fID)] go_90 E (fun W2 r=>kE p0 ((rdL p0.fR f.2).fID) oj fT W2 Aa p0.fB.length ca E ((RdL.arg K) W2 r) Ab p0.fR.length cb E ((RdL.arg M) W2 r)) E) (oY E (yMI E) (oY E (be E E) (oN (eT ?_))))
             rcases iOs h with⟨S,h⟩|⟨S,h⟩
             ·refine cT (vB S) (cS (cR (oY E (yAI E) (oN (eT (ap (ae (ab (aQ 1 ?_)))))))))
              obtain rfl:=sI h
              exact av ⟨E,_,E,(kp4 (kp E))⟩
             ·refine cF (vB S) (cK (aw (eT (cR (oY E (aL E E) (oY E (yMI E) (oN (aQ 1 ?_))))))))
              obtain rfl:=sI h
              exact eN ⟨_,E,(kp4 (kp E))⟩
           ·clear h;rcases iOs fK with⟨F,h⟩|⟨F,h⟩
            ·refine oSk (sF E E E E F) (oSk (sF E E E E F) (oSk (sF E E E E F) (oSk (sF E E E E F) (oY E (ad (vB F) E) ?_))))
             obtain rfl:=sI h
             exact key _ _ (kp4 (kp4 (kp E)))
            ·refine oY (sT E E E E F) (yFA jT E) (oY (sT E E E E F) (yL 1 aK E E E) ?_)
             obtain⟨ok,fn,h⟩:=bOs h
             refine oY (sT E E E E F) (yC [vI ((rdL p0.fR f.2).fW),vI 1,vI 1000] iF E (fun W2 r=>bk ((rdL p0.fR f.2).fW) 1 1000 ok fn W2 ) E) (oY (sT E E E E F) (bD E) (oY E (ag (vB F) E) ?_))
             obtain rfl:=sI h
             exact key _ _ (kp4 (kp4 (kp E)))
          ·clear h;rcases iOs fG with⟨G,h⟩|⟨G,h⟩
           ·refine oSk (sF E E E E G) (oSk (sF E E E E G) (oSk (sF E E E E G) (oSk (sF E E E E G) (oY E (ad (vB G) E) ?_))))
            obtain rfl:=sI h
            exact key _ _ (kp4 (kp4 (kp E)))
           ·refine oY (sT E E E E G) (yFA qL E) (oY (sT E E E E G) (yL 1 aK E E E) ?_)
            obtain⟨r0,fl,h⟩:=bOs h
            refine oY (sT E E E E G) (yC [vI ((rdL p0.fR f.2).fD),vI 0,vI 9] iF E (fun W2 r=>bk ((rdL p0.fR f.2).fD) 0 9 r0 fl W2 ) E) (oY (sT E E E E G) (bD E) (oY E (ag (vB G) E) ?_))
            obtain rfl:=sI h
            exact key _ _ (kp4 (kp4 (kp E)))
         ·rcases ar t with g|g
          ·refine oSk (sF E E E E g) (oSk (sF E E E E g) (oSk (sF E E E E g) (oSk (sF E E E E g) (oSk (sF E E E E g) (oSk (sF E E E E g) (oSk (sF E E E E g) (oY E (ad (vB g) E) ?_)))))))
           exact key _ _ (keep (keep (keep (keep (keep (keep (keep (keep (keep E E) E) E) E) E) E) E) E) (vB (iQ g)))
          ·refine oY (sT E E E E g) (yFA iJ E) (oY (sT E E E E g) (yFA gK E) (oY (sT E E E E g) (yL 1 aK E E E) (oY (sT E E E E g) (yFA iJ E) (oY (sT E E E E g) (yFA fg E) (oY (sT E E E E g) (yL 1 aK E E E) (oY (sT E E E E g) (eu E E) (oY E (ag (vB g) E) ?_)))))))
           exact key _ _ (keep (keep (keep (keep (keep (keep (keep (keep (keep E E) E) E) E) E) E) E) E) (vB (iR g)))
        ·clear h;rcases iOs fE with⟨u,h⟩|⟨u,h⟩
         ·refine oSk (sF E E E E u) (oSk (sF E E E E u) (oSk (sF E E E E u) (oSk (sF E E E E u) (oSk (sF E E E E u) (oY E (ad (vB u) E) ?_)))))
          obtain rfl:=sI h
          exact key _ _ (kp4 (kp4 (kp E)))
         ·refine oY (sT E E E E u) (yFA iJ E) (oY (sT E E E E u) (yFA fg E) (oY (sT E E E E u) (yL 1 aK E E E) ?_))
          obtain⟨r1,ft,h⟩:=bOs h
          refine oY (sT E E E E u) (yC [vI ((rdL p0.fR f.2).fH.fHi)] mb E (fun W2 r=>cL ((rdL p0.fR f.2).fH.fHi) r1 ft W2 ) E) (oY (sT E E E E u) (bD E) (oY E (ag (vB u) E) ?_))
          obtain rfl:=sI h
          exact key _ _ (kp4 (kp4 (kp E)))
       ·clear h;rcases iOs fd with⟨d,h⟩|⟨d,h⟩
        ·refine oSk (sF E E E E d) (oSk (sF E E E E d) (oSk (sF E E E E d) (oSk (sF E E E E d) (oSk (sF E E E E d) (oY E (ad (vB d) E) ?_)))))
         obtain rfl:=sI h
         exact key _ _ (kp4 (kp4 (kp E)))
        ·refine oY (sT E E E E d) (yFA iJ E) (oY (sT E E E E d) (yFA gK E) (oY (sT E E E E d) (yL 1 aK E E E) ?_))
         obtain⟨r2,g1,h⟩:=bOs h
         refine oY (sT E E E E d) (yC [vI ((rdL p0.fR f.2).fH.fLo)] mb E (fun W2 r=>cL ((rdL p0.fR f.2).fH.fLo) r2 g1 W2 ) E) (oY (sT E E E E d) (bD E) (oY E (ag (vB d) E) ?_))
         obtain rfl:=sI h
         exact key _ _ (kp4 (kp4 (kp E)))
      ·refine cF (vB Z) (aD (ai ?_))
       obtain rfl:=sI h
       exact av ⟨E,_,E,(kp4 (kp E))⟩
     ·intro e L tm hJ
      rcases op with r3|ri
      ·dsimp only at h hJ
       obtain⟨rfl,g2,rfl,rfl⟩:=hJ
       refine⟨(by intro hc;cases hc),?_⟩
       refine ae (ab ?_)
       obtain rfl:=sI h
       exact am (.inl E) E (rVt (v:=vI r3.1) E) (fun W2 r=>⟨E,r.none⟩)
      ·dsimp only at h hJ
       obtain⟨rfl,g3,rfl,rfl⟩:=hJ
       refine⟨(by intro hc;cases hc),?_⟩
       refine ac (eT (cS (cR (oY E (yAI E) (oN (eT (ap ?_)))))))
       obtain rfl:=sI h
       exact am (.inl E) E (rVt (v:=vI 0) E) (fun W2 r=>⟨E,r.none⟩)
 ·rcases ar (decide (24<(p0.fB.length:Int)))with H|H
  ·refine oSk (sF E E E E H) (oSk (sF E E E E H) (oSk (sF E E E E H) (oSk (sF E E E E H) (oY E (ad (vB H) E) ?_))))
   exact key _ _ (keep (keep (keep E E) E) (vB (iQ H)))
  ·refine oY (sT E E E E H) (yFA cw E) (oY (sT E E E E H) (yL 0 iG E E E) (oY (sT E E E E H) (bi (us:=[]) mi E) (oY (sT E E E E H) (eu E E) (oY E (ag (vB H) E) ?_))))
   exact key _ _ (keep (keep (keep E E) E) (vB (iR H)))
theorem qP (p0:TO) (p1:TBay) (res:Bool) (h:jV p0 p1=some res) (W:World)  :
  Calls Tryz.prog 101 [.agg #[vI p0.fID,vI p0.fH.fLo,vI p0.fH.fHi,vI p0.fD,vI p0.fW],.agg #[vI p1.fID,vI p1.fHour,vI p1.fD]].toArray W fun e W2=>e=.returned (.bool res)∧Ext W W2 []:=by
 unfold jV at h
 refine aj (m:=21) Tryz.func101 E E (nB E) (cS (cR ?_))
 refine aN [vI p0.fID,vI p0.fH.fLo,vI p0.fH.fHi,vI p0.fD,vI p0.fW] E E E (fun d=>?_)
 refine aN [vI p1.fID,vI p1.fHour,vI p1.fD] E E E (fun w=>?_)
 refine oY E (yAB E) (oN (eT (cS (cR (oY E (yFA qX E) (oY E (yL 1 aK E E E) (oY E (yFA iJ E) (oY E (yFA gK E) (oY E (yL 0 aK E E E) (oY E (yFA iJ E) (oY E (yFA fg E) (oY E (yL 0 aK E E E) ?_))))))))))))
 obtain⟨r,u,h⟩:=bOs h
 refine oY E (yC [vI p1.fHour,vI p0.fH.fLo,vI p0.fH.fHi] iF E (fun W2 g=>bk p1.fHour p0.fH.fLo p0.fH.fHi r u W2 ) E) (oY E (yMB E) ?_)
 refine oJ 6 (fun o=>(upd (upd o 4 (.bool false)) 20 (.bool (r&&(decide (p0.fD≤p1.fD)))))) (fun o=>?_) (fun key=>?_)
 ·refine oY E (yAB E) (oN (eT (ap ?_)))
  obtain rfl:=sI h
  exact am (.inl E) E (rVt (v:=.bool (r&&(decide (p0.fD≤p1.fD)))) E) (fun W2 g=>⟨E,g.none⟩)
 ·rcases ar r with f|f
  ·refine oY (sT E E E E f) (yFA qT E) (oY (sT E E E E f) (yL 1 aK E E E) (oY (sT E E E E f) (yFA qL E) (oY (sT E E E E f) (yL 0 aK E E E) (oY (sT E E E E f) (lu E E) (oY E (ad (vB f) E) ?_)))))
   exact key _ _ (keep (keep E E) (vB (fF f)))
  ·refine oSk (sF E E E E f) (oSk (sF E E E E f) (oSk (sF E E E E f) (oSk (sF E E E E f) (oSk (sF E E E E f) (oY E (ag (vB f) E) ?_)))))
   exact key _ _ (keep (keep E E) (vB (fy f)))
theorem lU:∀(fuel:Nat) (p0:Int) (f:TY) (p:(List (Int × Bool))) (n:(List (Int × Int))) (res:(Bool × (List (Int × Bool)) × (List (Int × Int)))) (h:bC fuel p0 f p n=some res) (W:World) (l:World) (R:Res) (D:Nat) (d:Nat) (I:Nat) (g:Option Addr) (K o:Nat) (Y:K=f.fB.length) (F:∀W2,Below l.heap.size l W2→R.holds W2→Rd W2 g K o (encL aH f.fB)) (r:Option Addr) (M H:Nat) (Z:M=f.fR.length) (G:∀W2,Below l.heap.size l W2→R.holds W2→Rd W2 r M H (encL aE f.fR)) (V:∀W2,Below l.heap.size l W2→R.holds W2→Rd W2 (some ⟨I,0,none⟩) 1 1 [.slice g K o,.slice r M H]) (U:Nat) (T:∀W2,Below l.heap.size l W2→R.holds W2→Rd W2 (some ⟨U,0,none⟩) 1 1 [.map (some D)]) (O:Nat) (Q:∀W2,Below l.heap.size l W2→R.holds W2→Rd W2 (some ⟨O,0,none⟩) 1 1 [.map (some d)]) (S:Nat) (q:∀W2,Below l.heap.size l W2→R.holds W2→Rd W2 (some ⟨S,0,none⟩) 1 1 [.func (.func 156) #[] #[.pointer (some ⟨I,0,none⟩),.pointer (some ⟨U,0,none⟩),.pointer (some ⟨O,0,none⟩),.pointer (some ⟨S,0,none⟩)]]) (hW:Ext l W [R,mapV Tryz.prog 3 kI eI kB false D p,mapV Tryz.prog 3 kI eI kI 0 d n]),
  Calls Tryz.prog 156 [vI p0,.pointer (some ⟨I,0,none⟩),.pointer (some ⟨U,0,none⟩),.pointer (some ⟨O,0,none⟩),.pointer (some ⟨S,0,none⟩)].toArray W fun e W2=>∃x:Unit,True∧e=.returned (.bool res.1)∧Ext l W2 [R,mapV Tryz.prog 3 kI eI kB false D res.2.1,mapV Tryz.prog 3 kI eI kI 0 d res.2.2]:=by
 intro fuel
 induction fuel with
 | zero=>intro p0 f p n res h W l R D d I g K o Y F r M H Z G V U T O Q S q hW;exact absurd h (by unfold bC;exact fun h=>by cases h)
 | succ fuel ih =>
  intro p0 f p n res h W l R D d I g K o Y F r M H Z G V U T O Q S q hW
  subst Y
  subst Z
  change er (bC fuel) p0 f p n=some res at h
  unfold er at h
  refine bh (m:=51) Tryz.func156 E E (nB E) hW (cS (cR (oY E (yAB E) (oN (eT (cx_scope (cS (cx_label (eT (cS (cS (cR (oY E (yFR (A:=(some ⟨I,0,none⟩)) (j:=0) fm E) (oY E (yR (A:=(some ⟨I,0,none⟩)) (j:=(0+0)) (v:=.slice g f.fB.length o) ly (RdL.under V) E E) (oY E (bi (us:=[]) kS E) (oY E (yMI E) (oN (eT (cB ?_)))))))))))))))))))
  obtain⟨u4,f1,h⟩:=bOs h
  refine a8 (fun(s:(Bool × Int × (List (Int × Bool)) × (List (Int × Int)))) L tm=>∃(i:Nat→Value),L=[R,mapV Tryz.prog 3 kI eI kB false D s.2.2.1,mapV Tryz.prog 3 kI eI kI 0 d s.2.2.2]∧tm=(upd (upd (upd (upd (upd (upd (upd (upd (upd i 0 (vI p0)) 1 (slA (some ⟨I,0,none⟩) 0)) 2 (slA (some ⟨U,0,none⟩) 0)) 3 (slA (some ⟨O,0,none⟩) 0)) 4 (slA (some ⟨S,0,none⟩) 0)) 6 (.bool s.1)) 12 (.slice g f.fB.length o)) 13 (vI (f.fB.length:Int))) 14 (vI s.2.1))) 0 f1 ⟨_,E,(kp4 (kp4 (kp E)))⟩ ?_ ?_
  ·rintro w L tm st ⟨fl,rfl,rfl⟩ h
   unfold cd at h
   refine cS (cR (oY E (be E E) (oN (eT (cS ?_)))))
   rcases iOs h with⟨c,h⟩|⟨c,h⟩
   ·refine cT (vB c) (cK (eT (cS (cB (cS (cR (oY E (yMI E) ?_)))))))
    obtain⟨y,h⟩:=gOs h
    refine oY E (yI ni (by decide) y.1 y.2 (RdL.under F) (eL aO E) E E) ?_
    refine oY E (yM (A:=g) (j:=(Int.toNat w.2.1*3)) [vI ((rdL f.fB w.2.1).fID),vI ((rdL f.fB w.2.1).fHour),vI ((rdL f.fB w.2.1).fD)] ag_69 (Nat.succ_pos _) (RdL.under F) E (bc aO y.1 (ah y.2 E))) ?_
    refine aF pW E (fun b7=>?_)
    refine oY E (yAI E) (cy E (yS 3 [vI ((rdL f.fB w.2.1).fID),vI ((rdL f.fB w.2.1).fHour),vI ((rdL f.fB w.2.1).fD)] sz_69 E (nB E) E E E) (oN (eT (cS (cS ?_)))))
    refine aS 13 bW (by kernel_rfl) (by kernel_rfl) ?_
    refine qY E (yR (A:=(some ⟨U,0,none⟩)) (j:=0) (v:=.map (some D)) sc_189 (RdL.under T) E E) (qY E (yMI E) ?_)
    obtain⟨ft,h⟩:=gOs h
    refine qY E (kX (k:=w.2.1) (MpL.own 1 E) ke_3 um_189 ze_4 E E ft) (qY E (yMB E) ?_)
    obtain⟨g1,f2,h⟩:=bOs h
    refine qJ 9 (fun i=>(upd (upd (upd (upd (upd (upd (upd (upd (upd (upd (upd (upd (upd i 0 (vI p0)) 1 (slA (some ⟨I,0,none⟩) 0)) 2 (slA (some ⟨U,0,none⟩) 0)) 3 (slA (some ⟨O,0,none⟩) 0)) 4 (slA (some ⟨S,0,none⟩) 0)) 6 (.bool w.1)) 12 (.slice g f.fB.length o)) 13 (vI (f.fB.length:Int))) 14 (vI w.2.1)) 15 (.bool (decide (w.2.1<(f.fB.length:Int))))) 8 (.pointer (some ⟨b7,0,none⟩))) 7 (vI w.2.1)) 31 (.bool g1))) (fun i=>?_) (fun key=>?_)
    ·refine bF (oN (eT ?_))
     rcases iOs h with⟨a,h⟩|⟨a,h⟩
     ·refine cT (vB a) (aD (ai (ac (eT (cR (oY E (aL E E) (oY E (yMI E) (oN (aQ 3 ?_)))))))))
      obtain rfl:=sI h
      exact eN ⟨_,E,(kp4 (kp4 (kp E)))⟩
     ·refine cF (vB a) (cK (eT (cS (cR (oY E (yR (A:=(some ⟨U,0,none⟩)) (j:=0) (v:=.map (some D)) sc_189 (RdL.under T) E E) (oY E (yMI E) ?_))))))
      obtain⟨f3,h⟩:=gOs h
      refine cy E (la 1 (k:=w.2.1) (v:=true) E ke_3 um_189 E E E f3) (oN (eT (cS (cR (oY E (yR (A:=(some ⟨O,0,none⟩)) (j:=0) (v:=.map (some d)) tO (RdL.under Q) E E) (oY E (yMI E) ?_))))))
      obtain⟨fr,h⟩:=gOs h
      refine oY E (nn (k:=w.2.1) (MpL.own 2 E) ke_3 r9 nD E E fr) (oY E (aY E) (oY E (yE E E) (oY E (yE E E) (oY E (yAI E) (oY E (yAB E) (oN (eT (cS (cR (oY E (yMB E) (oY E (bD E) (oY E (yMB E) ?_))))))))))))
      rcases iOs h with⟨N,h⟩|⟨N,h⟩
      ·refine oSk (sF E E E E N) (oSk (sF E E E E N) (oSk (sF E E E E N) (oY E (ad (vB N) E) (oN (eT (cT E (cS (cR (oY E (yR (A:=(some ⟨O,0,none⟩)) (j:=0) (v:=.map (some d)) tO (RdL.under Q) E E) (oY E (yMI E) (oY E (yMI E) ?_)))))))))))
       obtain⟨fd,h⟩:=gOs h
       refine cy E (la 2 (k:=w.2.1) (v:=p0) E ke_3 r9 E E E fd) (oN (eT (cS (cR (oY E (yAB E) (oN (eT (ap (ae (ab (aQ 3 ?_)))))))))))
       obtain rfl:=sI h
       exact av ⟨E,_,E,(kp4 (kp4 (kp E)))⟩
      ·refine oY (sT E E E E N) (yR (A:=(some ⟨S,0,none⟩)) (j:=0) (v:=.func (.func 156) #[] #[.pointer (some ⟨I,0,none⟩),.pointer (some ⟨U,0,none⟩),.pointer (some ⟨O,0,none⟩),.pointer (some ⟨S,0,none⟩)]) sc_127 (RdL.under q) E E) (oY (sT E E E E N) (yMI E) ?_)
       obtain⟨b,fE,h⟩:=bOs h
       refine gR [1,2] [] [vI (aC 0 w.2.2.2 w.2.1)] [.pointer (some ⟨I,0,none⟩),.pointer (some ⟨U,0,none⟩),.pointer (some ⟨O,0,none⟩),.pointer (some ⟨S,0,none⟩)] (fun(_:Unit)=>True) (fun _=>.bool b.1) (fun _=>[mapV Tryz.prog 3 kI eI kB false D b.2.1,mapV Tryz.prog 3 kI eI kI 0 d b.2.2]) (fun _=>[]) (Foc.c2 E E) (by decide) (sT E E E E N) go_156 E E (fun _=>E) (fun W2 X=>ih (aC 0 w.2.2.2 w.2.1) f ((w.2.1,true)::w.2.2.1) w.2.2.2 b fE W2 _ (bH [R,mapV Tryz.prog 3 kI eI kB false D ((w.2.1,true)::w.2.2.1),mapV Tryz.prog 3 kI eI kI 0 d w.2.2.2,ak b7 69 [vI ((rdL f.fB w.2.1).fID),vI ((rdL f.fB w.2.1).fHour),vI ((rdL f.fB w.2.1).fD)]] [1,2]) D d I g f.fB.length o E (fun W3 hb hR=>(RdL.under F) W3 (X.restL hb hR)) r f.fR.length H E (fun W3 hb hR=>(RdL.under G) W3 (X.restL hb hR)) (fun W3 hb hR=>(RdL.under V) W3 (X.restL hb hR)) U (fun W3 hb hR=>(RdL.under T) W3 (X.restL hb hR)) O (fun W3 hb hR=>(RdL.under Q) W3 (X.restL hb hR)) S (fun W3 hb hR=>(RdL.under q) W3 (X.restL hb hR)) X) ?_
       rintro - -
       try dsimp only[me,lsz,lss,List.append_nil]
       refine oY E (ag (vB N) E) (oN (eT ?_))
       rcases iOs h with⟨z,h⟩|⟨z,h⟩
       ·refine cT (vB z) (cS (cR (oY E (yR (A:=(some ⟨O,0,none⟩)) (j:=0) (v:=.map (some d)) tO (RdL.under Q) E E) (oY E (yMI E) (oY E (yMI E) ?_)))))
        obtain⟨fG,h⟩:=gOs h
        refine cy E (la 2 (k:=w.2.1) (v:=p0) E ke_3 r9 E E E fG) (oN (eT (cS (cR (oY E (yAB E) (oN (eT (ap (ae (ab (aQ 3 ?_)))))))))))
        obtain rfl:=sI h
        exact av ⟨E,_,E,(kp4 (kp4 (kp E)))⟩
       ·refine cF (vB z) (cK (aw (eT (cR (oY E (aL E E) (oY E (yMI E) (oN (aQ 3 ?_))))))))
        obtain rfl:=sI h
        exact eN ⟨_,E,(kp4 (kp4 (kp E)))⟩
    ·clear h;rcases iOs f2 with⟨u,h⟩|⟨u,h⟩
     ·refine aa (sF E E E E u) (aa (sF E E E E u) (aa (sF E E E E u) (aa (sF E E E E u) (aa (sF E E E E u) (aa (sF E E E E u) (aa (sF E E E E u) (aa (sF E E E E u) (qY E (ad (vB u) E) ?_))))))))
      obtain rfl:=sI h
      exact key _ _ (kp4 (kp4 (kp4 (kp E))))
     ·refine qY (sT E E E E u) (yFR (A:=(some ⟨I,0,none⟩)) (j:=0) cw E) (qY (sT E E E E u) (yR (A:=(some ⟨I,0,none⟩)) (j:=(0+1)) (v:=.slice r f.fR.length H) iG (RdL.under V) E E) (qY (sT E E E E u) (yMI E) ?_))
      obtain⟨t,h⟩:=gOs h
      refine qY (sT E E E E u) (yI lC (by decide) t.1 t.2 (RdL.under G) (eL ax E) E E) ?_
      refine qY (sT E E E E u) (yM (A:=r) (j:=(Int.toNat p0*5)) [vI ((rdL f.fR p0).fID),vI ((rdL f.fR p0).fH.fLo),vI ((rdL f.fR p0).fH.fHi),vI ((rdL f.fR p0).fD),vI ((rdL f.fR p0).fW)] rC (Nat.succ_pos _) (RdL.under G) E (bc ax t.1 (ah t.2 E))) (qY (sT E E E E u) (yN 3 [vI ((rdL f.fB w.2.1).fID),vI ((rdL f.fB w.2.1).fHour),vI ((rdL f.fB w.2.1).fD)] ag_69 E E E) ?_)
      obtain⟨g2,fK,h⟩:=bOs h
      refine qY (sT E E E E u) (yC [.agg #[vI ((rdL f.fR p0).fID),vI ((rdL f.fR p0).fH.fLo),vI ((rdL f.fR p0).fH.fHi),vI ((rdL f.fR p0).fD),vI ((rdL f.fR p0).fW)],.agg #[vI ((rdL f.fB w.2.1).fID),vI ((rdL f.fB w.2.1).fHour),vI ((rdL f.fB w.2.1).fD)]] go_101 E (fun W2 X=>qP (TO.mk ((rdL f.fR p0).fID) (TSpan.mk ((rdL f.fR p0).fH.fLo) ((rdL f.fR p0).fH.fHi)) ((rdL f.fR p0).fD) ((rdL f.fR p0).fW)) (TBay.mk ((rdL f.fB w.2.1).fID) ((rdL f.fB w.2.1).fHour) ((rdL f.fB w.2.1).fD)) g2 fK W2 ) E) (qY (sT E E E E u) (bD E) (qY E (ag (vB u) E) ?_))
      obtain rfl:=sI h
      exact key _ _ (kp4 (kp4 (kp4 (kp E))))
   ·refine cF (vB c) (aD (ai ?_))
    obtain rfl:=sI h
    exact av ⟨E,_,E,(kp4 (kp4 (kp E)))⟩
  ·intro e L tm hJ
   rcases u4 with g3|go
   ·dsimp only at h hJ
    obtain⟨rfl,fT,rfl,rfl⟩:=hJ
    refine⟨(by intro hc;cases hc),?_⟩
    refine ae (ab (nG ?_))
    obtain rfl:=sI h
    exact am (.inl E) E (rVt (v:=.bool g3.1) E) (fun W2 X=>⟨(),trivial,E,X.take 3⟩)
   ·dsimp only at h hJ
    obtain⟨rfl,fn,rfl,rfl⟩:=hJ
    refine⟨(by intro hc;cases hc),?_⟩
    refine ac (eT (cS (cR (oY E (yAB E) (oN (eT (ap (nG ?_))))))))
    obtain rfl:=sI h
    exact am (.inl E) E (rVt (v:=.bool false) E) (fun W2 X=>⟨(),trivial,E,X.take 3⟩)
theorem jL (p0:(List (Int × Int))) (p1:TY) (p2:Int) (res:(Bool × (List (Int × Int)))) (h:gB p0 p1 p2=some res) (W:World) (H:World) (R:Res) (g:Nat) (Ac:Option Addr) (u cc:Nat) (w:u=p1.fB.length) (D:∀W2,Below H.heap.size H W2→R.holds W2→Rd W2 Ac u cc (encL aH p1.fB)) (o:Option Addr) (d r:Nat) (F:d=p1.fR.length) (G:∀W2,Below H.heap.size H W2→R.holds W2→Rd W2 o d r (encL aE p1.fR)) (hW:Ext H W [R,mapV Tryz.prog 3 kI eI kI 0 g p0]) :
  Calls Tryz.prog 117 [.map (some g),.agg #[.slice Ac u cc,.slice o d r],vI p2].toArray W fun e W2=>∃x:Unit,True∧e=.returned (.bool res.1)∧Ext H W2 [R,mapV Tryz.prog 3 kI eI kI 0 g res.2]:=by
 subst w
 subst F
 unfold gB at h
 refine bh (m:=14) Tryz.func117 E E (nB E) hW (cS (cR ?_))
 refine aN [.map (some g)] E E E (fun I=>?_)
 refine aN [.slice Ac p1.fB.length cc,.slice o p1.fR.length r] E E E (fun K=>?_)
 refine oY E (yAB E) (oN (eT (cS (cR ?_))))
 refine kq 3 kI eI kB false E (fun O=>?_)
 refine aF ze_189 E (fun M=>?_)
 try dsimp only[lna,lca,lsz,lss]
 refine cy E (dJ 5 (v:=.map (some O)) sz_189 E (Nat.lt_of_lt_of_le (Nat.lt_succ_self _) (nB E)) E E E) (oN (eT (cS (cR ?_))))
 refine aF ze_127 E (fun N=>?_)
 try dsimp only[lna,lca,lsz,lss]
 refine oN (eT (cS (cR (oY E (bZ [.pointer (some ⟨K,0,none⟩),.pointer (some ⟨M,0,none⟩),.pointer (some ⟨I,0,none⟩),.pointer (some ⟨N,0,none⟩)] E E) (cy E (dJ 6 (v:=.func (.func 156) #[] #[.pointer (some ⟨K,0,none⟩),.pointer (some ⟨M,0,none⟩),.pointer (some ⟨I,0,none⟩),.pointer (some ⟨N,0,none⟩)]) sz_127 E (Nat.lt_of_lt_of_le (Nat.lt_succ_self _) (nB E)) E E E) (oN (eT (cS (cR (oY E (yL 6 sc_127 E E E) (oY E (yMI E) ?_)))))))))))
 obtain⟨Q,U,h⟩:=bOs h
 refine gR [4,1] [] [vI p2] [.pointer (some ⟨K,0,none⟩),.pointer (some ⟨M,0,none⟩),.pointer (some ⟨I,0,none⟩),.pointer (some ⟨N,0,none⟩)] (fun(_:Unit)=>True) (fun _=>.bool Q.1) (fun _=>[mapV Tryz.prog 3 kI eI kB false O Q.2.1,mapV Tryz.prog 3 kI eI kI 0 g Q.2.2]) (fun _=>[]) (Foc.c2 E E) (by decide) E go_156 E E (fun _=>E) (fun W2 f=>lU (p1.fB.length+2) p2 p1 [] p0 Q U W2 _ (bH [R,mapV Tryz.prog 3 kI eI kI 0 g p0,ak I 152 [.map (some g)],ak K 53 [.slice Ac p1.fB.length cc,.slice o p1.fR.length r],mapV Tryz.prog 3 kI eI kB false O [],ak M 189 [.map (some O)],ak N 127 [.func (.func 156) #[] #[.pointer (some ⟨K,0,none⟩),.pointer (some ⟨M,0,none⟩),.pointer (some ⟨I,0,none⟩),.pointer (some ⟨N,0,none⟩)]]] [4,1]) O g K Ac p1.fB.length cc E (fun W3 hb hR=>(RdL.under D) W3 (f.restL hb hR)) o p1.fR.length r E (fun W3 hb hR=>(RdL.under G) W3 (f.restL hb hR)) (fun W3 hb hR=>(RdL.cells 3 E) W3 (f.restL hb hR)) M (fun W3 hb hR=>(RdL.cells 5 E) W3 (f.restL hb hR)) I (fun W3 hb hR=>(RdL.cells 2 E) W3 (f.restL hb hR)) N (fun W3 hb hR=>(RdL.cells 6 E) W3 (f.restL hb hR)) f) ?_
 rintro - -
 try dsimp only[me,lsz,lss,List.append_nil]
 refine oY E (yAB E) (oN (eT (ap ?_)))
 obtain rfl:=sI h
 exact am (.inl E) E (rVt (v:=.bool Q.1) E) (fun W2 f=>⟨(),trivial,E,f.take 2⟩)
theorem gu (p0:(List Int)) (p1:Int) (p2:Int) (p3:Int→Int→Option Int) (res:(List Int)) (h:cm p0 p1 p2 p3=some res) (W:World) (q:World) (R:Res) (Aa:Option Addr) (r ca:Nat) (Q:r=p0.length) (fid3:Nat) (fst3 caps3:List Value) (X:bA Tryz.prog fid3=true) (Y:∀W2,Below q.heap.size q W2→R.holds W2→∀x b,∀y,p3 x b=some y→Calls Tryz.prog fid3 (fst3++(([vI x,vI b]:List Value)++caps3)).toArray W2 fun e W3=>e=.returned (vI y)∧Ext W2 W3 []) (hW:Ext q W [R,aR Aa ca 3 1 r (encL cI p0)]) :
  Calls Tryz.prog 190 [.slice Aa r ca,vI p1,vI p2,.func (.func fid3) fst3.toArray caps3.toArray].toArray W fun e W2=>e=.returned (.tuple #[])∧r=res.length∧Ext q W2 [R,aR Aa ca 3 1 r (encL cI res)]:=by
 subst Q
 unfold cm at h
 refine bh (m:=53) Tryz.func190 E E (nB E) hW (cS (cR (oY E (yMI E) (oY E (aL E E) (oY E (yAI E) (oN (eT (cB ?_))))))))
 obtain⟨c,Z,h⟩:=bOs h
 refine bj (fun(s:(Int × (List Int))) L tm=>∃(I:Nat→Value),p0.length=s.2.length∧L=[R,aR Aa ca 3 1 p0.length (encL cI s.2)]∧tm=(upd (upd (upd (upd (upd I 0 (.slice Aa p0.length ca)) 1 (vI p1)) 2 (vI p2)) 3 (.func (.func fid3) fst3.toArray caps3.toArray)) 8 (vI s.1))) 0 Z ⟨_,E,E,(kp4 (kp E))⟩ ?_ ?_
 ·rintro p L tm st ⟨n,u,rfl,rfl⟩ h
  unfold de at h
  refine cS (cS (cR (oY E (yMI E) (oY E (yMI E) (oY E (be E E) (oN (eT ?_)))))))
  rcases iOs h with⟨U,h⟩|⟨U,h⟩
  ·refine cT (vB U) (cK (eT (cS (cB (cS (cR (oY E (yMI E) (oY E (yAI E) (oN (eT (cB ?_)))))))))))
   obtain⟨u9,V,h⟩:=bOs h
   refine bj (fun(s:(Int × (List Int))) L tm=>∃(I:Nat→Value),p0.length=s.2.length∧L=[R,aR Aa ca 3 1 p0.length (encL cI s.2)]∧tm=(upd (upd (upd (upd (upd (upd (upd I 0 (.slice Aa p0.length ca)) 1 (vI p1)) 2 (vI p2)) 3 (.func (.func fid3) fst3.toArray caps3.toArray)) 8 (vI p.1)) 14 (.bool (decide (p.1<p2)))) 9 (vI s.1))) 2 V ⟨_,u,E,(kp4 (kp (kp (kp E))))⟩ ?_ ?_
   ·rintro o L tm st ⟨l,g,rfl,rfl⟩ h
    unfold df at h
    refine cS (cS ?_)
    refine aS 17 bW (by kernel_rfl) (by kernel_rfl) ?_
    refine qY E (yMI E) (qY E (yMI E) (qY E (eu E E) (qY E (yMB E) ?_)))
    obtain⟨z,T,h⟩:=bOs h
    refine qJ 13 (fun I=>(upd (upd (upd (upd (upd (upd (upd (upd I 0 (.slice Aa p0.length ca)) 1 (vI p1)) 2 (vI p2)) 3 (.func (.func fid3) fst3.toArray caps3.toArray)) 8 (vI p.1)) 14 (.bool (decide (p.1<p2)))) 9 (vI o.1)) 34 (.bool z))) (fun I=>?_) (fun key=>?_)
    ·refine bF (oN (eT ?_))
     rcases iOs h with⟨K,h⟩|⟨K,h⟩
     ·refine cT (vB K) (cK (eT (cS (cB ?_))))
      obtain⟨d,h⟩:=gOs h
      obtain⟨w,h⟩:=gOs h
      obtain⟨D,h⟩:=gOs h
      obtain⟨F,h⟩:=gOs h
      refine gI [[],[],[],[],[3],[],[],[6],[5,6,7],[5,6,7,8],[],[],[10,11],[10,11,12],[0,1,5,6,7,8,9,10,11,12,13],[0,1,5,6,7,8,9,10,11,12,13,14],[0,1,2,3,4,5,6,7,8,9,10,11,12,13,14,15],[0,1,2,3,4,5,6,7,8,9,10,11,12,13,14,15,16]] [(none,0,[true,true]),(none,0,[true,true]),(none,0,[true,false]),(none,0,[true,false]),(none,0,[true,false]),(none,0,[true,true]),(none,0,[true,true]),(none,0,[true,true]),(none,0,[true,true]),(none,0,[true,true]),(none,0,[true,true]),(none,0,[true,true]),(none,0,[true,true]),(none,0,[true,true]),(none,0,[true,true]),(some 1,0,[true,true]),(none,0,[true,true]),(some 1,0,[true,true])] [⟨fun _=>.slice Aa p0.length ca,fun _=>noR,fun _=>[]⟩,⟨fun _=>vI o.1,fun _=>noR,fun _=>[]⟩,⟨fun _=>.slice Aa p0.length ca,fun _=>noR,fun _=>[]⟩,⟨fun _=>vI o.1,fun _=>noR,fun _=>[]⟩,⟨fun _=>vI (w64 (o.1-1)),fun _=>noR,fun _=>[]⟩,⟨fun _=>.slice Aa p0.length ca,fun _=>noR,fun _=>[]⟩,⟨fun _=>vI o.1,fun _=>noR,fun _=>[]⟩,⟨fun _=>vI (w64 (o.1-1)),fun _=>noR,fun _=>[]⟩,⟨fun _=>slA Aa (Int.toNat (w64 (o.1-1))*1),fun _=>noR,fun _=>[]⟩,⟨fun _=>vI (rdL o.2 (w64 (o.1-1))),fun _=>noR,fun _=>[]⟩,⟨fun _=>.slice Aa p0.length ca,fun _=>noR,fun _=>[]⟩,⟨fun _=>vI o.1,fun _=>noR,fun _=>[]⟩,⟨fun _=>slA Aa (Int.toNat o.1*1),fun _=>noR,fun _=>[]⟩,⟨fun _=>vI (rdL o.2 o.1),fun _=>noR,fun _=>[]⟩,⟨fun _=>slA Aa (Int.toNat o.1*1),fun _=>noR,fun _=>[]⟩,⟨fun _=>undef,fun _=>aR Aa ca 3 1 p0.length (encL cI (o.2.set (Int.toNat o.1) (rdL o.2 (w64 (o.1-1))))),fun _=>[]⟩,⟨fun _=>slA Aa (Int.toNat (w64 (o.1-1))*1),fun _=>noR,fun _=>[]⟩,⟨fun _=>undef,fun _=>aR Aa ca 3 1 p0.length (encL cI ((o.2.set (Int.toNat o.1) (rdL o.2 (w64 (o.1-1)))).set (Int.toNat (w64 (o.1-1))) (rdL o.2 o.1))),fun _=>[]⟩] 2 bW (by kernel_rfl) (by kernel_rfl) ⟨⟨fun ξ14 ξ14' h=>⟨E,E,E⟩,fun _=>E⟩,⟨fun ξ14 ξ14' h=>⟨E,E,E⟩,fun _=>E⟩,⟨fun ξ14 ξ14' h=>⟨E,E,E⟩,fun _=>E⟩,⟨fun ξ14 ξ14' h=>⟨E,E,E⟩,fun _=>E⟩,⟨fun ξ14 ξ14' h=>⟨E,E,E⟩,fun _=>E⟩,⟨fun ξ14 ξ14' h=>⟨E,E,E⟩,fun _=>E⟩,⟨fun ξ14 ξ14' h=>⟨E,E,E⟩,fun _=>E⟩,⟨fun ξ14 ξ14' h=>⟨E,E,E⟩,fun _=>E⟩,⟨fun ξ14 ξ14' h=>⟨E,E,E⟩,fun _=>E⟩,⟨fun ξ14 ξ14' h=>⟨E,E,E⟩,fun _=>E⟩,⟨fun ξ14 ξ14' h=>⟨E,E,E⟩,fun _=>E⟩,⟨fun ξ14 ξ14' h=>⟨E,E,E⟩,fun _=>E⟩,⟨fun ξ14 ξ14' h=>⟨E,E,E⟩,fun _=>E⟩,⟨fun ξ14 ξ14' h=>⟨E,E,E⟩,fun _=>E⟩,⟨fun ξ14 ξ14' h=>⟨E,E,E⟩,fun _=>E⟩,⟨fun ξ14 ξ14' h=>⟨E,E,E⟩,fun _=>E⟩,⟨fun ξ14 ξ14' h=>⟨E,E,E⟩,fun _=>E⟩,⟨fun ξ14 ξ14' h=>⟨E,E,E⟩,fun _=>E⟩,trivial⟩ E (fun ξ14=>?_)
      refine cW E (fun L2=>?_) ?_
      ·dsimp only[aM,lca,lna]
       refine oY E (yMS E) (oN ?_)
       exact az (fun _=>(none,0,0,[],noR)) E (List.append_nil _)
      dsimp only[cg,lsz,lss,lna,lca,List.append_nil]
      refine cW E (fun L2=>?_) ?_
      ·dsimp only[aM,lca,lna]
       refine oY E (yMI E) (oN ?_)
       exact az (fun _=>(none,0,0,[],noR)) E (List.append_nil _)
      dsimp only[cg,lsz,lss,lna,lca,List.append_nil]
      refine cW E (fun L2=>?_) ?_
      ·dsimp only[aM,lca,lna]
       refine oY E (yMS E) (oN ?_)
       exact az (fun _=>(none,0,0,[],noR)) E (List.append_nil _)
      dsimp only[cg,lsz,lss,lna,lca,List.append_nil]
      refine cW E (fun L2=>?_) ?_
      ·dsimp only[aM,lca,lna]
       refine oY E (yMI E) (oN ?_)
       exact az (fun _=>(none,0,0,[],noR)) E (List.append_nil _)
      dsimp only[cg,lsz,lss,lna,lca,List.append_nil]
      refine cW E (fun L2=>?_) ?_
      ·dsimp only[aM,lca,lna]
       refine oY E (ex E E) (oN ?_)
       exact az (fun _=>(none,0,0,[],noR)) E (List.append_nil _)
      dsimp only[cg,lsz,lss,lna,lca,List.append_nil]
      refine cW E (fun L2=>?_) ?_
      ·dsimp only[aM,lca,lna]
       refine oY E (yMS E) (oN ?_)
       exact az (fun _=>(none,0,0,[],noR)) E (List.append_nil _)
      dsimp only[cg,lsz,lss,lna,lca,List.append_nil]
      refine cW E (fun L2=>?_) ?_
      ·dsimp only[aM,lca,lna]
       refine oY E (yMI E) (oN ?_)
       exact az (fun _=>(none,0,0,[],noR)) E (List.append_nil _)
      dsimp only[cg,lsz,lss,lna,lca,List.append_nil]
      refine cW E (fun L2=>?_) ?_
      ·dsimp only[aM,lca,lna]
       refine oY E (ex E E) (oN ?_)
       exact az (fun _=>(none,0,0,[],noR)) E (List.append_nil _)
      dsimp only[cg,lsz,lss,lna,lca,List.append_nil]
      refine cW E (fun L2=>?_) ?_
      ·dsimp only[aM,lca,lna]
       refine oY E (yI bS (by decide) d.1 d.2 (RdL.row 1 E) (eL aB g) E E) ?_
       refine oN ?_
       exact az (fun _=>(none,0,0,[],noR)) E (List.append_nil _)
      dsimp only[cg,lsz,lss,lna,lca,List.append_nil]
      refine cW E (fun L2=>?_) ?_
      ·dsimp only[aM,lca,lna]
       refine oY E (yR (A:=Aa) (j:=(Int.toNat (w64 (o.1-1))*1)) (v:=vI (rdL o.2 (w64 (o.1-1)))) aK (RdL.row 1 E) E (ay aB d.1 (ah d.2 g) E)) (oN ?_)
       exact az (fun _=>(none,0,0,[],noR)) E (List.append_nil _)
      dsimp only[cg,lsz,lss,lna,lca,List.append_nil]
      refine cW E (fun L2=>?_) ?_
      ·dsimp only[aM,lca,lna]
       refine oY E (yMS E) (oN ?_)
       exact az (fun _=>(none,0,0,[],noR)) E (List.append_nil _)
      dsimp only[cg,lsz,lss,lna,lca,List.append_nil]
      refine cW E (fun L2=>?_) ?_
      ·dsimp only[aM,lca,lna]
       refine oY E (yMI E) (oN ?_)
       exact az (fun _=>(none,0,0,[],noR)) E (List.append_nil _)
      dsimp only[cg,lsz,lss,lna,lca,List.append_nil]
      refine cW E (fun L2=>?_) ?_
      ·dsimp only[aM,lca,lna]
       refine oY E (yI bS (by decide) w.1 w.2 (RdL.row 1 E) (eL aB g) E E) ?_
       refine oN ?_
       exact az (fun _=>(none,0,0,[],noR)) E (List.append_nil _)
      dsimp only[cg,lsz,lss,lna,lca,List.append_nil]
      refine cW E (fun L2=>?_) ?_
      ·dsimp only[aM,lca,lna]
       refine oY E (yR (A:=Aa) (j:=(Int.toNat o.1*1)) (v:=vI (rdL o.2 o.1)) aK (RdL.row 1 E) E (ay aB w.1 (ah w.2 g) E)) (oN ?_)
       exact az (fun _=>(none,0,0,[],noR)) E (List.append_nil _)
      dsimp only[cg,lsz,lss,lna,lca,List.append_nil]
      refine cW E (fun L2=>?_) ?_
      ·dsimp only[aM,lca,lna]
       refine oY E (yI bS (by decide) D.1 D.2 (RdL.row 1 E) (eL aB g) E E) ?_
       refine oN ?_
       exact az (fun _=>(none,0,0,[],noR)) E (List.append_nil _)
      dsimp only[cg,lsz,lss,lna,lca,List.append_nil]
      refine gx_n E (fun L2=>?_) ?_
      ·dsimp only[aM,lca,lna]
       refine cy E (iD 1 (xs:=o.2) aB (rdL o.2 (w64 (o.1-1))) px E D.1 (ah D.2 g) E E E E) (oN ?_)
       first|exact ci (fun _=>(none,0,0,[],noR)) E|exact ci (fun _=>(none,0,0,[],noR)) (List.append_nil _)
      dsimp only[cg,lsz,lss,lna,lca,List.append_nil]
      refine cW E (fun L2=>?_) ?_
      ·dsimp only[aM,lca,lna]
       refine oY E (yI bS (by decide) F.1 F.2 (RdL.row 1 E) (eL aB (cY g)) E E) ?_
       refine oN ?_
       exact az (fun _=>(none,0,0,[],noR)) E (List.append_nil _)
      dsimp only[cg,lsz,lss,lna,lca,List.append_nil]
      refine gx_n E (fun L2=>?_) ?_
      ·dsimp only[aM,lca,lna]
       refine cy E (iD 1 (xs:=(o.2.set (Int.toNat o.1) (rdL o.2 (w64 (o.1-1))))) aB (rdL o.2 o.1) px E F.1 (ah F.2 (cY g)) E E E E) (oN ?_)
       first|exact ci (fun _=>(none,0,0,[],noR)) E|exact ci (fun _=>(none,0,0,[],noR)) (List.append_nil _)
      dsimp only[cg,lsz,lss,lna,lca,List.append_nil]
      refine my (aw (eT (cR (oY E (yMI E) (oY E (ex E E) (oY E (yAI E) (oN ?_)))))))
      obtain rfl:=sI h
      exact eN ⟨_,(cY (cY g)),E,(kp4 (kp (kp (kp E))))⟩
     ·refine cF (vB K) (aD (ai ?_))
      obtain rfl:=sI h
      exact av ⟨E,_,g,E,(kp4 (kp (kp (kp E))))⟩
    ·clear h;rcases iOs T with⟨f,h⟩|⟨f,h⟩
     ·refine qY (sT E E E E f) (bK (v:=.func (.func fid3) fst3.toArray caps3.toArray) E) (qY (sT E E E E f) (yMS E) (qY (sT E E E E f) (yMI E) ?_))
      obtain⟨G,h⟩:=gOs h
      refine qY (sT E E E E f) (yI bS (by decide) G.1 G.2 (RdL.row 1 E) (eL aB g) E E) ?_
      refine qY (sT E E E E f) (yR (A:=Aa) (j:=(Int.toNat o.1*1)) (v:=vI (rdL o.2 o.1)) aK (RdL.row 1 E) E (ay aB G.1 (ah G.2 g) E)) (qY (sT E E E E f) (yMS E) (qY (sT E E E E f) (yMI E) (qY (sT E E E E f) (ex E E) ?_)))
      obtain⟨H,h⟩:=gOs h
      refine qY (sT E E E E f) (yI bS (by decide) H.1 H.2 (RdL.row 1 E) (eL aB g) E E) ?_
      refine qY (sT E E E E f) (yR (A:=Aa) (j:=(Int.toNat (w64 (o.1-1))*1)) (v:=vI (rdL o.2 (w64 (o.1-1)))) aK (RdL.row 1 E) E (ay aB H.1 (ah H.2 g) E)) ?_
      obtain⟨k,S,h⟩:=bOs h
      refine qY (sT E E E E f) (gx [vI (rdL o.2 o.1),vI (rdL o.2 (w64 (o.1-1)))] X E E (fun W2 M=>Y W2 M.below (M.mem (i:=0) E) (rdL o.2 o.1) (rdL o.2 (w64 (o.1-1))) k S)) (qY (sT E E E E f) (be E E) (qY E (ad (vB f) E) ?_))
      obtain rfl:=sI h
      exact key _ _ (kp4 (kp4 E))
     ·refine aa (sF E E E E f) (aa (sF E E E E f) (aa (sF E E E E f) (aa (sF E E E E f) (aa (sF E E E E f) (aa (sF E E E E f) (aa (sF E E E E f) (aa (sF E E E E f) (aa (sF E E E E f) (aa (sF E E E E f) (aa (sF E E E E f) (aa (sF E E E E f) (qY E (ag (vB f) E) ?_))))))))))))
      obtain rfl:=sI h
      exact key _ _ (kp4 (kp4 E))
   ·intro e L tm hJ
    obtain⟨rfl,t,N,rfl,rfl⟩:=hJ
    refine⟨(by intro hc;cases hc),?_⟩
    refine ac (aw (eT (cR (oY E (yMI E) (oY E (aL E E) (oY E (yAI E) (oN ?_)))))))
    obtain rfl:=sI h
    exact eN ⟨_,N,E,(kp4 (kp E))⟩
  ·refine cF (vB U) (aD (ai ?_))
   obtain rfl:=sI h
   exact av ⟨E,_,u,E,(kp4 (kp E))⟩
 ·intro e L tm hJ
  obtain⟨rfl,a,O,rfl,rfl⟩:=hJ
  refine⟨(by intro hc;cases hc),?_⟩
  refine ac ?_
  obtain rfl:=sI h
  exact cO (.inr E) E  (fun W2 M=>⟨E,O,M.take 2⟩)
theorem jB (p0:(List Int)) (p1:Int) (p2:Int→Int→Option Int) (res:(List Int)) (h:dZ p0 p1 p2=some res) (W:World) (H:World) (R:Res) (Aa:Option Addr) (f ca:Nat) (g:f=p0.length) (fid2:Nat) (fst2 caps2:List Value) (u:bA Tryz.prog fid2=true) (d:∀W2,Below H.heap.size H W2→R.holds W2→∀X Y,∀y,p2 X Y=some y→Calls Tryz.prog fid2 (fst2++(([vI X,vI Y]:List Value)++caps2)).toArray W2 fun e W3=>e=.returned (vI y)∧Ext W2 W3 []) (hW:Ext H W [R,aR Aa ca 3 1 f (encL cI p0)]) :
  Calls Tryz.prog 175 [.slice Aa f ca,vI p1,.func (.func fid2) fst2.toArray caps2.toArray].toArray W fun e W2=>e=.returned (.tuple #[])∧f=res.length∧Ext H W2 [R,aR Aa ca 3 1 f (encL cI res)]:=by
 subst g
 unfold dZ at h
 refine bh (m:=63) Tryz.func175 E E (nB E) hW (cS (cR (oY E (yAI E) (oN (eT (cS (cR (oY E (yMI E) (oY E (yAI E) (oY E (yAI E) (oN (eT (cS (cB ?_))))))))))))))
 obtain⟨Z,N,h⟩:=bOs h
 refine bj (fun(s:(Int × Int)) L tm=>∃(o:Nat→Value),L=[R,aR Aa ca 3 1 p0.length (encL cI p0)]∧tm=(upd (upd (upd (upd (upd (upd o 0 (.slice Aa p0.length ca)) 1 (vI p1)) 2 (.func (.func fid2) fst2.toArray caps2.toArray)) 6 (vI 20)) 7 (vI s.1)) 8 (vI s.2))) 0 N ⟨_,E,(kp4 (kp (kp E)))⟩ ?_ ?_
 ·rintro S L tm st ⟨I,rfl,rfl⟩ h
  unfold fk at h
  refine cS (cS (cR (oY E (yMI E) (oY E (yMI E) (oY E (gV E E) (oN (eT ?_)))))))
  obtain⟨O,h⟩:=gOs h
  refine cF (vB O) (aD (ai ?_))
  obtain rfl:=sI h
  exact av ⟨E,_,E,(kp4 (kp (kp E)))⟩
 ·intro e L tm hJ
  obtain⟨rfl,K,rfl,rfl⟩:=hJ
  refine⟨(by intro hc;cases hc),?_⟩
  refine ac (eT (cS (cR (oY E (yMS E) (oY E (yMI E) (oY E (yMI E) (oY E (bK (v:=.func (.func fid2) fst2.toArray caps2.toArray) E) ?_)))))))
  obtain⟨M,Q,h⟩:=bOs h
  refine f9 1 [.slice Aa p0.length ca,vI Z.1,vI p1,.func (.func fid2) fst2.toArray caps2.toArray] (fun(_:Unit)=>p0.length=M.length) (fun _=>.tuple #[]) (fun _=>aR Aa ca 3 1 p0.length (encL cI M)) (fun _=>[]) E E go_190 E (fun W2 r=>(gu p0 Z.1 p1 p2 M Q W2 _ (bH [R,aR Aa ca 3 1 p0.length (encL cI p0)] [1]) Aa p0.length ca E fid2 fst2 caps2 u (fun W3 hb hR=>d W3 hb (hR.1 0 _ (by decide) E)) r).mono (fun e W3 h3=>⟨(),h3.2.1,h3.1,h3.2.2⟩)) ?_
  rintro-U
  try dsimp only[lsz,lss,List.append_nil]
  refine oN (eT (cB ?_))
  obtain⟨V,w,h⟩:=bOs h
  refine bj (fun(s:(Int × Int × Int)) L tm=>∃(o:Nat→Value),L=[R,aR Aa ca 3 1 p0.length (encL cI M)]∧tm=(upd (upd (upd (upd (upd (upd o 0 (.slice Aa p0.length ca)) 1 (vI p1)) 2 (.func (.func fid2) fst2.toArray caps2.toArray)) 6 (vI s.1)) 7 (vI s.2.1)) 8 (vI s.2.2))) 2 w ⟨_,E,(kp4 (kp (kp E)))⟩ ?_ ?_
  ·rintro T L tm st ⟨D,rfl,rfl⟩ h
   unfold fh at h
   refine cS (cS (cR (oY E (yMI E) (oY E (yMI E) (oY E (be E E) (oN (eT ?_)))))))
   obtain⟨F,h⟩:=gOs h
   refine cF (vB F) (aD (ai ?_))
   obtain rfl:=sI h
   exact av ⟨E,_,E,(kp4 (kp (kp E)))⟩
  ·intro e L tm hJ
   obtain⟨rfl,G,rfl,rfl⟩:=hJ
   refine⟨(by intro hc;cases hc),?_⟩
   refine ac ?_
   obtain rfl:=sI h
   exact cO (.inr E) E  (fun W2 r=>⟨E,U,r.take 2⟩)
theorem gW (p0:(List Int)) (p1:Int→Int→Option Int) (res:(List Int)) (h:cD p0 p1=some res) (W:World) (d:World) (R:Res) (Aa:Option Addr) (f ca:Nat) (g:f=p0.length) (fid1:Nat) (fst1 caps1:List Value) (r:bA Tryz.prog fid1=true) (u:∀W2,Below d.heap.size d W2→R.holds W2→∀G H,∀y,p1 G H=some y→Calls Tryz.prog fid1 (fst1++(([vI G,vI H]:List Value)++caps1)).toArray W2 fun e W3=>e=.returned (vI y)∧Ext W2 W3 []) (hW:Ext d W [R,aR Aa ca 3 1 f (encL cI p0)]) :
  Calls Tryz.prog 143 [.slice Aa f ca,.func (.func fid1) fst1.toArray caps1.toArray].toArray W fun e W2=>e=.returned (.tuple #[])∧f=res.length∧Ext d W2 [R,aR Aa ca 3 1 f (encL cI res)]:=by
 subst g
 unfold cD at h
 refine bh (m:=9) Tryz.func143 E E (nB E) hW (cR (oY E (yMS E) (oY E (yMS E) (oY E (bi (us:=[]) cQ E) (oY E (bK (v:=.func (.func fid1) fst1.toArray caps1.toArray) E) ?_)))))
 obtain⟨w,D,h⟩:=bOs h
 refine f9 1 [.slice Aa p0.length ca,vI (p0.length:Int),.func (.func fid1) fst1.toArray caps1.toArray] (fun(_:Unit)=>p0.length=w.length) (fun _=>.tuple #[]) (fun _=>aR Aa ca 3 1 p0.length (encL cI w)) (fun _=>[]) E E go_175 E (fun W2 o=>(jB p0 (p0.length:Int) p1 w D W2 _ (bH [R,aR Aa ca 3 1 p0.length (encL cI p0)] [1]) Aa p0.length ca E fid1 fst1 caps1 r (fun W3 hb hR=>u W3 hb (hR.1 0 _ (by decide) E)) o).mono (fun e W3 h3=>⟨(),h3.2.1,h3.1,h3.2.2⟩)) ?_
 rintro-F
 try dsimp only[lsz,lss,List.append_nil]
 refine oN ?_
 obtain rfl:=sI h
 exact cO (.inr E) E  (fun W2 o=>⟨E,F,o.take 2⟩)
theorem nb (p0:Int) (p1:Int) (res:Int) (h:jj p0 p1=some res) (W:World)  :
  Calls Tryz.prog 145 [vI p0,vI p1].toArray W fun e W2=>e=.returned (vI res)∧Ext W W2 []:=by
 unfold jj at h
 refine aj (m:=20) Tryz.func145 E E (nB E) (cS (cR (oY E (yAI E) (oN (eT (cS (cR (oY E (yMI E) ?_))))))))
 obtain⟨F,w,h⟩:=bOs h
 refine oY E (yC [vI p0] go_176 E (fun W2 f=>gc p0 F w W2 ) E) (oY E (yAB E) (oN (eT (cS (cR (oY E (yMI E) ?_))))))
 obtain⟨G,D,h⟩:=bOs h
 refine oY E (yC [vI p1] go_176 E (fun W2 f=>gc p1 G D W2 ) E) (oY E (yAB E) (oN (eT (cS (cS (cR (oY E (yMB E) (oN (eT ?_)))))))))
 rcases iOs h with⟨g,h⟩|⟨g,h⟩
 ·refine cT (vB g) (cS (cS (cR (oY E (yMB E) (oN (eT ?_))))))
  rcases iOs h with⟨o,h⟩|⟨o,h⟩
  ·refine cT (vB o) (cS (cR (oY E (yAI E) (oN (eT (ap (ab (ab ?_))))))))
   obtain rfl:=sI h
   exact am (.inl E) E (rVt (v:=vI 0) E) (fun W2 f=>⟨E,f.none⟩)
  ·refine cF (vB o) (cK (eT (cS (cR (oY E (yAI E) (oN (eT (ap (ab ?_)))))))))
   obtain rfl:=sI h
   exact am (.inl E) E (rVt (v:=vI (-1)) E) (fun W2 f=>⟨E,f.none⟩)
 ·refine cF (vB g) (cK (eT (cS (cS (cR (oY E (yMB E) (oN (eT ?_))))))))
  rcases iOs h with⟨r,h⟩|⟨r,h⟩
  ·refine cT (vB r) (cS (cR (oY E (yAI E) (oN (eT (ap (ab ?_)))))))
   obtain rfl:=sI h
   exact am (.inl E) E (rVt (v:=vI 1) E) (fun W2 f=>⟨E,f.none⟩)
  ·refine cF (vB r) (cK (eT (cS (cS (cR (oY E (yMI E) (oY E (yMI E) (oY E (be E E) (oN (eT ?_))))))))))
   rcases iOs h with⟨u,h⟩|⟨u,h⟩
   ·refine cT (vB u) (cS (cR (oY E (yAI E) (oN (eT (ap (ab ?_)))))))
    obtain rfl:=sI h
    exact am (.inl E) E (rVt (v:=vI (-1)) E) (fun W2 f=>⟨E,f.none⟩)
   ·refine cF (vB u) (cK (eT (cS (cS (cR (oY E (yMI E) (oY E (yMI E) (oY E (eu E E) (oN (eT ?_))))))))))
    rcases iOs h with⟨d,h⟩|⟨d,h⟩
    ·refine cT (vB d) (cS (cR (oY E (yAI E) (oN (eT (ap (ab ?_)))))))
     obtain rfl:=sI h
     exact am (.inl E) E (rVt (v:=vI 1) E) (fun W2 f=>⟨E,f.none⟩)
    ·refine cF (vB d) (cK (eT (cS (cR (oY E (yAI E) (oN (eT (ap ?_))))))))
     obtain rfl:=sI h
     exact am (.inl E) E (rVt (v:=vI 0) E) (fun W2 f=>⟨E,f.none⟩)
theorem pD (p0:Int) (p1:Int) (g:TY) (res:Int) (h:jN p0 p1 g=some res) (W:World) (F:Nat) (w:Option Addr) (u D:Nat) (G:u=g.fB.length) (N:Rd W w u D (encL aH g.fB)) (f:Option Addr) (d r:Nat) (H:d=g.fR.length) (o:Rd W f d r (encL aE g.fR)) (I:Rd W (some ⟨F,0,none⟩) 1 1 [.slice w u D,.slice f d r]) :
  Calls Tryz.prog 144 [vI p0,vI p1,.pointer (some ⟨F,0,none⟩)].toArray W fun e W2=>e=.returned (vI res)∧Ext W W2 []:=by
 subst G
 subst H
 unfold jN at h
 refine aj (m:=19) Tryz.func144 E E (nB E) (cS (cR (oY E (yAI E) (oN (eT (cS ?_))))))
 refine aS 14 bW (by kernel_rfl) (by kernel_rfl) ?_
 refine qY E (yFR (A:=(some ⟨F,0,none⟩)) (j:=0) cw E) (qY E (yR (A:=(some ⟨F,0,none⟩)) (j:=(0+1)) (v:=.slice f g.fR.length r) iG (RdL.arg I) E E) (qY E (yMI E) ?_))
 obtain⟨K,h⟩:=gOs h
 refine qY E (yI lC (by decide) K.1 K.2 (RdL.arg o) (eL ax E) E E) ?_
 refine qY E (yFR (A:=f) (j:=(Int.toNat p1*5)) jT E) (qY E (yR (A:=f) (j:=((Int.toNat p1*5)+4)) (v:=vI ((rdL g.fR p1).fW)) aK (RdL.arg o) E (eG ax K.1 (ah K.2 E) E)) (qY E (yFR (A:=(some ⟨F,0,none⟩)) (j:=0) cw E) (qY E (yR (A:=(some ⟨F,0,none⟩)) (j:=(0+1)) (v:=.slice f g.fR.length r) iG (RdL.arg I) E E) (qY E (yMI E) ?_))))
 obtain⟨M,h⟩:=gOs h
 refine qY E (yI lC (by decide) M.1 M.2 (RdL.arg o) (eL ax E) E E) ?_
 refine qY E (yFR (A:=f) (j:=(Int.toNat p0*5)) jT E) (qY E (yR (A:=f) (j:=((Int.toNat p0*5)+4)) (v:=vI ((rdL g.fR p0).fW)) aK (RdL.arg o) E (eG ax M.1 (ah M.2 E) E)) ?_)
 obtain⟨U,Q,h⟩:=bOs h
 refine qY E (yC [vI ((rdL g.fR p1).fW),vI ((rdL g.fR p0).fW)] go_145 E (fun W2 O=>nb ((rdL g.fR p1).fW) ((rdL g.fR p0).fW) U Q W2 ) E) (qY E (yAI E) (bF (oN (eT (ap ?_)))))
 obtain rfl:=sI h
 exact am (.inl E) E (rVt (v:=vI U) E) (fun W2 O=>⟨E,O.none⟩)
theorem mr (p0:TY) (res:(List (Int × Int))) (h:lM p0=some res) (W:World) (Aa:Option Addr) (D ca:Nat) (X:D=p0.fB.length) (F:Rd W Aa D ca (encL aH p0.fB)) (Ab:Option Addr) (G cb:Nat) (Y:G=p0.fR.length) (H:Rd W Ab G cb (encL aE p0.fR)) :
  Calls Tryz.prog 100 [.agg #[.slice Aa D ca,.slice Ab G cb]].toArray W fun e W2=>∃x:Nat,e=.returned (.map (some x))∧Ext W W2 [mapV Tryz.prog 3 kI eI kI 0 x res]:=by
 subst X
 subst Y
 unfold lM at h
 refine aj (m:=35) Tryz.func100 E E (nB E) (cS (cR ?_))
 refine aN [.slice Aa p0.fB.length ca,.slice Ab p0.fR.length cb] E E E (fun N=>?_)
 refine oY E (eX E) (oN (eT (cS (cR (oY E (yAS E) (oN (eT (cS (cS (cR (oY E (yFA cw E) (oY E (yL 0 iG E E E) (oY E (bi (us:=[]) mi E) (oY E (yMI E) (oN (eT (cB ?_)))))))))))))))))
 obtain⟨I,q,h⟩:=bOs h
 refine dr 3 1 ?_
 refine bj (fun(s:(Int × (List Int))) L tm=>∃(Z:Nat→Value) (O:Option Addr) (Q:Nat) (K:Nat),K=s.2.length∧L=[ak N 53 [.slice Aa p0.fB.length ca,.slice Ab p0.fR.length cb],aR O Q 3 1 K (encL cI s.2)]∧tm=(upd (upd (upd (upd (upd Z 1 (.pointer (some ⟨N,0,none⟩))) 2 (.map none)) 3 (.slice O K Q)) 10 (vI (p0.fR.length:Int))) 11 (vI s.1))) 0 q ⟨_,none,0,0,E,E,(kp4 (kp E))⟩ ?_ ?_
 ·rintro b L tm st ⟨i,V,T,c,rfl,rfl,rfl⟩ h
  unfold mI at h
  refine cS (cR (oY E (be E E) (oN (eT (cS ?_)))))
  rcases iOs h with⟨S,h⟩|⟨S,h⟩
  ·refine cT (vB S) (cK (eT (cS (cB (cS (cR (oY E (yMI E) (oY E (yAI E) (oN (eT (cR (oY E (yMS E) (oY E (yMI E) ?_)))))))))))))
   refine aP 1 (encL cI [b.1]) _ o4 cQ nD qa (by decide) (by decide) (by kernel_rfl) (eL aB E) E (fun b7=>?_)
   obtain⟨p,h⟩:=gOs h
   refine cx 1 cQ nD qa E E E (RdL.row 2 E) (eL aB E) (ef qs _) (eR p (by decide)) E (fun A8 c9=>?_)
   refine oY E (yAS E) (oN (aw (eT (cR (oY E (aL E E) (oY E (yMI E) (oN (aQ 2 ?_))))))))
   obtain rfl:=sI h
   exact eN ⟨_,A8,c9,(b.2.length+1),(jM E E),E,(kp4 (kp E))⟩
  ·refine cF (vB S) (aD (ai ?_))
   obtain rfl:=sI h
   exact av ⟨E,_,V,T,b.2.length,E,E,(kp4 (kp E))⟩
 ·intro e L tm hJ
  obtain⟨rfl,k,f,g,f1,rfl,rfl,rfl⟩:=hJ
  refine⟨(by intro hc;cases hc),?_⟩
  refine ac (eT (cS (cR (oY E (yMS E) (oY E (bZ [.pointer (some ⟨N,0,none⟩)] E E) ?_)))))
  obtain⟨r,n,h⟩:=bOs h
  refine f9 1 [.slice f I.2.length g,.func (.func 144) #[] #[.pointer (some ⟨N,0,none⟩)]] (fun(_:Unit)=>I.2.length=r.length) (fun _=>.tuple #[]) (fun _=>aR f g 3 1 I.2.length (encL cI r)) (fun _=>[]) E E go_143 E (fun W2 o=>(gW I.2 (fun f2 f3=>jN f2 f3 p0) r n W2 _ (bH [ak N 53 [.slice Aa p0.fB.length ca,.slice Ab p0.fR.length cb],aR f g 3 1 I.2.length (encL cI I.2)] [1]) f I.2.length g E 144 [] [.pointer (some ⟨N,0,none⟩)] go_144 (fun W3 hb hR x0 x1 y hxy=>pD  x0 x1 p0 y hxy W3 N Aa p0.fB.length ca E ((RdL.arg F) W3 (o.rest hb hR)) Ab p0.fR.length cb E ((RdL.arg H) W3 (o.rest hb hR)) ((RdL.cells 0 E) W3 (o.rest hb hR))) o).mono (fun e W3 h3=>⟨(),h3.2.1,h3.1,h3.2.2⟩)) ?_
  rintro-U
  try dsimp only[lsz,lss,List.append_nil]
  refine oN (eT (cS (cR ?_)))
  refine kq 3 kI eI kI 0 E (fun u=>?_)
  refine oY E (eX E) (oN (eT (cS (cS (cR (oY E (yMS E) (oY E (bi (us:=[]) cQ E) (oY E (yMI E) (oN (eT (cB ?_)))))))))))
  obtain⟨fG,l,h⟩:=bOs h
  refine bj (fun(s:(Int × (List (Int × Int)))) L tm=>∃(Z:Nat→Value),L=[ak N 53 [.slice Aa p0.fB.length ca,.slice Ab p0.fR.length cb],aR f g 3 1 I.2.length (encL cI r),mapV Tryz.prog 3 kI eI kI 0 u s.2]∧tm=(upd (upd (upd (upd (upd (upd Z 1 (.pointer (some ⟨N,0,none⟩))) 2 (.map none)) 5 (.map (some u))) 23 (.slice f I.2.length g)) 24 (vI (I.2.length:Int))) 25 (vI s.1))) 2 l ⟨_,E,(kp4 (kp (kp E)))⟩ ?_ ?_
  ·rintro w L tm st ⟨t,rfl,rfl⟩ h
   unfold m8 at h
   refine cS (cR (oY E (be E E) (oN (eT (cS ?_)))))
   rcases iOs h with⟨M,h⟩|⟨M,h⟩
   ·refine cT (vB M) (cK (eT (cS (cB (cS (cR ?_))))))
    obtain⟨d,h⟩:=gOs h
    refine oY E (yI bS (by decide) d.1 d.2 (RdL.row 1 E) (eL aB U) E E) ?_
    refine oY E (yR (A:=f) (j:=(Int.toNat w.1*1)) (v:=vI (rdL r w.1)) aK (RdL.row 1 E) E (ay aB d.1 (ah d.2 U) E)) (oY E (yAI E) (oN (eT (cR (oY E (cU E) (oY E (yN 0 [.slice Aa p0.fB.length ca,.slice Ab p0.fR.length cb] dF E E E) (oY E (yMI E) ?_)))))))
    obtain⟨R,a,h⟩:=bOs h
    refine gR [2] [] [.map (some u),.agg #[.slice Aa p0.fB.length ca,.slice Ab p0.fR.length cb],vI (rdL r w.1)] [] (fun(_:Unit)=>True) (fun _=>.bool R.1) (fun _=>[mapV Tryz.prog 3 kI eI kI 0 u R.2]) (fun _=>[]) (Foc.c1 E) (by decide) E go_117 E E (fun _=>E) (fun W2 o=>jL w.2 p0 (rdL r w.1) R a W2 _ (bH [ak N 53 [.slice Aa p0.fB.length ca,.slice Ab p0.fR.length cb],aR f g 3 1 I.2.length (encL cI r),mapV Tryz.prog 3 kI eI kI 0 u w.2] [2]) u Aa p0.fB.length ca E (fun W3 hb hR=>(RdL.arg F) W3 (o.restL hb hR)) Ab p0.fR.length cb E (fun W3 hb hR=>(RdL.arg H) W3 (o.restL hb hR)) o) ?_
    rintro - -
    try dsimp only[me,lsz,lss,List.append_nil]
    refine oN (aw (eT (cR (oY E (aL E E) (oY E (yMI E) (oN ?_))))))
    obtain rfl:=sI h
    exact eN ⟨_,E,(kp4 (kp (kp E)))⟩
   ·refine cF (vB M) (aD (ai ?_))
    obtain rfl:=sI h
    exact av ⟨E,_,E,(kp4 (kp (kp E)))⟩
  ·intro e L tm hJ
   obtain⟨rfl,z,rfl,rfl⟩:=hJ
   refine⟨(by intro hc;cases hc),?_⟩
   refine ac (eT (cS (cR (oY E (cU E) (oY E (eX E) (oN (eT (ap ?_))))))))
   obtain rfl:=sI h
   exact am (.inl E) E (rVt (v:=.map (some u)) E) (fun W2 o=>⟨u,E,(o.pick 2 E)⟩)
theorem ji (p0:(List (Int × Int))) (p1:TY) (res:Int) (h:f8 p0 p1=some res) (W:World) (f:Nat) (hm0_0:(mapV Tryz.prog 3 kI eI kI 0 f p0).holds W) (Ac:Option Addr) (w cc:Nat) (G:w=p1.fB.length) (K:Rd W Ac w cc (encL aH p1.fB)) (o:Option Addr) (D r:Nat) (H:D=p1.fR.length) (F:Rd W o D r (encL aE p1.fR)) :
  Calls Tryz.prog 130 [.map (some f),.agg #[.slice Ac w cc,.slice o D r]].toArray W fun e W2=>e=.returned (vI res)∧Ext W W2 []:=by
 subst G
 subst H
 unfold f8 at h
 refine aj (m:=23) Tryz.func130 E E (nB E) (cS (cR ?_))
 refine aN [.slice Ac p1.fB.length cc,.slice o p1.fR.length r] E E E (fun O=>?_)
 refine oY E (yAI E) (oN (eT (cS (cR (oY E (yAI E) (oN (eT (cS (cS (cR (oY E (cU E) (rU hm0_0 ke_3 r9 E E (fun Q k3 hk4=>(oN (eT ?_)))))))))))))))
 obtain⟨u,h⟩:=gOs h
 refine cB (sU (fun(d:Nat × (Int→Bool) × Int) L tm=>FoldI eI p0 (fun a g=>w64 (a+((rdL p1.fR (aC 0 p0 g)).fW))) 0 d∧∃(I:Nat→Value),L=[ak O 53 [.slice Ac p1.fB.length cc,.slice o p1.fR.length r],rngA W Tryz.prog 3 kI eI kI 0 f Q p0 d.2.1 d.1 none]∧tm=(upd (upd (upd (upd (upd (upd I 0 (.map (some f))) 1 (.agg #[.slice Ac p1.fB.length cc,.slice o p1.fR.length r])) 3 (.pointer (some ⟨O,0,none⟩))) 4 (vI 0)) 5 (vI d.2.2)) 9 (.pointer (some ⟨Q,0,none⟩)))) (fun s=>s.1) (k3,(fun y=>bt p0 y),0) ⟨FoldI.start,_,E,(kp4 (kp (kp E)))⟩ ?_)
 rintro d L tm ⟨hI13,I,rfl,rfl⟩
 refine cS (cR ?_)
 refine tM 1 ((mapV Tryz.prog 3 kI eI kI 0 f p0).inb _ hm0_0 _ E) E ke_3 E E (fun hno11=>?_) (fun g k6 M hly8 hM9 hk10=>?_)
 ·refine oY E (yE E E) (oN (eT (cS (cF E (aD (ai ?_))))))
  refine ex_outM (by intro h;cases h) ?_
  have hS16:=hI13.done (C:=(fun g=>((0:Int)≤aC 0 p0 g∧aC 0 p0 g<(p1.fR.length:Int)))) u hno11 (fun x _ y _ z=>w64_comm (fun g=>((rdL p1.fR (aC 0 p0 g)).fW)) x y z)
  rw[hS16]
  refine ac (eT (cS (cR (oY E (yMI E) (oY E (yAI E) (oN (eT (ap ?_))))))))
  obtain rfl:=sI h
  exact am (.inl E) E (rVt (v:=vI ((iI p0).foldl (fun a g=>w64 (a+((rdL p1.fR (aC 0 p0 g)).fW))) 0)) E) (fun W2 N=>⟨E,N.none⟩)
 ·refine oY E (yE E E) (oN (eT (cS (cT E (cK (eT (cB (cS (cR (oY E (tq 1 ((mapV Tryz.prog 3 kI eI kI 0 f p0).inb _ hm0_0 _ E) E E) (oY E (yE E E) (oY E (yAI E) (oN (eT (cR (oY E (yMI E) (oY E (yFA cw E) (oY E (yL 0 iG E E E) (oY E (yMI E) ?_)))))))))))))))))))
  refine oY E (yI lC (by decide) (kR (C:=(fun g=>((0:Int)≤aC 0 p0 g∧aC 0 p0 g<(p1.fR.length:Int)))) u hM9).1 (kR (C:=(fun g=>((0:Int)≤aC 0 p0 g∧aC 0 p0 g<(p1.fR.length:Int)))) u hM9).2 (RdL.arg F) (eL ax E) E E) ?_
  refine oY E (yFR (A:=o) (j:=(Int.toNat (aC 0 p0 g)*5)) jT E) (oY E (yR (A:=o) (j:=((Int.toNat (aC 0 p0 g)*5)+4)) (v:=vI ((rdL p1.fR (aC 0 p0 g)).fW)) aK (RdL.arg F) E (eG ax (kR (C:=(fun g=>((0:Int)≤aC 0 p0 g∧aC 0 p0 g<(p1.fR.length:Int)))) u hM9).1 (ah (kR (C:=(fun g=>((0:Int)≤aC 0 p0 g∧aC 0 p0 g<(p1.fR.length:Int)))) u hM9).2 E) E)) (oY E (aL E E) (oY E (yAI E) (oN (aw (oV 1 E ?_))))))
  exact tI (k6,(fun q=>d.2.1 q && !decide (q=g)),w64 (d.2.2+((rdL p1.fR (aC 0 p0 g)).fW))) ⟨hI13.step M hly8 hM9,_,E,(kp4 (kp (kp E)))⟩ hk10
theorem fz (p0:TY) (res:Int) (h:gm p0=some res) (W:World) (Aa:Option Addr) (g ca:Nat) (d:g=p0.fB.length) (o:Rd W Aa g ca (encL aH p0.fB)) (Ab:Option Addr) (r cb:Nat) (w:r=p0.fR.length) (u:Rd W Ab r cb (encL aE p0.fR)) :
  Calls Tryz.prog 83 [.agg #[.slice Aa g ca,.slice Ab r cb]].toArray W fun e W2=>e=.returned (vI res)∧Ext W W2 []:=by
 subst d
 subst w
 unfold gm at h
 refine aj (m:=10) Tryz.func83 E E (nB E) (cS (cR ?_))
 refine aN [.slice Aa p0.fB.length ca,.slice Ab p0.fR.length cb] E E E (fun K=>?_)
 refine oY E (yAI E) (oN (eT (cS (cR (oY E (yN 0 [.slice Aa p0.fB.length ca,.slice Ab p0.fR.length cb] dF E E E) ?_)))))
 obtain⟨H,D,h⟩:=bOs h
 refine mD [.agg #[.slice Aa p0.fB.length ca,.slice Ab p0.fR.length cb]] _ _ E go_100 E (fun W2 f=>mr p0 H D W2 Aa p0.fB.length ca E ((RdL.arg o) W2 f) Ab p0.fR.length cb E ((RdL.arg u) W2 f)) ?_
 rintro F
 refine oY E (sG [.map (some F)] [] E E) (oY E (fI E) (oN (eT (cS (cR (oY E (dD E) (oY E (yN 0 [.slice Aa p0.fB.length ca,.slice Ab p0.fR.length cb] dF E E E) ?_)))))))
 obtain⟨I,G,h⟩:=bOs h
 refine oY E (gx (fst:=[.map (some F)]) (caps:=[]) [.agg #[.slice Aa p0.fB.length ca,.slice Ab p0.fR.length cb]] go_130 E E (fun W2 f=>ji H p0 I G W2 F ((MpL.own 1 E) W2 f) Aa p0.fB.length ca E ((RdL.arg o) W2 f) Ab p0.fR.length cb E ((RdL.arg u) W2 f))) (oY E (yAI E) (oN (eT (ap ?_))))
 obtain rfl:=sI h
 exact am (.inl E) E (rVt (v:=vI I) E) (fun W2 f=>⟨E,f.none⟩)
theorem nX (p0__:TO) (p1:Int→Option Int) (f:Int) (res:Bool) (h:kw p0__ p1 f=some res) (W:World) (fid1:Nat) (fst1 caps1:List Value) (u:bA Tryz.prog fid1=true) (d:∀W2,Below W.heap.size W W2→∀x,∀y,p1 x=some y→Calls Tryz.prog fid1 (fst1++(([vI x]:List Value)++caps1)).toArray W2 fun e W3=>e=.returned (vI y)∧Ext W2 W3 []) (g:Nat) (o:Rd W (some ⟨g,0,none⟩) 1 1 (cI f)) :
  Calls Tryz.prog 85 [.agg #[vI p0__.fID,vI p0__.fH.fLo,vI p0__.fH.fHi,vI p0__.fD,vI p0__.fW],.func (.func fid1) fst1.toArray caps1.toArray,.pointer (some ⟨g,0,none⟩)].toArray W fun e W2=>e=.returned (.bool res)∧Ext W W2 []:=by
 unfold kw at h
 refine aj (m:=10) Tryz.func85 E E (nB E) (cS (cR ?_))
 refine aN [vI p0__.fID,vI p0__.fH.fLo,vI p0__.fH.fHi,vI p0__.fD,vI p0__.fW] E E E (fun F=>?_)
 refine oY E (yAB E) (oN (eT (cS ?_)))
 refine aS 5 bW (by kernel_rfl) (by kernel_rfl) ?_
 refine qY E (bK (v:=.func (.func fid1) fst1.toArray caps1.toArray) E) ?_
 obtain⟨D,w,h⟩:=bOs h
 refine qY E (gx [vI 0] u E E (fun W2 r=>d W2 r.below 0 D w)) (qY E (yR (A:=(some ⟨g,0,none⟩)) (j:=0) (v:=vI f) aK (RdL.arg o) E E) (qY E (be E E) (qY E (yAB E) (bF (oN (eT (ap ?_)))))))
 obtain rfl:=sI h
 exact am (.inl E) E (rVt (v:=.bool (decide (D<f))) E) (fun W2 r=>⟨E,r.none⟩)
theorem pq (p0:TO) (p1:Int→Option Int) (f:Int) (res:Bool) (h:k9 p0 p1 f=some res) (W:World) (fid1:Nat) (fst1 caps1:List Value) (u:bA Tryz.prog fid1=true) (d:∀W2,Below W.heap.size W W2→∀x,∀y,p1 x=some y→Calls Tryz.prog fid1 (fst1++(([vI x]:List Value)++caps1)).toArray W2 fun e W3=>e=.returned (vI y)∧Ext W2 W3 []) (g:Nat) (o:Rd W (some ⟨g,0,none⟩) 1 1 (cI f)) :
  Calls Tryz.prog 88 [.agg #[vI p0.fID,vI p0.fH.fLo,vI p0.fH.fHi,vI p0.fD,vI p0.fW],.func (.func fid1) fst1.toArray caps1.toArray,.pointer (some ⟨g,0,none⟩)].toArray W fun e W2=>e=.returned (.bool res)∧Ext W W2 []:=by
 unfold k9 at h
 refine aj (m:=13) Tryz.func88 E E (nB E) (cS (cR ?_))
 refine aN [vI p0.fID,vI p0.fH.fLo,vI p0.fH.fHi,vI p0.fD,vI p0.fW] E E E (fun F=>?_)
 refine oY E (yAB E) (oN (eT (cS ?_)))
 refine aS 8 bW (by kernel_rfl) (by kernel_rfl) ?_
 refine qY E (bK (v:=.func (.func fid1) fst1.toArray caps1.toArray) E) (qY E (yFA jT E) (qY E (yL 0 aK E E E) (qY E (aL E E) ?_)))
 obtain⟨D,w,h⟩:=bOs h
 refine qY E (gx [vI (w64 (p0.fW+1))] u E E (fun W2 r=>d W2 r.below (w64 (p0.fW+1)) D w)) (qY E (yR (A:=(some ⟨g,0,none⟩)) (j:=0) (v:=vI f) aK (RdL.arg o) E E) (qY E (cZ E E) (qY E (yAB E) (bF (oN (eT (ap ?_)))))))
 obtain rfl:=sI h
 exact am (.inl E) E (rVt (v:=.bool (D==f)) E) (fun W2 r=>⟨E,r.none⟩)
theorem ju (p0:(List TO)) (res:(List TO)) (h:dN p0=some res) (W:World) (Aa:Option Addr) (f ca:Nat) (r:f=p0.length) (g:Rd W Aa f ca (encL aE p0)) :
  Calls Tryz.prog 115 [.slice Aa f ca].toArray W fun e W2=>∃x:Option Addr × Nat × Nat,x.2.1=res.length∧e=.returned (.slice x.1 x.2.1 x.2.2)∧Ext W W2 [aR x.1 x.2.2 65 5 x.2.1 (encL aE res)]:=by
 subst r
 unfold dN at h
 refine aj (m:=8) Tryz.func115 E E (nB E) (cS (cR (oY E (yAS E) (oN (eT (cS (cS (cR (oY E (yMS E) (oY E (qN mi E E) (oN (eT ?_))))))))))))
 rcases ar (Option.isNone Aa)with o|o
 ·refine cT (vB o) ?_
  have z6:=qU (Option.isNone_iff_eq_none.1 o▸g) ax (by decide)
  replace h:=(gOs h).2
  rw[z6]at h
  refine cS (cR (oY E (yAS E) (oN (eT (ap (ab ?_))))))
  obtain rfl:=sI h
  exact am (.inl E) E (rVt (v:=.slice none 0 0) E) (fun W2 u=>⟨(none,0,0),E,E,((u.nilrow 65 5).pick 0 E)⟩)
 ·refine cF (vB o) (cK (eT (cS (cR ?_))))
  refine ib aE mi pY by_65 E (fun F=>?_)
  refine oY E (yMS E) ?_
  obtain⟨d,h⟩:=gOs h
  refine cx 0 mi pY by_65 E E E (RdL.arg g) (eL ax E) (ef n3 _) (eR d (by decide)) E (fun w D=>?_)
  refine oY E (yAS E) (oN (eT (ap ?_)))
  obtain rfl:=sI h
  exact am (.inl E) E (rVt (v:=.slice w (0+p0.length) D) E) (fun W2 u=>⟨(w,(0+p0.length),D),(jM E E),E,(u.pick 0 E)⟩)
end Go.Proofs.YthndghnkebboaaaGreat
set_option maxHeartbeats 4000000
set_option maxRecDepth 100000
namespace Go.Proofs.YthndghnkebboaaaGreat
open Go.RowKit (Below)
attribute [local irreducible] OX QX CX EX OpY Calls CallsIn
theorem lm (p0:Int) (f:TY) (r:Int) (res:Int) (h:gt p0 f r=some res) (W:World) (G:Nat) (g:Option Addr) (D o:Nat) (I:D=f.fB.length) (K:Rd W g D o (encL aH f.fB)) (u:Option Addr) (F d:Nat) (M:F=f.fR.length) (N:Rd W u F d (encL aE f.fR)) (O:Rd W (some ⟨G,0,none⟩) 1 1 [.slice g D o,.slice u F d]) (U:Nat) (X:Rd W (some ⟨U,0,none⟩) 1 1 (cI r)) :
  Calls Tryz.prog 131 [vI p0,.pointer (some ⟨G,0,none⟩),.pointer (some ⟨U,0,none⟩)].toArray W fun e W2=>e=.returned (vI res)∧Ext W W2 []:=by
 subst I
 subst M
 unfold gt at h
 refine aj (m:=20) Tryz.func131 E E (nB E) (cS (cR (oY E (yAI E) (oN (eT (cS ?_))))))
 obtain⟨w,T,h⟩:=bOs h
 refine gI [[],[0],[],[2],[2,3],[0,1,2,3,4],[],[0,1,2,3,4,5,6]] [(none,0,[]),(none,0,[]),(none,0,[]),(none,0,[]),(none,1,[]),(none,0,[true]),(none,1,[false]),(some 1,0,[true,true])] [⟨fun _=>slA (some ⟨G,0,none⟩) (0+0),fun _=>noR,fun _=>[]⟩,⟨fun _=>.slice g f.fB.length o,fun _=>noR,fun _=>[]⟩,⟨fun _=>slA (some ⟨G,0,none⟩) (0+1),fun _=>noR,fun _=>[]⟩,⟨fun _=>.slice u f.fR.length d,fun _=>noR,fun _=>[]⟩,⟨fun ξ1=>.slice (ξ1 4 0).1 w.length (ξ1 4 0).2.2.1,fun _=>noR,fun ξ1=>[aR (ξ1 4 0).1 (ξ1 4 0).2.2.1 65 5 w.length (encL aE w)]⟩,⟨fun ξ1=>.agg #[.slice g f.fB.length o,.slice (ξ1 4 0).1 w.length (ξ1 4 0).2.2.1],fun _=>noR,fun _=>[]⟩,⟨fun ξ1=>.pointer (some ⟨(ξ1 6 0).2.1,0,none⟩),fun _=>noR,fun ξ1=>[ak (ξ1 6 0).2.1 53 [.slice none 0 0,.slice none 0 0]]⟩,⟨fun _=>undef,fun ξ1=>ak (ξ1 6 0).2.1 53 [.slice g f.fB.length o,.slice (ξ1 4 0).1 w.length (ξ1 4 0).2.2.1],fun _=>[]⟩] 0 bW (by kernel_rfl) (by kernel_rfl) ⟨⟨fun ξ1 ξ1' h=>⟨E,E,E⟩,fun _=>E⟩,⟨fun ξ1 ξ1' h=>⟨E,E,E⟩,fun _=>E⟩,⟨fun ξ1 ξ1' h=>⟨E,E,E⟩,fun _=>E⟩,⟨fun ξ1 ξ1' h=>⟨E,E,E⟩,fun _=>E⟩,⟨fun ξ1 ξ1' h=>⟨by simp only[h 4 (.inl E)],E,by simp only[h 4 (.inl E)]⟩,fun _=>E⟩,⟨fun ξ1 ξ1' h=>⟨by simp only[h 4 (.inr E)],E,E⟩,fun _=>E⟩,⟨fun ξ1 ξ1' h=>⟨by simp only[h 6 (.inl E)],E,by simp only[h 6 (.inl E)]⟩,fun _=>E⟩,⟨fun ξ1 ξ1' h=>⟨E,by simp only[h 4 (.inr E),h 6 (.inr E)],E⟩,fun _=>E⟩,trivial⟩ E (fun ξ1=>?_)
 refine cW E (fun L2=>?_) ?_
 ·dsimp only[aM,lca,lna]
  refine oY E (yFR (A:=(some ⟨G,0,none⟩)) (j:=0) fm E) (oN ?_)
  exact az (fun _=>(none,0,0,[],noR)) E (List.append_nil _)
 dsimp only[cg,lsz,lss,lna,lca,List.append_nil]
 refine cW E (fun L2=>?_) ?_
 ·dsimp only[aM,lca,lna]
  refine oY E (yR (A:=(some ⟨G,0,none⟩)) (j:=(0+0)) (v:=.slice g f.fB.length o) ly (RdL.arg O) E E) (oN ?_)
  exact az (fun _=>(none,0,0,[],noR)) E (List.append_nil _)
 dsimp only[cg,lsz,lss,lna,lca,List.append_nil]
 refine cW E (fun L2=>?_) ?_
 ·dsimp only[aM,lca,lna]
  refine oY E (yFR (A:=(some ⟨G,0,none⟩)) (j:=0) cw E) (oN ?_)
  exact az (fun _=>(none,0,0,[],noR)) E (List.append_nil _)
 dsimp only[cg,lsz,lss,lna,lca,List.append_nil]
 refine cW E (fun L2=>?_) ?_
 ·dsimp only[aM,lca,lna]
  refine oY E (yR (A:=(some ⟨G,0,none⟩)) (j:=(0+1)) (v:=.slice u f.fR.length d) iG (RdL.arg O) E E) (oN ?_)
  exact az (fun _=>(none,0,0,[],noR)) E (List.append_nil _)
 dsimp only[cg,lsz,lss,lna,lca,List.append_nil]
 refine cW E (fun L2=>?_) ?_
 ·dsimp only[aM,lca,lna]
  refine oC [.slice u f.fR.length d] _ _ _ E go_115 E (fun W2 H=>ju f.fR w T W2 u f.fR.length d E ((RdL.arg N) W2 H)) ?_
  rintro⟨S,R,q⟩ Y
  replace Y:R=w.length:=Y;subst Y
  refine oN ?_
  exact az (fun _=>(S,0,q,[],noR)) E E
 dsimp only[cg,lsz,lss,lna,lca,List.append_nil]
 refine cW E (fun L2=>?_) ?_
 ·dsimp only[aM,lca,lna]
  refine oY E (bn [.slice g f.fB.length o,.slice (ξ1 4 0).1 w.length (ξ1 4 0).2.2.1] [(0,1),(1,1)] ust_53 sq (by kernel_rfl)) ?_
  refine oN ?_
  exact az (fun _=>(none,0,0,[],noR)) E (List.append_nil _)
 dsimp only[cg,lsz,lss,lna,lca,List.append_nil]
 refine cW E (fun L2=>?_) ?_
 ·dsimp only[aM,lca,lna]
  refine aF sq E (fun p=>?_)
  refine oN ?_
  exact az (fun _=>(none,p,0,[],noR)) E E
 dsimp only[cg,lsz,lss,lna,lca,List.append_nil]
 refine gx_n E (fun L2=>?_) ?_
 ·dsimp only[aM,lca,lna]
  refine cy E (yS 1 [.slice g f.fB.length o,.slice (ξ1 4 0).1 w.length (ξ1 4 0).2.2.1] sz_53 E (nB E) E E E) (oN ?_)
  first|exact ci (fun _=>(none,0,0,[],noR)) E|exact ci (fun _=>(none,0,0,[],noR)) (List.append_nil _)
 dsimp only[cg,lsz,lss,lna,lca,List.append_nil]
 refine my (eT (cS (cR (oY E (yFA cw E) (oY E (yL 1 iG E E E) (oY E (yR (A:=(some ⟨U,0,none⟩)) (j:=0) (v:=vI r) aK (RdL.arg X) E E) (oY E (yMI E) ?_)))))))
 obtain⟨Q,h⟩:=gOs h
 refine oY E (yI lC (by decide) Q.1 Q.2 (RdL.row 0 E) (eL ax E) E E) ?_
 refine oY E (yFR (A:=(ξ1 4 0).1) (j:=(Int.toNat r*5)) jT E) ?_
 refine cy E (y_storeRF 0 (xs:=w) ax (TO.mk ((rdL w r).fID) (TSpan.mk ((rdL w r).fH.fLo) ((rdL w r).fH.fHi)) ((rdL w r).fD) p0) 4 (by decide) px E Q.1 (ah Q.2 E) E E E E) ?_
 refine oN (eT (cS (cR (oY E (yN 1 [.slice g f.fB.length o,.slice (ξ1 4 0).1 w.length (ξ1 4 0).2.2.1] dF E E E) ?_))))
 obtain⟨Z,V,h⟩:=bOs h
 refine oY E (yC [.agg #[.slice g f.fB.length o,.slice (ξ1 4 0).1 w.length (ξ1 4 0).2.2.1]] go_83 E (fun W2 H=>fz (TY.mk f.fB (w.set (Int.toNat r) (TO.mk ((rdL w r).fID) (TSpan.mk ((rdL w r).fH.fLo) ((rdL w r).fH.fHi)) ((rdL w r).fD) p0))) Z V W2 g f.fB.length o E ((RdL.arg K) W2 H) (ξ1 4 0).1 w.length (ξ1 4 0).2.2.1 (cY E) ((RdL.row 0 E) W2 H)) E) (oY E (yAI E) (oN (eT (ap ?_))))
 obtain rfl:=sI h
 exact am (.inl E) E (rVt (v:=vI Z) E) (fun W2 H=>⟨E,H.none⟩)
theorem lF (p0:TY) (d:Int) (res:(List Int)) (h:gT p0 d=some res) (W:World) (Aa:Option Addr) (w ca:Nat) (U:w=p0.fB.length) (X:Rd W Aa w ca (encL aH p0.fB)) (Ab:Option Addr) (D cb:Nat) (Y:D=p0.fR.length) (u:Rd W Ab D cb (encL aE p0.fR)) (F:Nat) (Z:Rd W (some ⟨F,0,none⟩) 1 1 (cI d)) :
  Calls Tryz.prog 84 [.agg #[.slice Aa w ca,.slice Ab D cb],.func (.func 85) #[] #[.pointer (some ⟨F,0,none⟩)]].toArray W fun e W2=>∃x:Option Addr × Nat × Nat,x.2.1=res.length∧e=.returned (.slice x.1 x.2.1 x.2.2)∧Ext W W2 [aR x.1 x.2.2 3 1 x.2.1 (encL cI res)]:=by
 subst U
 subst Y
 unfold gT at h
 refine aj (m:=31) Tryz.func84 E E (nB E) (cS (cR ?_))
 refine aN [.slice Aa p0.fB.length ca,.slice Ab p0.fR.length cb] E E E (fun V=>?_)
 refine oY E (yAS E) (oN (eT (cS (cR (oY E (yAS E) (oN (eT (cS (cS (cR (oY E (yFA cw E) (oY E (yL 0 iG E E E) (oY E (bi (us:=[]) mi E) (oY E (yMI E) (oN (eT (cB ?_)))))))))))))))))
 obtain⟨M,R,h⟩:=bOs h
 refine dr 3 1 ?_
 refine bj (fun(s:(Int × (List Int))) L tm=>∃(i:Nat→Value) (O:Option Addr) (Q:Nat) (G:Nat),G=s.2.length∧L=[ak V 53 [.slice Aa p0.fB.length ca,.slice Ab p0.fR.length cb],aR O Q 3 1 G (encL cI s.2)]∧tm=(upd (upd (upd (upd (upd (upd (upd i 1 (.func (.func 85) #[] #[slA (some ⟨F,0,none⟩) 0])) 2 (.pointer (some ⟨V,0,none⟩))) 4 (.slice none 0 0)) 5 (.slice O G Q)) 10 (.slice Ab p0.fR.length cb)) 11 (vI (p0.fR.length:Int))) 12 (vI s.1))) 0 R ⟨_,none,0,0,E,E,(kp4 (kp (kp (kp E))))⟩ ?_ ?_
 ·rintro f L tm st ⟨t,H,I,k,rfl,rfl,rfl⟩ h
  unfold iB at h
  refine cS (cR (oY E (be E E) (oN (eT (cS ?_)))))
  rcases iOs h with⟨T,h⟩|⟨T,h⟩
  ·refine cT (vB T) (cK (eT (cS (cB (cS (cR (oY E (yMI E) ?_)))))))
   obtain⟨N,h⟩:=gOs h
   refine oY E (yI lC (by decide) N.1 N.2 (RdL.arg u) (eL ax E) E E) ?_
   refine oY E (yM (A:=Ab) (j:=(Int.toNat f.1*5)) [vI ((rdL p0.fR f.1).fID),vI ((rdL p0.fR f.1).fH.fLo),vI ((rdL p0.fR f.1).fH.fHi),vI ((rdL p0.fR f.1).fD),vI ((rdL p0.fR f.1).fW)] rC (Nat.succ_pos _) (RdL.arg u) E (bc ax N.1 (ah N.2 E))) ?_
   refine aF nD E (fun a=>?_)
   refine aF pY E (fun b9=>?_)
   refine cy E (dJ 2 (v:=vI f.1) px E (Nat.lt_of_lt_of_le (Nat.lt_succ_self _) (nB E)) E E E) (cy E (yS 3 [vI ((rdL p0.fR f.1).fID),vI ((rdL p0.fR f.1).fH.fLo),vI ((rdL p0.fR f.1).fH.fHi),vI ((rdL p0.fR f.1).fD),vI ((rdL p0.fR f.1).fW)] sz_65 E (nB E) E E E) (oN (eT (cS (cR (oY E (bZ [.pointer (some ⟨V,0,none⟩),.pointer (some ⟨a,0,none⟩)] E E) (oY E (fI E) (oN (eT (cS (cR (oY E (dD E) (oY E (yN 3 [vI ((rdL p0.fR f.1).fID),vI ((rdL p0.fR f.1).fH.fLo),vI ((rdL p0.fR f.1).fH.fHi),vI ((rdL p0.fR f.1).fD),vI ((rdL p0.fR f.1).fW)] rC E E E) (oY E (dD E) ?_))))))))))))))
   obtain⟨b,q,h⟩:=bOs h
   refine oY E (pe (caps:=[slA (some ⟨F,0,none⟩) 0]) [.agg #[vI ((rdL p0.fR f.1).fID),vI ((rdL p0.fR f.1).fH.fLo),vI ((rdL p0.fR f.1).fH.fHi),vI ((rdL p0.fR f.1).fD),vI ((rdL p0.fR f.1).fW)],.func (.func 131) #[] #[.pointer (some ⟨V,0,none⟩),.pointer (some ⟨a,0,none⟩)]] go_85 E E (fun W2 r=>nX (TO.mk ((rdL p0.fR f.1).fID) (TSpan.mk ((rdL p0.fR f.1).fH.fLo) ((rdL p0.fR f.1).fH.fHi)) ((rdL p0.fR f.1).fD) ((rdL p0.fR f.1).fW)) (fun c=>gt c p0 f.1) d b q W2 131 [] [.pointer (some ⟨V,0,none⟩),.pointer (some ⟨a,0,none⟩)] go_131 (fun W3 hb x y hxy=>lm  x p0 f.1 y hxy W3 V Aa p0.fB.length ca E (((RdL.arg X) W2 r).later hb) Ab p0.fR.length cb E (((RdL.arg u) W2 r).later hb) (((RdL.cells 0 E) W2 r).later hb) a (((RdL.cells 2 E) W2 r).later hb)) F ((RdL.arg Z) W2 r))) (oN (eT ?_))
   rcases iOs h with⟨K,h⟩|⟨K,h⟩
   ·refine cT (vB K) (cR (oY E (yMS E) (oY E (yFA k7 E) (oY E (yL 3 aK E E E) ?_))))
    refine aP 1 (encL cI [(rdL p0.fR f.1).fID]) _ o4 cQ nD qa (by decide) (by decide) (by kernel_rfl) (eL aB E) E (fun fr=>?_)
    obtain⟨p,h⟩:=gOs h
    refine cx 1 cQ nD qa E E E (RdL.row 4 E) (eL aB E) (ef qs _) (eR p (by decide)) E (fun f1 f2=>?_)
    refine oY E (yAS E) (oN (aw (eT (cR (oY E (aL E E) (oY E (yMI E) (oN (aQ 2 ?_))))))))
    obtain rfl:=sI h
    exact eN ⟨_,f1,f2,(f.2.length+1),(jM E E),E,(kp4 (kp (kp (kp E))))⟩
   ·refine cF (vB K) (cK (aw (eT (cR (oY E (aL E E) (oY E (yMI E) (oN (aQ 2 ?_))))))))
    obtain rfl:=sI h
    exact eN ⟨_,H,I,f.2.length,E,E,(kp4 (kp (kp (kp E))))⟩
  ·refine cF (vB T) (aD (ai ?_))
   obtain rfl:=sI h
   exact av ⟨E,_,H,I,f.2.length,E,E,(kp4 (kp (kp (kp E))))⟩
 ·intro e L tm hJ
  obtain⟨rfl,z,g,o,f3,rfl,rfl,rfl⟩:=hJ
  refine⟨(by intro hc;cases hc),?_⟩
  refine ac (eT (cS (cR (oY E (yMS E) ?_))))
  obtain⟨S,n,h⟩:=bOs h
  refine f9 1 [.slice g M.2.length o] (fun(_:Unit)=>M.2.length=S.length) (fun _=>.tuple #[]) (fun _=>aR g o 3 1 M.2.length (encL cI S)) (fun _=>[]) E E go_81 E (fun W2 r=>(eO M.2 S n W2 _ (bH [ak V 53 [.slice Aa p0.fB.length ca,.slice Ab p0.fR.length cb],aR g o 3 1 M.2.length (encL cI M.2)] [1]) g M.2.length o E r).mono (fun e W3 h3=>⟨(),h3.2.1,h3.1,h3.2.2⟩)) ?_
  rintro-l
  try dsimp only[lsz,lss,List.append_nil]
  refine oN (eT (cS (cR (oY E (yMS E) (oY E (yAS E) (oN (eT (ap ?_))))))))
  obtain rfl:=sI h
  exact am (.inl E) E (rVt (v:=.slice g M.2.length o) E) (fun W2 r=>⟨(g,M.2.length,o),l,E,(r.pick 1 E)⟩)
theorem lV (p0:TY) (d:Int) (res:(List Int)) (h:g9 p0 d=some res) (W:World) (Aa:Option Addr) (w ca:Nat) (U:w=p0.fB.length) (X:Rd W Aa w ca (encL aH p0.fB)) (Ab:Option Addr) (D cb:Nat) (Y:D=p0.fR.length) (u:Rd W Ab D cb (encL aE p0.fR)) (F:Nat) (Z:Rd W (some ⟨F,0,none⟩) 1 1 (cI d)) :
  Calls Tryz.prog 84 [.agg #[.slice Aa w ca,.slice Ab D cb],.func (.func 88) #[] #[.pointer (some ⟨F,0,none⟩)]].toArray W fun e W2=>∃x:Option Addr × Nat × Nat,x.2.1=res.length∧e=.returned (.slice x.1 x.2.1 x.2.2)∧Ext W W2 [aR x.1 x.2.2 3 1 x.2.1 (encL cI res)]:=by
 subst U
 subst Y
 unfold g9 at h
 refine aj (m:=31) Tryz.func84 E E (nB E) (cS (cR ?_))
 refine aN [.slice Aa p0.fB.length ca,.slice Ab p0.fR.length cb] E E E (fun V=>?_)
 refine oY E (yAS E) (oN (eT (cS (cR (oY E (yAS E) (oN (eT (cS (cS (cR (oY E (yFA cw E) (oY E (yL 0 iG E E E) (oY E (bi (us:=[]) mi E) (oY E (yMI E) (oN (eT (cB ?_)))))))))))))))))
 obtain⟨M,R,h⟩:=bOs h
 refine dr 3 1 ?_
 refine bj (fun(s:(Int × (List Int))) L tm=>∃(i:Nat→Value) (O:Option Addr) (Q:Nat) (G:Nat),G=s.2.length∧L=[ak V 53 [.slice Aa p0.fB.length ca,.slice Ab p0.fR.length cb],aR O Q 3 1 G (encL cI s.2)]∧tm=(upd (upd (upd (upd (upd (upd (upd i 1 (.func (.func 88) #[] #[slA (some ⟨F,0,none⟩) 0])) 2 (.pointer (some ⟨V,0,none⟩))) 4 (.slice none 0 0)) 5 (.slice O G Q)) 10 (.slice Ab p0.fR.length cb)) 11 (vI (p0.fR.length:Int))) 12 (vI s.1))) 0 R ⟨_,none,0,0,E,E,(kp4 (kp (kp (kp E))))⟩ ?_ ?_
 ·rintro f L tm st ⟨t,H,I,k,rfl,rfl,rfl⟩ h
  unfold iP at h
  refine cS (cR (oY E (be E E) (oN (eT (cS ?_)))))
  rcases iOs h with⟨T,h⟩|⟨T,h⟩
  ·refine cT (vB T) (cK (eT (cS (cB (cS (cR (oY E (yMI E) ?_)))))))
   obtain⟨N,h⟩:=gOs h
   refine oY E (yI lC (by decide) N.1 N.2 (RdL.arg u) (eL ax E) E E) ?_
   refine oY E (yM (A:=Ab) (j:=(Int.toNat f.1*5)) [vI ((rdL p0.fR f.1).fID),vI ((rdL p0.fR f.1).fH.fLo),vI ((rdL p0.fR f.1).fH.fHi),vI ((rdL p0.fR f.1).fD),vI ((rdL p0.fR f.1).fW)] rC (Nat.succ_pos _) (RdL.arg u) E (bc ax N.1 (ah N.2 E))) ?_
   refine aF nD E (fun a=>?_)
   refine aF pY E (fun b9=>?_)
   refine cy E (dJ 2 (v:=vI f.1) px E (Nat.lt_of_lt_of_le (Nat.lt_succ_self _) (nB E)) E E E) (cy E (yS 3 [vI ((rdL p0.fR f.1).fID),vI ((rdL p0.fR f.1).fH.fLo),vI ((rdL p0.fR f.1).fH.fHi),vI ((rdL p0.fR f.1).fD),vI ((rdL p0.fR f.1).fW)] sz_65 E (nB E) E E E) (oN (eT (cS (cR (oY E (bZ [.pointer (some ⟨V,0,none⟩),.pointer (some ⟨a,0,none⟩)] E E) (oY E (fI E) (oN (eT (cS (cR (oY E (dD E) (oY E (yN 3 [vI ((rdL p0.fR f.1).fID),vI ((rdL p0.fR f.1).fH.fLo),vI ((rdL p0.fR f.1).fH.fHi),vI ((rdL p0.fR f.1).fD),vI ((rdL p0.fR f.1).fW)] rC E E E) (oY E (dD E) ?_))))))))))))))
   obtain⟨b,q,h⟩:=bOs h
   refine oY E (pe (caps:=[slA (some ⟨F,0,none⟩) 0]) [.agg #[vI ((rdL p0.fR f.1).fID),vI ((rdL p0.fR f.1).fH.fLo),vI ((rdL p0.fR f.1).fH.fHi),vI ((rdL p0.fR f.1).fD),vI ((rdL p0.fR f.1).fW)],.func (.func 131) #[] #[.pointer (some ⟨V,0,none⟩),.pointer (some ⟨a,0,none⟩)]] go_88 E E (fun W2 r=>pq (TO.mk ((rdL p0.fR f.1).fID) (TSpan.mk ((rdL p0.fR f.1).fH.fLo) ((rdL p0.fR f.1).fH.fHi)) ((rdL p0.fR f.1).fD) ((rdL p0.fR f.1).fW)) (fun c=>gt c p0 f.1) d b q W2 131 [] [.pointer (some ⟨V,0,none⟩),.pointer (some ⟨a,0,none⟩)] go_131 (fun W3 hb x y hxy=>lm  x p0 f.1 y hxy W3 V Aa p0.fB.length ca E (((RdL.arg X) W2 r).later hb) Ab p0.fR.length cb E (((RdL.arg u) W2 r).later hb) (((RdL.cells 0 E) W2 r).later hb) a (((RdL.cells 2 E) W2 r).later hb)) F ((RdL.arg Z) W2 r))) (oN (eT ?_))
   rcases iOs h with⟨K,h⟩|⟨K,h⟩
   ·refine cT (vB K) (cR (oY E (yMS E) (oY E (yFA k7 E) (oY E (yL 3 aK E E E) ?_))))
    refine aP 1 (encL cI [(rdL p0.fR f.1).fID]) _ o4 cQ nD qa (by decide) (by decide) (by kernel_rfl) (eL aB E) E (fun fr=>?_)
    obtain⟨p,h⟩:=gOs h
    refine cx 1 cQ nD qa E E E (RdL.row 4 E) (eL aB E) (ef qs _) (eR p (by decide)) E (fun f1 f2=>?_)
    refine oY E (yAS E) (oN (aw (eT (cR (oY E (aL E E) (oY E (yMI E) (oN (aQ 2 ?_))))))))
    obtain rfl:=sI h
    exact eN ⟨_,f1,f2,(f.2.length+1),(jM E E),E,(kp4 (kp (kp (kp E))))⟩
   ·refine cF (vB K) (cK (aw (eT (cR (oY E (aL E E) (oY E (yMI E) (oN (aQ 2 ?_))))))))
    obtain rfl:=sI h
    exact eN ⟨_,H,I,f.2.length,E,E,(kp4 (kp (kp (kp E))))⟩
  ·refine cF (vB T) (aD (ai ?_))
   obtain rfl:=sI h
   exact av ⟨E,_,H,I,f.2.length,E,E,(kp4 (kp (kp (kp E))))⟩
 ·intro e L tm hJ
  obtain⟨rfl,z,g,o,f3,rfl,rfl,rfl⟩:=hJ
  refine⟨(by intro hc;cases hc),?_⟩
  refine ac (eT (cS (cR (oY E (yMS E) ?_))))
  obtain⟨S,n,h⟩:=bOs h
  refine f9 1 [.slice g M.2.length o] (fun(_:Unit)=>M.2.length=S.length) (fun _=>.tuple #[]) (fun _=>aR g o 3 1 M.2.length (encL cI S)) (fun _=>[]) E E go_81 E (fun W2 r=>(eO M.2 S n W2 _ (bH [ak V 53 [.slice Aa p0.fB.length ca,.slice Ab p0.fR.length cb],aR g o 3 1 M.2.length (encL cI M.2)] [1]) g M.2.length o E r).mono (fun e W3 h3=>⟨(),h3.2.1,h3.1,h3.2.2⟩)) ?_
  rintro-l
  try dsimp only[lsz,lss,List.append_nil]
  refine oN (eT (cS (cR (oY E (yMS E) (oY E (yAS E) (oN (eT (ap ?_))))))))
  obtain rfl:=sI h
  exact am (.inl E) E (rVt (v:=.slice g M.2.length o) E) (fun W2 r=>⟨(g,M.2.length,o),l,E,(r.pick 1 E)⟩)
theorem pN (p0:TY) (res:((List Int) × Int)) (h:mh p0=some res) (W:World) (Aa:Option Addr) (r ca:Nat) (w:r=p0.fB.length) (g:Rd W Aa r ca (encL aH p0.fB)) (Ab:Option Addr) (u cb:Nat) (D:u=p0.fR.length) (o:Rd W Ab u cb (encL aE p0.fR)) :
  Calls Tryz.prog 27 [.agg #[.slice Aa r ca,.slice Ab u cb]].toArray W fun e W2=>∃x:Option Addr × Nat × Nat,x.2.1=res.1.length∧e=.returned (.tuple #[.slice x.1 x.2.1 x.2.2,vI res.2])∧Ext W W2 [aR x.1 x.2.2 3 1 x.2.1 (encL cI res.1)]:=by
 subst w
 subst D
 unfold mh at h
 refine aj (m:=16) Tryz.func27 E E (nB E) (cS (cR ?_))
 refine aN [.slice Aa p0.fB.length ca,.slice Ab p0.fR.length cb] E E E (fun Y=>?_)
 refine oY E (yAS E) (oY E (yAI E) (oN (eT (cS (cS (cR (oY E (yN 0 [.slice Aa p0.fB.length ca,.slice Ab p0.fR.length cb] dF E E E) ?_)))))))
 obtain⟨X,K,h⟩:=bOs h
 refine oY E (yC [.agg #[.slice Aa p0.fB.length ca,.slice Ab p0.fR.length cb]] go_45 E (fun W2 f=>dY p0 X K W2 Aa p0.fB.length ca E ((RdL.arg g) W2 f) Ab p0.fR.length cb E ((RdL.arg o) W2 f)) E) (oY E (yAI E) (oN (eT (cS (cR (oY E (yMI E) (oY E (cJ E E) (oN (eT ?_)))))))))
 rcases iOs h with⟨F,h⟩|⟨F,h⟩
 ·refine cT (vB F) (cS (cR (oY E (yMI E) (oY E (yAS E) (oY E (yAI E) (oN (eT (ap (ab ?_)))))))))
  obtain rfl:=sI h
  exact bT (.inl E) E (rVt (v:=.slice none 0 0) E) (rVt (v:=vI X) E) (fun W2 f=>⟨(none,0,0),E,E,((f.nilrow 3 1).pick 1 E)⟩)
 ·refine cF (vB F) (cK (eT (cS (cR (oY E (yN 0 [.slice Aa p0.fB.length ca,.slice Ab p0.fR.length cb] dF E E E) ?_)))))
  obtain⟨M,N,h⟩:=bOs h
  refine oY E (yC [.agg #[.slice Aa p0.fB.length ca,.slice Ab p0.fR.length cb]] go_83 E (fun W2 f=>fz p0 M N W2 Aa p0.fB.length ca E ((RdL.arg g) W2 f) Ab p0.fR.length cb E ((RdL.arg o) W2 f)) E) ?_
  refine aF nD E (fun O=>?_)
  refine cy E (dJ 1 (v:=vI M) px E (Nat.lt_of_lt_of_le (Nat.lt_succ_self _) (nB E)) E E E) (oN (eT (cS (cR (oY E (yN 0 [.slice Aa p0.fB.length ca,.slice Ab p0.fR.length cb] dF E E E) (oY E (bZ [.pointer (some ⟨O,0,none⟩)] E E) ?_))))))
  obtain⟨I,Q,h⟩:=bOs h
  refine oC [.agg #[.slice Aa p0.fB.length ca,.slice Ab p0.fR.length cb],.func (.func 85) #[] #[.pointer (some ⟨O,0,none⟩)]] _ _ _ E go_84 E (fun W2 f=>lF p0 M I Q W2 Aa p0.fB.length ca E ((RdL.arg g) W2 f) Ab p0.fR.length cb E ((RdL.arg o) W2 f) O ((RdL.cells 1 E) W2 f)) ?_
  rintro⟨G,U,H⟩ d
  replace d:U=I.length:=d;subst d
  refine oY E (yAS E) (oY E (yAI E) (oN (eT (ap ?_))))
  obtain rfl:=sI h
  exact bT (.inl E) E (rVt (v:=.slice G I.length H) E) (rVt (v:=vI 0) E) (fun W2 f=>⟨(G,I.length,H),E,E,(f.pick 2 E)⟩)
theorem qG (p0:TY) (res:((List Int) × Int)) (h:ny p0=some res) (W:World) (Aa:Option Addr) (r ca:Nat) (w:r=p0.fB.length) (g:Rd W Aa r ca (encL aH p0.fB)) (Ab:Option Addr) (u cb:Nat) (D:u=p0.fR.length) (o:Rd W Ab u cb (encL aE p0.fR)) :
  Calls Tryz.prog 29 [.agg #[.slice Aa r ca,.slice Ab u cb]].toArray W fun e W2=>∃x:Option Addr × Nat × Nat,x.2.1=res.1.length∧e=.returned (.tuple #[.slice x.1 x.2.1 x.2.2,vI res.2])∧Ext W W2 [aR x.1 x.2.2 3 1 x.2.1 (encL cI res.1)]:=by
 subst w
 subst D
 unfold ny at h
 refine aj (m:=16) Tryz.func29 E E (nB E) (cS (cR ?_))
 refine aN [.slice Aa p0.fB.length ca,.slice Ab p0.fR.length cb] E E E (fun Y=>?_)
 refine oY E (yAS E) (oY E (yAI E) (oN (eT (cS (cS (cR (oY E (yN 0 [.slice Aa p0.fB.length ca,.slice Ab p0.fR.length cb] dF E E E) ?_)))))))
 obtain⟨X,K,h⟩:=bOs h
 refine oY E (yC [.agg #[.slice Aa p0.fB.length ca,.slice Ab p0.fR.length cb]] go_45 E (fun W2 f=>dY p0 X K W2 Aa p0.fB.length ca E ((RdL.arg g) W2 f) Ab p0.fR.length cb E ((RdL.arg o) W2 f)) E) (oY E (yAI E) (oN (eT (cS (cR (oY E (yMI E) (oY E (cJ E E) (oN (eT ?_)))))))))
 rcases iOs h with⟨F,h⟩|⟨F,h⟩
 ·refine cT (vB F) (cS (cR (oY E (yMI E) (oY E (yAS E) (oY E (yAI E) (oN (eT (ap (ab ?_)))))))))
  obtain rfl:=sI h
  exact bT (.inl E) E (rVt (v:=.slice none 0 0) E) (rVt (v:=vI X) E) (fun W2 f=>⟨(none,0,0),E,E,((f.nilrow 3 1).pick 1 E)⟩)
 ·refine cF (vB F) (cK (eT (cS (cR (oY E (yN 0 [.slice Aa p0.fB.length ca,.slice Ab p0.fR.length cb] dF E E E) ?_)))))
  obtain⟨M,N,h⟩:=bOs h
  refine oY E (yC [.agg #[.slice Aa p0.fB.length ca,.slice Ab p0.fR.length cb]] go_83 E (fun W2 f=>fz p0 M N W2 Aa p0.fB.length ca E ((RdL.arg g) W2 f) Ab p0.fR.length cb E ((RdL.arg o) W2 f)) E) ?_
  refine aF nD E (fun O=>?_)
  refine cy E (dJ 1 (v:=vI M) px E (Nat.lt_of_lt_of_le (Nat.lt_succ_self _) (nB E)) E E E) (oN (eT (cS (cR (oY E (yN 0 [.slice Aa p0.fB.length ca,.slice Ab p0.fR.length cb] dF E E E) (oY E (bZ [.pointer (some ⟨O,0,none⟩)] E E) ?_))))))
  obtain⟨I,Q,h⟩:=bOs h
  refine oC [.agg #[.slice Aa p0.fB.length ca,.slice Ab p0.fR.length cb],.func (.func 88) #[] #[.pointer (some ⟨O,0,none⟩)]] _ _ _ E go_84 E (fun W2 f=>lV p0 M I Q W2 Aa p0.fB.length ca E ((RdL.arg g) W2 f) Ab p0.fR.length cb E ((RdL.arg o) W2 f) O ((RdL.cells 1 E) W2 f)) ?_
  rintro⟨G,U,H⟩ d
  replace d:U=I.length:=d;subst d
  refine oY E (yAS E) (oY E (yAI E) (oN (eT (ap ?_))))
  obtain rfl:=sI h
  exact bT (.inl E) E (rVt (v:=.slice G I.length H) E) (rVt (v:=vI 0) E) (fun W2 f=>⟨(G,I.length,H),E,E,(f.pick 2 E)⟩)
theorem q9 (p0:Int) (I:(List (Int × Int))) (f:TY) (res:(Bool × (List (Int × Int)))) (h:ns p0 I f=some res) (W:World) (O:World) (R:Res) (d:Nat) (U:Nat) (X:∀W2,Below O.heap.size O W2→R.holds W2→Rd W2 (some ⟨U,0,none⟩) 1 1 [.map (some d)]) (Q:Nat) (g:Option Addr) (w o:Nat) (K:w=f.fB.length) (F:∀W2,Below O.heap.size O W2→R.holds W2→Rd W2 g w o (encL aH f.fB)) (r:Option Addr) (D u:Nat) (M:D=f.fR.length) (G:∀W2,Below O.heap.size O W2→R.holds W2→Rd W2 r D u (encL aE f.fR)) (N:∀W2,Below O.heap.size O W2→R.holds W2→Rd W2 (some ⟨Q,0,none⟩) 1 1 [.slice g w o,.slice r D u]) (hW:Ext O W [R,mapV Tryz.prog 3 kI eI kI 0 d I]) :
  Calls Tryz.prog 137 [vI p0,.pointer (some ⟨U,0,none⟩),.pointer (some ⟨Q,0,none⟩)].toArray W fun e W2=>∃x:Unit,True∧e=.returned (.bool res.1)∧Ext O W2 [R,mapV Tryz.prog 3 kI eI kI 0 d res.2]:=by
 subst K
 subst M
 unfold ns at h
 refine bh (m:=12) Tryz.func137 E E (nB E) hW (cS (cR (oY E (yAB E) (oN (eT (cS ?_))))))
 refine aS 5 bW (by kernel_rfl) (by kernel_rfl) ?_
 refine qY E (yR (A:=(some ⟨U,0,none⟩)) (j:=0) (v:=.map (some d)) tO (RdL.under X) E E) (qY E (yM (A:=(some ⟨Q,0,none⟩)) (j:=0) [.slice g f.fB.length o,.slice r f.fR.length u] dF (Nat.succ_pos _) (RdL.under N) E (oh E)) (qY E (yM (A:=(some ⟨Q,0,none⟩)) (j:=0) [.slice g f.fB.length o,.slice r f.fR.length u] dF (Nat.succ_pos _) (RdL.under N) E (oh E)) (qY E (yMI E) ?_)))
 obtain⟨Z,V,h⟩:=bOs h
 refine qY E (yC [.agg #[.slice g f.fB.length o,.slice r f.fR.length u],vI p0] go_90 E (fun W2 H=>kE f p0 Z V W2 g f.fB.length o E ((RdL.under F) W2 H) r f.fR.length u E ((RdL.under G) W2 H)) E) (bF ?_)
 obtain⟨Y,T,h⟩:=bOs h
 refine gR [1] [] [.map (some d),.agg #[.slice g f.fB.length o,.slice r f.fR.length u],vI Z] [] (fun(_:Unit)=>True) (fun _=>.bool Y.1) (fun _=>[mapV Tryz.prog 3 kI eI kI 0 d Y.2]) (fun _=>[]) (Foc.c1 E) (by decide) E go_117 E E (fun _=>E) (fun W2 H=>jL I f Z Y T W2 _ (bH [R,mapV Tryz.prog 3 kI eI kI 0 d I] [1]) d g f.fB.length o E (fun W3 hb hR=>(RdL.under F) W3 (H.restL hb hR)) r f.fR.length u E (fun W3 hb hR=>(RdL.under G) W3 (H.restL hb hR)) H) ?_
 rintro - -
 try dsimp only[me,lsz,lss,List.append_nil]
 refine oY E (bD E) (oY E (yAB E) (oN (eT (ap ?_))))
 obtain rfl:=sI h
 exact am (.inl E) E (rVt (v:=.bool (!Y.1)) E) (fun W2 H=>⟨(),trivial,E,H.take 2⟩)
theorem gU (p0:(List Int)) (Y:(List (Int × Int))) (f:TY) (res:(Int × (List (Int × Int)))) (h:cC p0 Y f=some res) (W:World) (G:World) (R:Res) (g:Nat) (Aa:Option Addr) (H ca:Nat) (Z:H=p0.length) (I:∀W2,Below G.heap.size G W2→R.holds W2→Rd W2 Aa H ca (encL cI p0)) (K:Nat) (V:∀W2,Below G.heap.size G W2→R.holds W2→Rd W2 (some ⟨K,0,none⟩) 1 1 [.map (some g)]) (M:Nat) (o:Option Addr) (r u:Nat) (N:r=f.fB.length) (O:∀W2,Below G.heap.size G W2→R.holds W2→Rd W2 o r u (encL aH f.fB)) (d:Option Addr) (w D:Nat) (Q:w=f.fR.length) (U:∀W2,Below G.heap.size G W2→R.holds W2→Rd W2 d w D (encL aE f.fR)) (T:∀W2,Below G.heap.size G W2→R.holds W2→Rd W2 (some ⟨M,0,none⟩) 1 1 [.slice o r u,.slice d w D]) (hW:Ext G W [R,mapV Tryz.prog 3 kI eI kI 0 g Y]) :
  Calls Tryz.prog 138 [.slice Aa H ca,.func (.func 137) #[] #[.pointer (some ⟨K,0,none⟩),.pointer (some ⟨M,0,none⟩)]].toArray W fun e W2=>∃x:Unit,True∧e=.returned (vI res.1)∧Ext G W2 [R,mapV Tryz.prog 3 kI eI kI 0 g res.2]:=by
 subst Z
 subst N
 subst Q
 unfold cC at h
 refine bh (m:=19) Tryz.func138 E E (nB E) hW (cS (cR (oY E (yAI E) (oN (eT (cS (cS (cR (oY E (yMS E) (oY E (bi (us:=[]) cQ E) (oY E (yMI E) (oN (eT (cB ?_))))))))))))))
 obtain⟨b,n,h⟩:=bOs h
 refine a8 (fun(s:(Int × Int × (List (Int × Int)))) L tm=>∃(z:Nat→Value),L=[R,mapV Tryz.prog 3 kI eI kI 0 g s.2.2]∧tm=(upd (upd (upd (upd (upd z 0 (.slice Aa p0.length ca)) 1 (.func (.func 137) #[] #[slA (some ⟨K,0,none⟩) 0,slA (some ⟨M,0,none⟩) 0])) 4 (vI s.1)) 7 (vI (p0.length:Int))) 8 (vI s.2.1))) 0 n ⟨_,E,(kp4 (kp E))⟩ ?_ ?_
 ·rintro p L tm st ⟨a,rfl,rfl⟩ h
  unfold dE at h
  refine cS (cR (oY E (be E E) (oN (eT (cS ?_)))))
  rcases iOs h with⟨S,h⟩|⟨S,h⟩
  ·refine cT (vB S) (cK (eT (cS (cB (cS (cR (oY E (yMI E) (oY E (yAI E) (oN (eT (cS (cR (oY E (dD E) (oY E (yMS E) (oY E (yMI E) ?_)))))))))))))))
   obtain⟨X,h⟩:=gOs h
   refine oY E (yI bS (by decide) X.1 X.2 (RdL.under I) (eL aB E) E E) ?_
   refine oY E (yR (A:=Aa) (j:=(Int.toNat p.2.1*1)) (v:=vI (rdL p0 p.2.1)) aK (RdL.under I) E (ay aB X.1 (ah X.2 E) E)) ?_
   obtain⟨i,k,h⟩:=bOs h
   refine gR [1] [] [vI (rdL p0 p.2.1)] [slA (some ⟨K,0,none⟩) 0,slA (some ⟨M,0,none⟩) 0] (fun(_:Unit)=>True) (fun _=>.bool i.1) (fun _=>[mapV Tryz.prog 3 kI eI kI 0 g i.2]) (fun _=>[]) (Foc.c1 E) (by decide) E go_137 E E (fun _=>E) (fun W2 F=>q9 (rdL p0 p.2.1) p.2.2 f i k W2 _ (bH [R,mapV Tryz.prog 3 kI eI kI 0 g p.2.2] [1]) g K (fun W3 hb hR=>(RdL.under V) W3 (F.restL hb hR)) M o f.fB.length u E (fun W3 hb hR=>(RdL.under O) W3 (F.restL hb hR)) d f.fR.length D E (fun W3 hb hR=>(RdL.under U) W3 (F.restL hb hR)) (fun W3 hb hR=>(RdL.under T) W3 (F.restL hb hR)) F) ?_
   rintro - -
   try dsimp only[me,lsz,lss,List.append_nil]
   refine oN (eT ?_)
   rcases iOs h with⟨q,h⟩|⟨q,h⟩
   ·refine cT (vB q) (cS (cR (oY E (yMI E) (oY E (yAI E) (oN (eT (ap (ae (ab ?_)))))))))
    obtain rfl:=sI h
    exact av ⟨E,_,E,(kp4 (kp E))⟩
   ·refine cF (vB q) (cK (aw (eT (cR (oY E (aL E E) (oY E (yMI E) (oN ?_)))))))
    obtain rfl:=sI h
    exact eN ⟨_,E,(kp4 (kp E))⟩
  ·refine cF (vB S) (aD (ai ?_))
   obtain rfl:=sI h
   exact av ⟨E,_,E,(kp4 (kp E))⟩
 ·intro e L tm hJ
  rcases b with y|c
  ·dsimp only at h hJ
   obtain⟨rfl,l,rfl,rfl⟩:=hJ
   refine⟨(by intro hc;cases hc),?_⟩
   refine ae (ab ?_)
   obtain rfl:=sI h
   exact am (.inl E) E (rVt (v:=vI y.1) E) (fun W2 F=>⟨(),trivial,E,F.take 2⟩)
  ·dsimp only at h hJ
   obtain⟨rfl,t,rfl,rfl⟩:=hJ
   refine⟨(by intro hc;cases hc),?_⟩
   refine ac (eT (cS (cR (oY E (yAI E) (oN (eT (ap ?_)))))))
   obtain rfl:=sI h
   exact am (.inl E) E (rVt (v:=vI (-1)) E) (fun W2 F=>⟨(),trivial,E,F.take 2⟩)
theorem fa (p0:(List Int)) (p1:Int→Option Bool) (res:Int) (h:bG p0 p1=some res) (W:World) (Aa:Option Addr) (f ca:Nat) (u:f=p0.length) (g:Rd W Aa f ca (encL cI p0)) (fid1:Nat) (fst1 caps1:List Value) (D:bA Tryz.prog fid1=true) (F:∀W2,Below W.heap.size W W2→∀x,∀y,p1 x=some y→Calls Tryz.prog fid1 (fst1++(([vI x]:List Value)++caps1)).toArray W2 fun e W3=>e=.returned (.bool y)∧Ext W2 W3 []) :
  Calls Tryz.prog 138 [.slice Aa f ca,.func (.func fid1) fst1.toArray caps1.toArray].toArray W fun e W2=>e=.returned (vI res)∧Ext W W2 []:=by
 subst u
 unfold bG at h
 refine aj (m:=19) Tryz.func138 E E (nB E) (cS (cR (oY E (yAI E) (oN (eT (cS (cS (cR (oY E (yMS E) (oY E (bi (us:=[]) cQ E) (oY E (yMI E) (oN (eT (cB ?_))))))))))))))
 obtain⟨U,M,h⟩:=bOs h
 refine a8 (fun(s:(Int × Int)) L tm=>∃(N:Nat→Value),L=[]∧tm=(upd (upd (upd (upd (upd N 0 (.slice Aa p0.length ca)) 1 (.func (.func fid1) fst1.toArray caps1.toArray)) 4 (vI s.1)) 7 (vI (p0.length:Int))) 8 (vI s.2))) 0 M ⟨_,E,(kp4 (kp E))⟩ ?_ ?_
 ·rintro I L tm st ⟨K,rfl,rfl⟩ h
  unfold bw at h
  refine cS (cR (oY E (be E E) (oN (eT (cS ?_)))))
  rcases iOs h with⟨d,h⟩|⟨d,h⟩
  ·refine cT (vB d) (cK (eT (cS (cB (cS (cR (oY E (yMI E) (oY E (yAI E) (oN (eT (cS (cR (oY E (bK (v:=.func (.func fid1) fst1.toArray caps1.toArray) E) (oY E (yMS E) (oY E (yMI E) ?_)))))))))))))))
   obtain⟨r,h⟩:=gOs h
   refine oY E (yI bS (by decide) r.1 r.2 (RdL.arg g) (eL aB E) E E) ?_
   refine oY E (yR (A:=Aa) (j:=(Int.toNat I.2*1)) (v:=vI (rdL p0 I.2)) aK (RdL.arg g) E (ay aB r.1 (ah r.2 E) E)) ?_
   obtain⟨X,O,h⟩:=bOs h
   refine oY E (gx [vI (rdL p0 I.2)] D E E (fun W2 o=>F W2 o.below (rdL p0 I.2) X O)) (oN (eT ?_))
   rcases iOs h with⟨w,h⟩|⟨w,h⟩
   ·refine cT (vB w) (cS (cR (oY E (yMI E) (oY E (yAI E) (oN (eT (ap (ae (ab ?_)))))))))
    obtain rfl:=sI h
    exact av ⟨E,_,E,(kp4 (kp E))⟩
   ·refine cF (vB w) (cK (aw (eT (cR (oY E (aL E E) (oY E (yMI E) (oN ?_)))))))
    obtain rfl:=sI h
    exact eN ⟨_,E,(kp4 (kp E))⟩
  ·refine cF (vB d) (aD (ai ?_))
   obtain rfl:=sI h
   exact av ⟨E,_,E,(kp4 (kp E))⟩
 ·intro e L tm hJ
  rcases U with Q|Y
  ·dsimp only at h hJ
   obtain⟨rfl,G,rfl,rfl⟩:=hJ
   refine⟨(by intro hc;cases hc),?_⟩
   refine ae (ab ?_)
   obtain rfl:=sI h
   exact am (.inl E) E (rVt (v:=vI Q.1) E) (fun W2 o=>⟨E,o.none⟩)
  ·dsimp only at h hJ
   obtain⟨rfl,H,rfl,rfl⟩:=hJ
   refine⟨(by intro hc;cases hc),?_⟩
   refine ac (eT (cS (cR (oY E (yAI E) (oN (eT (ap ?_)))))))
   obtain rfl:=sI h
   exact am (.inl E) E (rVt (v:=vI (-1)) E) (fun W2 o=>⟨E,o.none⟩)
theorem kV (p0:(List Int)) (G:(List (Int × Int))) (f:TY) (res:(Int × (List (Int × Int)))) (h:gj p0 G f=some res) (W:World) (H:World) (R:Res) (g:Nat) (Aa:Option Addr) (I ca:Nat) (X:I=p0.length) (Y:∀W2,Below H.heap.size H W2→R.holds W2→Rd W2 Aa I ca (encL cI p0)) (Q:Nat) (Z:∀W2,Below H.heap.size H W2→R.holds W2→Rd W2 (some ⟨Q,0,none⟩) 1 1 [.map (some g)]) (U:Nat) (o:Option Addr) (r u:Nat) (K:r=f.fB.length) (M:∀W2,Below H.heap.size H W2→R.holds W2→Rd W2 o r u (encL aH f.fB)) (d:Option Addr) (w D:Nat) (N:w=f.fR.length) (O:∀W2,Below H.heap.size H W2→R.holds W2→Rd W2 d w D (encL aE f.fR)) (V:∀W2,Below H.heap.size H W2→R.holds W2→Rd W2 (some ⟨U,0,none⟩) 1 1 [.slice o r u,.slice d w D]) (hW:Ext H W [R,mapV Tryz.prog 3 kI eI kI 0 g G]) :
  Calls Tryz.prog 136 [.slice Aa I ca,.func (.func 137) #[] #[.pointer (some ⟨Q,0,none⟩),.pointer (some ⟨U,0,none⟩)]].toArray W fun e W2=>∃x:Unit,True∧e=.returned (vI res.1)∧Ext H W2 [R,mapV Tryz.prog 3 kI eI kI 0 g res.2]:=by
 subst X
 subst K
 subst N
 unfold gj at h
 refine bh (m:=8) Tryz.func136 E E (nB E) hW (cS (cR (oY E (yAI E) (oN (eT (cS (cR (oY E (yMS E) (oY E (dD E) ?_)))))))))
 obtain⟨T,S,h⟩:=bOs h
 refine gR [1] [] [.slice Aa p0.length ca,.func (.func 137) #[] #[slA (some ⟨Q,0,none⟩) 0,slA (some ⟨U,0,none⟩) 0]] [] (fun(_:Unit)=>True) (fun _=>vI T.1) (fun _=>[mapV Tryz.prog 3 kI eI kI 0 g T.2]) (fun _=>[]) (Foc.c1 E) (by decide) E go_138 E E (fun _=>E) (fun W2 F=>gU p0 G f T S W2 _ (bH [R,mapV Tryz.prog 3 kI eI kI 0 g G] [1]) g Aa p0.length ca E (fun W3 hb hR=>(RdL.under Y) W3 (F.restL hb hR)) Q (fun W3 hb hR=>(RdL.under Z) W3 (F.restL hb hR)) U o f.fB.length u E (fun W3 hb hR=>(RdL.under M) W3 (F.restL hb hR)) d f.fR.length D E (fun W3 hb hR=>(RdL.under O) W3 (F.restL hb hR)) (fun W3 hb hR=>(RdL.under V) W3 (F.restL hb hR)) F) ?_
 rintro - -
 try dsimp only[me,lsz,lss,List.append_nil]
 refine oY E (yAI E) (oN (eT (ap ?_)))
 obtain rfl:=sI h
 exact am (.inl E) E (rVt (v:=vI T.1) E) (fun W2 F=>⟨(),trivial,E,F.take 2⟩)
theorem nx (p0:(List Int)) (p1:Int→Option Bool) (res:Int) (h:ik p0 p1=some res) (W:World) (Aa:Option Addr) (f ca:Nat) (o:f=p0.length) (r:Rd W Aa f ca (encL cI p0)) (fid1:Nat) (fst1 caps1:List Value) (u:bA Tryz.prog fid1=true) (d:∀W2,Below W.heap.size W W2→∀x,∀y,p1 x=some y→Calls Tryz.prog fid1 (fst1++(([vI x]:List Value)++caps1)).toArray W2 fun e W3=>e=.returned (.bool y)∧Ext W2 W3 []) :
  Calls Tryz.prog 136 [.slice Aa f ca,.func (.func fid1) fst1.toArray caps1.toArray].toArray W fun e W2=>e=.returned (vI res)∧Ext W W2 []:=by
 subst o
 unfold ik at h
 refine aj (m:=8) Tryz.func136 E E (nB E) (cS (cR (oY E (yAI E) (oN (eT (cS (cR (oY E (yMS E) (oY E (bK (v:=.func (.func fid1) fst1.toArray caps1.toArray) E) ?_)))))))))
 obtain⟨D,w,h⟩:=bOs h
 refine oY E (yC [.slice Aa p0.length ca,.func (.func fid1) fst1.toArray caps1.toArray] go_138 E (fun W2 g=>fa p0 p1 D w W2 Aa p0.length ca E ((RdL.arg r) W2 g) fid1 fst1 caps1 u (fun W3 hb=>d W3 (fY g.below hb))) E) (oY E (yAI E) (oN (eT (ap ?_))))
 obtain rfl:=sI h
 exact am (.inl E) E (rVt (v:=vI D) E) (fun W2 g=>⟨E,g.none⟩)
theorem pw (p0:TY) (p1:(List Int)) (res:Bool) (h:oE p0 p1=some res) (W:World) (Aa:Option Addr) (g ca:Nat) (u:g=p0.fB.length) (d:Rd W Aa g ca (encL aH p0.fB)) (Ab:Option Addr) (o cb:Nat) (w:o=p0.fR.length) (D:Rd W Ab o cb (encL aE p0.fR)) (Ac:Option Addr) (r cc:Nat) (F:r=p1.length) (G:Rd W Ac r cc (encL cI p1)) :
  Calls Tryz.prog 91 [.agg #[.slice Aa g ca,.slice Ab o cb],.slice Ac r cc].toArray W fun e W2=>e=.returned (.bool res)∧Ext W W2 []:=by
 subst u
 subst w
 subst F
 unfold oE at h
 refine aj (m:=11) Tryz.func91 E E (nB E) (cS (cR ?_))
 refine aN [.slice Aa p0.fB.length ca,.slice Ab p0.fR.length cb] E E E (fun I=>?_)
 refine oY E (yAB E) (oN (eT (cS (cR ?_))))
 refine kq 3 kI eI kI 0 E (fun H=>?_)
 refine aF ze_152 E (fun K=>?_)
 refine cy E (dJ 2 (v:=.map (some H)) sz_152 E (Nat.lt_of_lt_of_le (Nat.lt_succ_self _) (nB E)) E E E) (oN (eT (cS (cR (oY E (yMS E) (oY E (bZ [.pointer (some ⟨K,0,none⟩),.pointer (some ⟨I,0,none⟩)] E E) ?_))))))
 obtain⟨M,N,h⟩:=bOs h
 refine gR [1] [] [.slice Ac p1.length cc,.func (.func 137) #[] #[.pointer (some ⟨K,0,none⟩),.pointer (some ⟨I,0,none⟩)]] [] (fun(_:Unit)=>True) (fun _=>vI M.1) (fun _=>[mapV Tryz.prog 3 kI eI kI 0 H M.2]) (fun _=>[]) (Foc.c1 E) (by decide) E go_136 E E (fun _=>E) (fun W2 f=>kV p1 [] p0 M N W2 _ (bH [ak I 53 [.slice Aa p0.fB.length ca,.slice Ab p0.fR.length cb],mapV Tryz.prog 3 kI eI kI 0 H [],ak K 152 [.map (some H)]] [1]) H Ac p1.length cc E (fun W3 hb hR=>(RdL.arg G) W3 (f.restL hb hR)) K (fun W3 hb hR=>(RdL.cells 2 E) W3 (f.restL hb hR)) I Aa p0.fB.length ca E (fun W3 hb hR=>(RdL.arg d) W3 (f.restL hb hR)) Ab p0.fR.length cb E (fun W3 hb hR=>(RdL.arg D) W3 (f.restL hb hR)) (fun W3 hb hR=>(RdL.cells 0 E) W3 (f.restL hb hR)) f) ?_
 rintro - -
 try dsimp only[me,lsz,lss,List.append_nil]
 refine oY E (be E E) (oY E (yAB E) (oN (eT (ap ?_))))
 obtain rfl:=sI h
 exact am (.inl E) E (rVt (v:=.bool (decide (M.1<0))) E) (fun W2 f=>⟨E,f.none⟩)
theorem en (p0:(List Int)) (res:(List Int)) (h:cE p0=some res) (W:World) (Aa:Option Addr) (f ca:Nat) (r:f=p0.length) (g:Rd W Aa f ca (encL cI p0)) :
  Calls Tryz.prog 92 [.slice Aa f ca].toArray W fun e W2=>∃x:Option Addr × Nat × Nat,x.2.1=res.length∧e=.returned (.slice x.1 x.2.1 x.2.2)∧Ext W W2 [aR x.1 x.2.2 3 1 x.2.1 (encL cI res)]:=by
 subst r
 unfold cE at h
 refine aj (m:=8) Tryz.func92 E E (nB E) (cS (cR (oY E (yAS E) (oN (eT (cS (cS (cR (oY E (yMS E) (oY E (qN cQ E E) (oN (eT ?_))))))))))))
 rcases ar (Option.isNone Aa)with o|o
 ·refine cT (vB o) ?_
  have z6:=qU (Option.isNone_iff_eq_none.1 o▸g) aB (by decide)
  replace h:=(gOs h).2
  rw[z6]at h
  refine cS (cR (oY E (yAS E) (oN (eT (ap (ab ?_))))))
  obtain rfl:=sI h
  exact am (.inl E) E (rVt (v:=.slice none 0 0) E) (fun W2 u=>⟨(none,0,0),E,E,((u.nilrow 3 1).pick 0 E)⟩)
 ·refine cF (vB o) (cK (eT (cS (cR ?_))))
  refine ib cI cQ nD qa E (fun F=>?_)
  refine oY E (yMS E) ?_
  obtain⟨d,h⟩:=gOs h
  refine cx 0 cQ nD qa E E E (RdL.arg g) (eL aB E) (ef qs _) (eR d (by decide)) E (fun w D=>?_)
  refine oY E (yAS E) (oN (eT (ap ?_)))
  obtain rfl:=sI h
  exact am (.inl E) E (rVt (v:=.slice w (0+p0.length) D) E) (fun W2 u=>⟨(w,(0+p0.length),D),(jM E E),E,(u.pick 0 E)⟩)
theorem i8 (p0:(List Int)) (p1:Int→Option Bool) (res:(List Int)) (h:du p0 p1=some res) (W:World) (U:World) (R:Res) (Aa:Option Addr) (u ca:Nat) (K:u=p0.length) (fid1:Nat) (fst1 caps1:List Value) (G:bA Tryz.prog fid1=true) (H:∀W2,Below U.heap.size U W2→R.holds W2→∀x,∀y,p1 x=some y→Calls Tryz.prog fid1 (fst1++(([vI x]:List Value)++caps1)).toArray W2 fun e W3=>e=.returned (.bool y)∧Ext W2 W3 []) (hW:Ext U W [R,aR Aa ca 3 1 u (encL cI p0)]) :
  Calls Tryz.prog 93 [.slice Aa u ca,.func (.func fid1) fst1.toArray caps1.toArray].toArray W fun e W2=>∃k:Nat,k=res.length∧e=.returned (.slice Aa k ca)∧Ext U W2 [R,aR Aa ca 3 1 k (encL cI res)]:=by
 subst K
 unfold du at h
 refine bh (m:=42) Tryz.func93 E E (nB E) hW (cS (cR (oY E (yAS E) (oN (eT (cS (cR (oY E (yMS E) (oY E (bK (v:=.func (.func fid1) fst1.toArray caps1.toArray) E) ?_)))))))))
 obtain⟨q,Z,h⟩:=bOs h
 refine oY E (yC [.slice Aa p0.length ca,.func (.func fid1) fst1.toArray caps1.toArray] go_138 E (fun W2 g=>fa p0 p1 q Z W2 Aa p0.length ca E ((RdL.row 1 E) W2 g) fid1 fst1 caps1 G (fun W3 hb=>H W3 (fY g.below hb) ((g.below' hb).mem (i:=0) E))) E) (oY E (yAI E) (oN (eT (cS (cS (cR (oY E (yMI E) (oY E (cZ E E) (oN (eT ?_))))))))))
 rcases iOs h with⟨M,h⟩|⟨M,h⟩
 ·refine cT (vB M) (cS (cR (oY E (yMS E) (oY E (yAS E) (oN (eT (ap (ab ?_))))))))
  obtain rfl:=sI h
  exact am (.inl E) E (rVt (v:=.slice Aa p0.length ca) E) (fun W2 g=>⟨p0.length,E,E,g.take 2⟩)
 ·refine cF (vB M) (cK (eT (cS (cS (cR (oY E (yMI E) (oY E (aL E E) (oY E (yAI E) (oN (eT (cB ?_)))))))))))
  obtain⟨S,O,h⟩:=bOs h
  refine bj (fun(s:(Int × Int × (List Int))) L tm=>∃(V:Nat→Value),p0.length=s.2.2.length∧L=[R,aR Aa ca 3 1 p0.length (encL cI s.2.2)]∧tm=(upd (upd (upd (upd (upd V 0 (.slice Aa p0.length ca)) 1 (.func (.func fid1) fst1.toArray caps1.toArray)) 4 (.slice none 0 0)) 5 (vI s.1)) 6 (vI s.2.1))) 0 O ⟨_,E,E,(kp4 (kp E))⟩ ?_ ?_
  ·rintro w L tm st ⟨X,f,rfl,rfl⟩ h
   unfold eS at h
   refine cS (cS (cR (oY E (yMI E) (oY E (yMS E) (oY E (bi (us:=[]) cQ E) (oY E (be E E) (oN (eT ?_))))))))
   rcases iOs h with⟨N,h⟩|⟨N,h⟩
   ·refine cT (vB N) (cK (eT (cS (cB (cS (cR (oY E (yMS E) (oY E (yMI E) ?_))))))))
    obtain⟨D,h⟩:=gOs h
    refine oY E (yI bS (by decide) D.1 D.2 (RdL.row 1 E) (eL aB f) E E) ?_
    refine oY E (yR (A:=Aa) (j:=(Int.toNat w.2.1*1)) (v:=vI (rdL w.2.2 w.2.1)) aK (RdL.row 1 E) E (ay aB D.1 (ah D.2 f) E)) (oY E (yAI E) (oN (eT (cS (cR (oY E (bK (v:=.func (.func fid1) fst1.toArray caps1.toArray) E) (oY E (yMI E) ?_)))))))
    obtain⟨T,Q,h⟩:=bOs h
    refine oY E (gx [vI (rdL w.2.2 w.2.1)] G E E (fun W2 g=>H W2 g.below (g.mem (i:=0) E) (rdL w.2.2 w.2.1) T Q)) (oY E (bD E) (oN (eT ?_)))
    rcases iOs h with⟨d,h⟩|⟨d,h⟩
    ·refine cT (vB d) (cS (cR (oY E (yMS E) (oY E (yMI E) (oY E (yMI E) ?_)))))
     obtain⟨o,h⟩:=gOs h
     refine oY E (yI bS (by decide) o.1 o.2 (RdL.row 1 E) (eL aB f) E E) ?_
     refine cy E (iD 1 (xs:=w.2.2) aB (rdL w.2.2 w.2.1) px E o.1 (ah o.2 f) E E E E) (oN (eT (cR (oY E (yMI E) (oY E (aL E E) (oY E (yAI E) (oN (aw (eT (cR (oY E (yMI E) (oY E (aL E E) (oY E (yAI E) (oN ?_))))))))))))))
     obtain rfl:=sI h
     exact eN ⟨_,(cY f),E,(kp4 (kp E))⟩
    ·refine cF (vB d) (cK (aw (eT (cR (oY E (yMI E) (oY E (aL E E) (oY E (yAI E) (oN ?_))))))))
     obtain rfl:=sI h
     exact eN ⟨_,f,E,(kp4 (kp E))⟩
   ·refine cF (vB N) (aD (ai ?_))
    obtain rfl:=sI h
    exact av ⟨E,_,f,E,(kp4 (kp E))⟩
  ·intro e L tm hJ
   obtain⟨rfl,Y,F,rfl,rfl⟩:=hJ
   refine⟨(by intro hc;cases hc),?_⟩
   refine ac (eT (cS (cR (oY E (yMS E) (oY E (yMI E) ?_)))))
   obtain⟨I,h⟩:=gOs h
   refine oY E (y_cutL bS I.1 I.2 (RdL.row 1 E) E E) ?_
   obtain⟨r,h⟩:=gOs h
   refine cy E (y_clearH 1 cQ nD E (by decide) E aB E r.1 r.2 E) ?_
   refine oN (eT (cS (cR (oY E (yMS E) (oY E (yMI E) (oY E (y_cutHc bS r.1 (fun W2 g=>(eZ (g.mem (i:=1) E)).cap) E E) (oY E (yAS E) (oN (eT (ap ?_))))))))))
   obtain rfl:=sI h
   exact am (.inl E) E (rVt (v:=.slice Aa (Int.toNat S.1) ca) E) (fun W2 g=>⟨Int.toNat S.1,(sV r.2 F),E,g.take 2⟩)
theorem nz (p0:Int) (f:Int) (res:Bool) (h:ij p0 f=some res) (W:World) (g:Nat) (o:Rd W (some ⟨g,0,none⟩) 1 1 (cI f)) :
  Calls Tryz.prog 94 [vI p0,.pointer (some ⟨g,0,none⟩)].toArray W fun e W2=>e=.returned (.bool res)∧Ext W W2 []:=by
 unfold ij at h
 refine aj (m:=7) Tryz.func94 E E (nB E) (cS (cR (oY E (yAB E) (oN (eT (cS (cR (oY E (yMI E) (oY E (yR (A:=(some ⟨g,0,none⟩)) (j:=0) (v:=vI f) aK (RdL.arg o) E E) (oY E (cZ E E) (oY E (yAB E) (oN (eT (ap ?_))))))))))))))
 obtain rfl:=sI h
 exact am (.inl E) E (rVt (v:=.bool (p0==f)) E) (fun W2 r=>⟨E,r.none⟩)
theorem oO (p0:TY) (p1:(List Int)) (res:((List Int) × Int)) (h:lw p0 p1=some res) (W:World) (Aa:Option Addr) (Y ca:Nat) (b:Y=p0.fB.length) (D:Rd W Aa Y ca (encL aH p0.fB)) (Ab:Option Addr) (Z cb:Nat) (c:Z=p0.fR.length) (F:Rd W Ab Z cb (encL aE p0.fR)) (Ac:Option Addr) (V cc:Nat) (f1:V=p1.length) (r:Rd W Ac V cc (encL cI p1)) :
  Calls Tryz.prog 31 [.agg #[.slice Aa Y ca,.slice Ab Z cb],.slice Ac V cc].toArray W fun e W2=>∃x:Option Addr × Nat × Nat,x.2.1=res.1.length∧e=.returned (.tuple #[.slice x.1 x.2.1 x.2.2,vI res.2])∧Ext W W2 [aR x.1 x.2.2 3 1 x.2.1 (encL cI res.1)]:=by
 subst b
 subst c
 subst f1
 unfold lw at h
 refine aj (m:=65) Tryz.func31 E E (nB E) (cS (cR ?_))
 refine aN [.slice Aa p0.fB.length ca,.slice Ab p0.fR.length cb] E E E (fun b1=>?_)
 refine oY E (yAS E) (oY E (yAI E) (oN (eT (cS (cS (cR (oY E (yN 0 [.slice Aa p0.fB.length ca,.slice Ab p0.fR.length cb] dF E E E) ?_)))))))
 obtain⟨y2,op,h⟩:=bOs h
 refine oY E (yC [.agg #[.slice Aa p0.fB.length ca,.slice Ab p0.fR.length cb]] go_45 E (fun W2 f=>dY p0 y2 op W2 Aa p0.fB.length ca E ((RdL.arg D) W2 f) Ab p0.fR.length cb E ((RdL.arg F) W2 f)) E) (oY E (yAI E) (oN (eT (cS (cR (oY E (yMI E) (oY E (cJ E E) (oN (eT ?_)))))))))
 rcases iOs h with⟨f3,h⟩|⟨f3,h⟩
 ·refine cT (vB f3) (cS (cR (oY E (yMI E) (oY E (yAS E) (oY E (yAI E) (oN (eT (ap (ab ?_)))))))))
  obtain rfl:=sI h
  exact bT (.inl E) E (rVt (v:=.slice none 0 0) E) (rVt (v:=vI y2) E) (fun W2 f=>⟨(none,0,0),E,E,((f.nilrow 3 1).pick 1 E)⟩)
 ·refine cF (vB f3) (cK (eT (cS (cS (cR (oY E (yMS E) (oY E (bi (us:=[]) cQ E) (oY E (yMI E) (oN (eT (cB ?_)))))))))))
  obtain⟨u7,fD,h⟩:=bOs h
  refine dr 3 1 ?_
  refine a8 (fun(s:(Int × Int)) L tm=>∃(G:Nat→Value),L=[ak b1 53 [.slice Aa p0.fB.length ca,.slice Ab p0.fR.length cb],aR none 0 3 1 0 (encL cI ([]:List Int))]∧tm=(upd (upd (upd (upd (upd (upd (upd G 1 (.slice Ac p1.length cc)) 2 (.pointer (some ⟨b1,0,none⟩))) 4 (.slice none 0 0)) 5 (vI s.1)) 18 (.slice Ac p1.length cc)) 19 (vI (p1.length:Int))) 20 (vI s.2))) 0 fD ⟨_,E,(kp4 (kp (kp (kp E))))⟩ ?_ ?_
  ·rintro K L tm st ⟨o2,rfl,rfl⟩ h
   unfold lk at h
   refine cS (cR (oY E (be E E) (oN (eT (cS ?_)))))
   rcases iOs h with⟨fr,h⟩|⟨fr,h⟩
   ·refine cT (vB fr) (cK (eT (cS (cB (cS (cR (oY E (yMI E) ?_)))))))
    obtain⟨a,h⟩:=gOs h
    refine oY E (yI bS (by decide) a.1 a.2 (RdL.arg r) (eL aB E) E E) ?_
    refine oY E (yR (A:=Ac) (j:=(Int.toNat K.2*1)) (v:=vI (rdL p1 K.2)) aK (RdL.arg r) E (ay aB a.1 (ah a.2 E) E)) (oY E (yAI E) (oY E (yAI E) (oN (eT (cS (cR (oY E (yN 0 [.slice Aa p0.fB.length ca,.slice Ab p0.fR.length cb] dF E E E) (oY E (yMI E) ?_))))))))
    obtain⟨fE,fG,h⟩:=bOs h
    refine oY E (yC [.agg #[.slice Aa p0.fB.length ca,.slice Ab p0.fR.length cb],vI (rdL p1 K.2)] go_90 E (fun W2 f=>kE p0 (rdL p1 K.2) fE fG W2 Aa p0.fB.length ca E ((RdL.arg D) W2 f) Ab p0.fR.length cb E ((RdL.arg F) W2 f)) E) (oY E (be E E) (oY E (yMB E) ?_))
    obtain⟨om,fH,h⟩:=bOs h
    refine oJ 12 (fun G=>(upd (upd (upd (upd (upd (upd (upd (upd (upd (upd (upd G 1 (.slice Ac p1.length cc)) 2 (.pointer (some ⟨b1,0,none⟩))) 4 (.slice none 0 0)) 5 (vI K.1)) 18 (.slice Ac p1.length cc)) 19 (vI (p1.length:Int))) 20 (vI K.2)) 21 (.bool (decide (K.2<(p1.length:Int))))) 7 (vI K.2)) 8 (vI (rdL p1 K.2))) 41 (.bool om))) (fun G=>?_) (fun key=>?_)
    ·refine oN (eT ?_)
     rcases iOs h with⟨T,h⟩|⟨T,h⟩
     ·refine cT (vB T) (cS (cR (oY E (yAS E) (oY E (yAI E) (oN (eT (ap (ae (ab ?_)))))))))
      obtain rfl:=sI h
      exact av ⟨E,_,E,(kp4 (kp (kp (kp E))))⟩
     ·refine cF (vB T) (cK (aw (eT (cR (oY E (aL E E) (oY E (yMI E) (oN ?_)))))))
      obtain rfl:=sI h
      exact eN ⟨_,E,(kp4 (kp (kp (kp E))))⟩
    ·clear h;rcases iOs fH with⟨o,h⟩|⟨o,h⟩
     ·refine oSk (sF E E E E o) (oSk (sF E E E E o) (oSk (sF E E E E o) (oSk E (oSk E (oSk E (oSk E (oSk E (oSk E (oSk E (oSk (sF E E E E o) (oY E (ad (vB o) E) ?_)))))))))))
      obtain rfl:=sI h
      exact key _ _ (kp4 (kp4 (kp (kp (kp E)))))
     ·refine oY (sT E E E E o) (yMI E) (oY (sT E E E E o) (eu E E) (oY (sT E E E E o) (yMB E) ?_))
      obtain⟨ot,fK,h⟩:=bOs h
      refine oJ 8 (fun G=>(upd (upd (upd (upd (upd (upd (upd (upd (upd (upd (upd (upd G 1 (.slice Ac p1.length cc)) 2 (.pointer (some ⟨b1,0,none⟩))) 4 (.slice none 0 0)) 5 (vI K.1)) 18 (.slice Ac p1.length cc)) 19 (vI (p1.length:Int))) 20 (vI K.2)) 21 (.bool (decide (K.2<(p1.length:Int))))) 7 (vI K.2)) 8 (vI (rdL p1 K.2))) 29 (.bool (decide (fE<0)))) 40 (.bool ot))) (fun G=>?_) (fun key=>?_)
      ·refine oY E (ag (vB o) E) ?_
       obtain rfl:=sI h
       exact key _ _ (kp4 (kp4 (kp (kp (kp E)))))
      ·clear h;rcases iOs fK with⟨g,h⟩|⟨g,h⟩
       ·refine oY (sT E E E E g) (yMI E) (oY (sT E E E E g) (yMS E) (oY (sT E E E E g) (yMI E) (oY (sT E E E E g) (ex E E) ?_)))
        obtain⟨O,h⟩:=gOs h
        refine oY (sT E E E E g) (yI bS (by decide) O.1 O.2 (RdL.arg r) (eL aB E) E E) ?_
        refine oY (sT E E E E g) (yR (A:=Ac) (j:=(Int.toNat (w64 (K.2-1))*1)) (v:=vI (rdL p1 (w64 (K.2-1)))) aK (RdL.arg r) E (ay aB O.1 (ah O.2 E) E)) (oY (sT E E E E g) (gV E E) (oY (sT E E E E o) (ad (vB g) E) ?_))
        obtain rfl:=sI h
        exact key _ _ (kp4 (kp4 (kp4 E)))
       ·refine oSk (sF E E E E g) (oSk (sF E E E E g) (oSk (sF E E E E g) (oSk (sF E E E E g) (oSk (sF E E E E g) (oSk (sF E E E E g) (oSk (sF E E E E g) (oY (sT E E E E o) (ag (vB g) E) ?_)))))))
        obtain rfl:=sI h
        exact key _ _ (kp4 (kp4 (kp4 E)))
   ·refine cF (vB fr) (aD (ai ?_))
    obtain rfl:=sI h
    exact av ⟨E,_,E,(kp4 (kp (kp (kp E))))⟩
  ·intro e L tm hJ
   rcases u7 with oa|oi
   ·dsimp only at h hJ
    obtain⟨rfl,fT,rfl,rfl⟩:=hJ
    refine⟨(by intro hc;cases hc),?_⟩
    refine ae (ab ?_)
    obtain rfl:=sI h
    exact bT (.inl E) E (rVt (v:=.slice none 0 0) E) (rVt (v:=vI oa.1) E) (fun W2 f=>⟨(none,0,0),E,E,(f.pick 1 E)⟩)
   ·dsimp only at h hJ
    obtain⟨rfl,fn,rfl,rfl⟩:=hJ
    refine⟨(by intro hc;cases hc),?_⟩
    refine ac (eT (cS (cS (cR (oY E (yN 0 [.slice Aa p0.fB.length ca,.slice Ab p0.fR.length cb] dF E E E) (oY E (yMS E) ?_))))))
    obtain⟨oj,fl,h⟩:=bOs h
    refine oY E (yC [.agg #[.slice Aa p0.fB.length ca,.slice Ab p0.fR.length cb],.slice Ac p1.length cc] go_91 E (fun W2 f=>pw p0 p1 oj fl W2 Aa p0.fB.length ca E ((RdL.arg D) W2 f) Ab p0.fR.length cb E ((RdL.arg F) W2 f) Ac p1.length cc E ((RdL.arg r) W2 f)) E) (oN (eT ?_))
    rcases iOs h with⟨S,h⟩|⟨S,h⟩
    ·refine cT (vB S) (cS (cR (oY E (yAS E) (oY E (yAI E) (oN (eT (ap (ab ?_))))))))
     obtain rfl:=sI h
     exact bT (.inl E) E (rVt (v:=.slice none 0 0) E) (rVt (v:=vI 5) E) (fun W2 f=>⟨(none,0,0),E,E,((f.nilrow 3 1).pick 2 E)⟩)
    ·refine cF (vB S) (cK (eT (cS (cR (oY E (yMS E) ?_)))))
     obtain⟨fd,ft,h⟩:=bOs h
     refine oC [.slice Ac p1.length cc] _ _ _ E go_92 E (fun W2 f=>en p1 fd ft W2 Ac p1.length cc E ((RdL.arg r) W2 f)) ?_
     rintro⟨ok,r0,r1⟩ R
     replace R:r0=fd.length:=R;subst R
     refine oY E (yAS E) (oN (eT (cS (cS (cR (oY E (yMS E) (oY E (bi (us:=[]) cQ E) (oY E (yMI E) (oN (eT (cB ?_)))))))))))
     obtain⟨g1,g2,h⟩:=bOs h
     refine bj (fun(s:(Int × (List Int))) L tm=>∃(G:Nat→Value) (z:Option Addr) (i:Nat) (q:Nat),q=s.2.length∧L=[ak b1 53 [.slice Aa p0.fB.length ca,.slice Ab p0.fR.length cb],aR none 0 3 1 0 (encL cI ([]:List Int)),aR z i 3 1 q (encL cI s.2)]∧tm=(upd (upd (upd (upd (upd (upd (upd G 2 (.pointer (some ⟨b1,0,none⟩))) 4 (.slice none 0 0)) 5 (vI oi.1)) 9 (.slice z q i)) 48 (.slice Ac p1.length cc)) 49 (vI (p1.length:Int))) 50 (vI s.1))) 2 g2 ⟨_,ok,r1,fd.length,E,E,(kp4 (kp (kp (kp E))))⟩ ?_ ?_
     ·rintro w L tm st ⟨g3,u,d,oX,rfl,rfl,rfl⟩ h
      unfold li at h
      refine cS (cR (oY E (be E E) (oN (eT (cS ?_)))))
      rcases iOs h with⟨p,h⟩|⟨p,h⟩
      ·refine cT (vB p) (cK (eT (cS (cB (cS (cR ?_))))))
       obtain⟨Q,h⟩:=gOs h
       refine oY E (yI bS (by decide) Q.1 Q.2 (RdL.arg r) (eL aB E) E E) ?_
       refine oY E (yR (A:=Ac) (j:=(Int.toNat w.1*1)) (v:=vI (rdL p1 w.1)) aK (RdL.arg r) E (ay aB Q.1 (ah Q.2 E) E)) ?_
       refine aF nD E (fun n=>?_)
       refine cy E (dJ 3 (v:=vI (rdL p1 w.1)) px E (Nat.lt_of_lt_of_le (Nat.lt_succ_self _) (nB E)) E E E) (oN (eT (cS (cR (oY E (yMS E) ?_)))))
       obtain⟨M,g4,h⟩:=bOs h
       refine oC [.slice u w.2.length d] _ _ _ E go_92 E (fun W2 f=>en w.2 M g4 W2 u w.2.length d E ((RdL.row 2 E) W2 f)) ?_
       rintro⟨H,r2,I⟩ l
       replace l:r2=M.length:=l;subst l
       refine oY E (bZ [.pointer (some ⟨n,0,none⟩)] E E) ?_
       obtain⟨N,gf,h⟩:=bOs h
       refine f9 4 [.slice H M.length I,.func (.func 94) #[] #[.pointer (some ⟨n,0,none⟩)]] (fun k:Nat=>k=N.length) (fun k=>.slice H k I) (fun k=>aR H I 3 1 k (encL cI N)) (fun _=>[]) E E go_93 E (fun W2 f=>(i8 M (fun r3=>ij r3 (rdL p1 w.1)) N gf W2 _ (bH [ak b1 53 [.slice Aa p0.fB.length ca,.slice Ab p0.fR.length cb],aR none 0 3 1 0 (encL cI ([]:List Int)),aR u d 3 1 w.2.length (encL cI w.2),ak n 3 [vI (rdL p1 w.1)],aR H I 3 1 M.length (encL cI M)] [4]) H M.length I E 94 [] [.pointer (some ⟨n,0,none⟩)] go_94 (fun W3 hb hR x y hxy=>nz  x (rdL p1 w.1) y hxy W3 n ((RdL.cells 3 E) W3 (f.rest hb hR))) f).mono (fun e W3 h3=>h3)) ?_
       rintro k48 go
       subst go
       try dsimp only[lsz,lss,List.append_nil]
       refine oY E (yAS E) (oN (eT (cS (cR (oY E (yN 0 [.slice Aa p0.fB.length ca,.slice Ab p0.fR.length cb] dF E E E) (oY E (yMS E) ?_))))))
       obtain⟨r4,o0,h⟩:=bOs h
       refine oY E (yC [.agg #[.slice Aa p0.fB.length ca,.slice Ab p0.fR.length cb],.slice H N.length I] go_91 E (fun W2 f=>pw p0 N r4 o0 W2 Aa p0.fB.length ca E ((RdL.arg D) W2 f) Ab p0.fR.length cb E ((RdL.arg F) W2 f) H N.length I E ((RdL.row 4 E) W2 f)) E) (oY E (bD E) (oN (eT ?_)))
       rcases iOs h with⟨t,h⟩|⟨t,h⟩
       ·refine cT (vB t) (cR (oY E (yMS E) (oY E (yAS E) (oN (aw (eT (cR (oY E (aL E E) (oY E (yMI E) (oN ?_))))))))))
        refine ex_mv 2 4 (by decide) E ?_
        try dsimp only[lsz,lss]
        refine aQ 3 ?_
        obtain rfl:=sI h
        exact eN ⟨_,H,I,N.length,E,E,(kp4 (kp (kp (kp E))))⟩
       ·refine cF (vB t) (cK (aw (eT (cR (oY E (aL E E) (oY E (yMI E) (oN (aQ 3 ?_))))))))
        obtain rfl:=sI h
        exact eN ⟨_,u,d,w.2.length,E,E,(kp4 (kp (kp (kp E))))⟩
      ·refine cF (vB p) (aD (ai ?_))
       obtain rfl:=sI h
       exact av ⟨E,_,u,d,w.2.length,E,E,(kp4 (kp (kp (kp E))))⟩
     ·intro e L tm hJ
      obtain⟨rfl,o1,U,X,oq,rfl,rfl,rfl⟩:=hJ
      refine⟨(by intro hc;cases hc),?_⟩
      refine ac (eT (cS (cR (oY E (yMS E) (oY E (yAS E) (oY E (yAI E) (oN (eT (ap ?_)))))))))
      obtain rfl:=sI h
      exact bT (.inl E) E (rVt (v:=.slice U g1.2.length X) E) (rVt (v:=vI 0) E) (fun W2 f=>⟨(U,g1.2.length,X),E,E,(f.pick 2 E)⟩)
theorem kc (p0:(List TBay)) (p1:Int) (p2:Int) (res:(List TBay)) (h:fj p0 p1 p2=some res) (W:World) (F:World) (R:Res) (Aa:Option Addr) (o ca:Nat) (d:o=p0.length) (hW:Ext F W [R,aR Aa ca 69 3 o (encL aH p0)]) :
  Calls Tryz.prog 141 [.slice Aa o ca,vI p1,vI p2].toArray W fun e W2=>∃k:Nat,k=res.length∧e=.returned (.slice Aa k ca)∧Ext F W2 [R,aR Aa ca 69 3 k (encL aH res)]:=by
 subst d
 unfold fj at h
 refine bh (m:=33) Tryz.func141 E E (nB E) hW (cS (cR (oY E (yAS E) (oN (eT (cS (cR (oY E (yMS E) (oY E (yMI E) (oY E (yMI E) (oY E (yMS E) (oY E (bi (us:=[]) kS E) ?_))))))))))))
 obtain⟨r,h⟩:=gOs h
 refine oY E (y_cut3 ni r.1 r.2.1 r.2.2.1 r.2.2.2 (RdL.row 1 E) E E E E) (oN (eT (cS (cS (cR (oY E (yMI E) (oY E (yMI E) (oY E (cZ E E) (oN (eT ?_))))))))))
 rcases iOs h with⟨w,h⟩|⟨w,h⟩
 ·refine cT (vB w) (cS (cR (oY E (yMS E) (oY E (yAS E) (oN (eT (ap (ab ?_))))))))
  obtain rfl:=sI h
  exact am (.inl E) E (rVt (v:=.slice Aa p0.length ca) E) (fun W2 D=>⟨p0.length,E,E,D.take 2⟩)
 ·refine cF (vB w) (cK (eT (cS (cR (oY E (yMS E) (oY E (bi (us:=[]) kS E) (oY E (yAI E) (oN (eT (cS ?_))))))))))
  refine aS 6 bW (by kernel_rfl) (by kernel_rfl) ?_
  refine qY E (yMS E) (qY E (yMI E) ?_)
  obtain⟨f,h⟩:=gOs h
  refine qY E (y_cutH ni f.1 f.2 (RdL.row 1 E) E E) (qY E (yMS E) (qY E (yMI E) ?_))
  obtain⟨g,h⟩:=gOs h
  refine qY E (y_cutL ni g.1 g.2 (RdL.row 1 E) E E) (bF ?_)
  obtain⟨u,h⟩:=gOs h
  refine nL 1 aO l6 kS pW by_69 E E f.1 u g.2 E E E (oY E (yAS E) (oN (eT (cS (cR (oY E (yMS E) (oY E (yMS E) (oY E (bi (us:=[]) kS E) (oY E (yMI E) ?_)))))))))
  refine oY E (y_cutO ni (by omega) (by have h8:=(mV f.1 u g.2);omega) (by have h9:=(eZ (hW.mem (i:=1) E)).cap;omega) E E E) ?_
  refine cy E (tl 1 kS pW E (by decide) E E (by have h8:=(mV f.1 u g.2);have h9:=(eZ (hW.mem (i:=1) E)).cap;simp only[Int.toNat_natCast];omega) E) ?_
  refine oN (eT (cS (cR (oY E (yMS E) (oY E (yAS E) (oN (eT (ap ?_))))))))
  obtain rfl:=sI h
  exact am (.inl E) E (rVt (v:=.slice Aa (Int.toNat p1+(p0.length-Int.toNat p2)) ca) E) (fun W2 D=>⟨(Int.toNat p1+(p0.length-Int.toNat p2)),(qf f.1 u g.2 E),E,D.take 2⟩)
theorem ku (p0:(List TBay)) (res:(List TBay)) (h:fM p0=some res) (W:World) (Aa:Option Addr) (f ca:Nat) (r:f=p0.length) (g:Rd W Aa f ca (encL aH p0)) :
  Calls Tryz.prog 142 [.slice Aa f ca].toArray W fun e W2=>∃x:Option Addr × Nat × Nat,x.2.1=res.length∧e=.returned (.slice x.1 x.2.1 x.2.2)∧Ext W W2 [aR x.1 x.2.2 69 3 x.2.1 (encL aH res)]:=by
 subst r
 unfold fM at h
 refine aj (m:=8) Tryz.func142 E E (nB E) (cS (cR (oY E (yAS E) (oN (eT (cS (cS (cR (oY E (yMS E) (oY E (qN kS E E) (oN (eT ?_))))))))))))
 rcases ar (Option.isNone Aa)with o|o
 ·refine cT (vB o) ?_
  have z6:=qU (Option.isNone_iff_eq_none.1 o▸g) aO (by decide)
  replace h:=(gOs h).2
  rw[z6]at h
  refine cS (cR (oY E (yAS E) (oN (eT (ap (ab ?_))))))
  obtain rfl:=sI h
  exact am (.inl E) E (rVt (v:=.slice none 0 0) E) (fun W2 u=>⟨(none,0,0),E,E,((u.nilrow 69 3).pick 0 E)⟩)
 ·refine cF (vB o) (cK (eT (cS (cR ?_))))
  refine ib aH kS pW by_69 E (fun F=>?_)
  refine oY E (yMS E) ?_
  obtain⟨d,h⟩:=gOs h
  refine cx 0 kS pW by_69 E E E (RdL.arg g) (eL aO E) (ef l6 _) (eR d (by decide)) E (fun w D=>?_)
  refine oY E (yAS E) (oN (eT (ap ?_)))
  obtain rfl:=sI h
  exact am (.inl E) E (rVt (v:=.slice w (0+p0.length) D) E) (fun W2 u=>⟨(w,(0+p0.length),D),(jM E E),E,(u.pick 0 E)⟩)
theorem k8 (p0:TY) (p1:Int) (res:TY) (h:jP p0 p1=some res) (W:World) (Aa:Option Addr) (o ca:Nat) (d:o=p0.fB.length) (w:Rd W Aa o ca (encL aH p0.fB)) (Ab:Option Addr) (g cb:Nat) (D:g=p0.fR.length) (I:Rd W Ab g cb (encL aE p0.fR)) :
  Calls Tryz.prog 97 [.agg #[.slice Aa o ca,.slice Ab g cb],vI p1].toArray W fun e W2=>∃x:(Option Addr × Nat × Nat),x.2.1=res.fB.length∧e=.returned (.agg #[.slice x.1 x.2.1 x.2.2,.slice Ab g cb])∧Ext W W2 [aR x.1 x.2.2 69 3 x.2.1 (encL aH res.fB)]:=by
 subst d
 subst D
 unfold jP at h
 refine aj (m:=15) Tryz.func97 E E (nB E) (cS (cR ?_))
 refine aN [.slice Aa p0.fB.length ca,.slice Ab p0.fR.length cb] E E E (fun M=>?_)
 refine aF sq E (fun N=>?_)
 refine oN (eT (cS ?_))
 obtain⟨u,K,h⟩:=bOs h
 obtain⟨f,G,h⟩:=bOs h
 refine gI [[],[0],[0,1],[],[],[4],[0,1,2,3,4,5],[],[7],[0,1,2,3,4,5,6,7,8],[0,1,2,3,4,5,6,7,8,9]] [(none,0,[true,true]),(none,0,[true,true]),(none,1,[true,true]),(none,0,[true,true,false]),(none,0,[true,true,false]),(none,0,[true,true,false]),(some 2,0,[true,true,true]),(none,0,[true,true,false]),(none,0,[true,true,false]),(none,0,[true,true,true]),(some 1,0,[true,true,true])] [⟨fun _=>.pointer (some ⟨M,0+0,none⟩),fun _=>noR,fun _=>[]⟩,⟨fun _=>.slice Aa p0.fB.length ca,fun _=>noR,fun _=>[]⟩,⟨fun ξ3=>.slice (ξ3 2 0).1 u.length (ξ3 2 0).2.2.1,fun _=>noR,fun ξ3=>[aR (ξ3 2 0).1 (ξ3 2 0).2.2.1 69 3 u.length (encL aH u)]⟩,⟨fun _=>vI p1,fun _=>noR,fun _=>[]⟩,⟨fun _=>vI p1,fun _=>noR,fun _=>[]⟩,⟨fun _=>vI (w64 (p1+1)),fun _=>noR,fun _=>[]⟩,⟨fun ξ3=>.slice (ξ3 2 0).1 f.length (ξ3 2 0).2.2.1,fun ξ3=>aR (ξ3 2 0).1 (ξ3 2 0).2.2.1 69 3 f.length (encL aH f),fun _=>[]⟩,⟨fun _=>.pointer (some ⟨M,0+1,none⟩),fun _=>noR,fun _=>[]⟩,⟨fun _=>.slice Ab p0.fR.length cb,fun _=>noR,fun _=>[]⟩,⟨fun ξ3=>.agg #[.slice (ξ3 2 0).1 f.length (ξ3 2 0).2.2.1,.slice Ab p0.fR.length cb],fun _=>noR,fun _=>[]⟩,⟨fun _=>undef,fun ξ3=>ak N 53 [.slice (ξ3 2 0).1 f.length (ξ3 2 0).2.2.1,.slice Ab p0.fR.length cb],fun _=>[]⟩] 2 bW (by kernel_rfl) (by kernel_rfl) ⟨⟨fun ξ3 ξ3' h=>⟨E,E,E⟩,fun _=>E⟩,⟨fun ξ3 ξ3' h=>⟨E,E,E⟩,fun _=>E⟩,⟨fun ξ3 ξ3' h=>⟨by simp only[h 2 (.inl E)],E,by simp only[h 2 (.inl E)]⟩,fun _=>E⟩,⟨fun ξ3 ξ3' h=>⟨E,E,E⟩,fun _=>E⟩,⟨fun ξ3 ξ3' h=>⟨E,E,E⟩,fun _=>E⟩,⟨fun ξ3 ξ3' h=>⟨E,E,E⟩,fun _=>E⟩,⟨fun ξ3 ξ3' h=>⟨by simp only[h 2 (.inr E)],by simp only[h 2 (.inr E)],E⟩,fun _=>E⟩,⟨fun ξ3 ξ3' h=>⟨E,E,E⟩,fun _=>E⟩,⟨fun ξ3 ξ3' h=>⟨E,E,E⟩,fun _=>E⟩,⟨fun ξ3 ξ3' h=>⟨by simp only[h 2 (.inr E)],E,E⟩,fun _=>E⟩,⟨fun ξ3 ξ3' h=>⟨E,by simp only[h 2 (.inr E)],E⟩,fun _=>E⟩,trivial⟩ E (fun ξ3=>?_)
 refine cW E (fun L2=>?_) ?_
 ·dsimp only[aM,lca,lna]
  refine oY E (yFA fm E) (oN ?_)
  exact az (fun _=>(none,0,0,[],noR)) E (List.append_nil _)
 dsimp only[cg,lsz,lss,lna,lca,List.append_nil]
 refine cW E (fun L2=>?_) ?_
 ·dsimp only[aM,lca,lna]
  refine oY E (yL 0 ly E E E) (oN ?_)
  exact az (fun _=>(none,0,0,[],noR)) E (List.append_nil _)
 dsimp only[cg,lsz,lss,lna,lca,List.append_nil]
 refine cW E (fun L2=>?_) ?_
 ·dsimp only[aM,lca,lna]
  refine oC [.slice Aa p0.fB.length ca] _ _ _ E go_142 E (fun W2 r=>ku p0.fB u K W2 Aa p0.fB.length ca E ((RdL.arg w) W2 r)) ?_
  rintro⟨O,Q,U⟩ F
  replace F:Q=u.length:=F;subst F
  refine oN ?_
  exact az (fun _=>(O,0,U,[],noR)) E E
 dsimp only[cg,lsz,lss,lna,lca,List.append_nil]
 refine cW E (fun L2=>?_) ?_
 ·dsimp only[aM,lca,lna]
  refine oY E (yMI E) (oN ?_)
  exact az (fun _=>(none,0,0,[],noR)) E (List.append_nil _)
 dsimp only[cg,lsz,lss,lna,lca,List.append_nil]
 refine cW E (fun L2=>?_) ?_
 ·dsimp only[aM,lca,lna]
  refine oY E (yMI E) (oN ?_)
  exact az (fun _=>(none,0,0,[],noR)) E (List.append_nil _)
 dsimp only[cg,lsz,lss,lna,lca,List.append_nil]
 refine cW E (fun L2=>?_) ?_
 ·dsimp only[aM,lca,lna]
  refine oY E (aL E E) (oN ?_)
  exact az (fun _=>(none,0,0,[],noR)) E (List.append_nil _)
 dsimp only[cg,lsz,lss,lna,lca,List.append_nil]
 refine cW E (fun L2=>?_) ?_
 ·dsimp only[aM,lca,lna]
  refine f9 2 [.slice (ξ3 2 0).1 u.length (ξ3 2 0).2.2.1,vI p1,vI (w64 (p1+1))] (fun k:Nat=>k=f.length) (fun k=>.slice (ξ3 2 0).1 k (ξ3 2 0).2.2.1) (fun k=>aR (ξ3 2 0).1 (ξ3 2 0).2.2.1 69 3 k (encL aH f)) (fun _=>[]) E E go_141 E (fun W2 r=>(kc u p1 (w64 (p1+1)) f G W2 _ _ (ξ3 2 0).1 u.length (ξ3 2 0).2.2.1 E r).mono (fun e W3 h3=>h3)) ?_
  rintro k12 H
  subst H
  try dsimp only[lsz,lss,List.append_nil]
  refine oN ?_
  first|exact az (fun _=>(none,0,0,[],noR)) E E|exact az (fun _=>(none,0,0,[],noR)) E (List.append_nil _)
 dsimp only[cg,lsz,lss,lna,lca,List.append_nil]
 refine cW E (fun L2=>?_) ?_
 ·dsimp only[aM,lca,lna]
  refine oY E (yFA cw E) (oN ?_)
  exact az (fun _=>(none,0,0,[],noR)) E (List.append_nil _)
 dsimp only[cg,lsz,lss,lna,lca,List.append_nil]
 refine cW E (fun L2=>?_) ?_
 ·dsimp only[aM,lca,lna]
  refine oY E (yL 0 iG E E E) (oN ?_)
  exact az (fun _=>(none,0,0,[],noR)) E (List.append_nil _)
 dsimp only[cg,lsz,lss,lna,lca,List.append_nil]
 refine cW E (fun L2=>?_) ?_
 ·dsimp only[aM,lca,lna]
  refine oY E (bn [.slice (ξ3 2 0).1 f.length (ξ3 2 0).2.2.1,.slice Ab p0.fR.length cb] [(0,1),(1,1)] ust_53 sq (by kernel_rfl)) ?_
  refine oN ?_
  exact az (fun _=>(none,0,0,[],noR)) E (List.append_nil _)
 dsimp only[cg,lsz,lss,lna,lca,List.append_nil]
 refine gx_n E (fun L2=>?_) ?_
 ·dsimp only[aM,lca,lna]
  refine cy E (yS 1 [.slice (ξ3 2 0).1 f.length (ξ3 2 0).2.2.1,.slice Ab p0.fR.length cb] sz_53 E (nB E) E E E) (oN ?_)
  first|exact ci (fun _=>(none,0,0,[],noR)) E|exact ci (fun _=>(none,0,0,[],noR)) (List.append_nil _)
 dsimp only[cg,lsz,lss,lna,lca,List.append_nil]
 refine my (eT (ap ?_))
 obtain rfl:=sI h
 exact am (.inl E) E (cf 1 [.slice (ξ3 2 0).1 f.length (ξ3 2 0).2.2.1,.slice Ab p0.fR.length cb] dF E E E) (fun W2 r=>⟨((ξ3 2 0).1,f.length,(ξ3 2 0).2.2.1),E,E,r.pickL [2] (by decide) E⟩)
theorem rP (p0:TY) (p1:Int) (res:(Int × Int)) (h:pj p0 p1=some res) (W:World) (Aa:Option Addr) (r ca:Nat) (D:r=p0.fB.length) (o:Rd W Aa r ca (encL aH p0.fB)) (Ab:Option Addr) (u cb:Nat) (F:u=p0.fR.length) (g:Rd W Ab u cb (encL aE p0.fR)) :
  Calls Tryz.prog 33 [.agg #[.slice Aa r ca,.slice Ab u cb],vI p1].toArray W fun e W2=>e=.returned (.tuple #[vI res.1,vI res.2])∧Ext W W2 []:=by
 subst D
 subst F
 unfold pj at h
 refine aj (m:=25) Tryz.func33 E E (nB E) (cS (cR ?_))
 refine aN [.slice Aa p0.fB.length ca,.slice Ab p0.fR.length cb] E E E (fun S=>?_)
 refine oY E (yAI E) (oY E (yAI E) (oN (eT (cS (cS (cR (oY E (yN 0 [.slice Aa p0.fB.length ca,.slice Ab p0.fR.length cb] dF E E E) ?_)))))))
 obtain⟨V,Q,h⟩:=bOs h
 refine oY E (yC [.agg #[.slice Aa p0.fB.length ca,.slice Ab p0.fR.length cb]] go_45 E (fun W2 f=>dY p0 V Q W2 Aa p0.fB.length ca E ((RdL.arg o) W2 f) Ab p0.fR.length cb E ((RdL.arg g) W2 f)) E) (oY E (yAI E) (oN (eT (cS (cR (oY E (yMI E) (oY E (cJ E E) (oN (eT ?_)))))))))
 rcases iOs h with⟨G,h⟩|⟨G,h⟩
 ·refine cT (vB G) (cS (cR (oY E (yMI E) (oY E (yAI E) (oY E (yAI E) (oN (eT (ap (ab ?_)))))))))
  obtain rfl:=sI h
  exact bT (.inl E) E (rVt (v:=vI 0) E) (rVt (v:=vI V) E) (fun W2 f=>⟨E,f.none⟩)
 ·refine cF (vB G) (cK (eT (cS (cR (oY E (yN 0 [.slice Aa p0.fB.length ca,.slice Ab p0.fR.length cb] dF E E E) (oY E (yMI E) ?_))))))
  obtain⟨U,X,h⟩:=bOs h
  refine oY E (yC [.agg #[.slice Aa p0.fB.length ca,.slice Ab p0.fR.length cb],vI p1] go_96 E (fun W2 f=>pH p0 p1 U X W2 Aa p0.fB.length ca E ((RdL.arg o) W2 f) Ab p0.fR.length cb E ((RdL.arg g) W2 f)) E) (oY E (yAI E) (oN (eT (cS (cS (cR (oY E (yMI E) (oY E (be E E) (oN (eT ?_))))))))))
  rcases iOs h with⟨H,h⟩|⟨H,h⟩
  ·refine cT (vB H) (cS (cR (oY E (yAI E) (oY E (yAI E) (oN (eT (ap (ab ?_))))))))
   obtain rfl:=sI h
   exact bT (.inl E) E (rVt (v:=vI 0) E) (rVt (v:=vI 5) E) (fun W2 f=>⟨E,f.none⟩)
  ·refine cF (vB H) (cK (eT (cS ?_)))
   refine aS 4 bW (by kernel_rfl) (by kernel_rfl) ?_
   refine qY E (yN 0 [.slice Aa p0.fB.length ca,.slice Ab p0.fR.length cb] dF E E E) ?_
   obtain⟨T,Y,h⟩:=bOs h
   refine qY E (yC [.agg #[.slice Aa p0.fB.length ca,.slice Ab p0.fR.length cb]] go_83 E (fun W2 f=>fz p0 T Y W2 Aa p0.fB.length ca E ((RdL.arg o) W2 f) Ab p0.fR.length cb E ((RdL.arg g) W2 f)) E) (qY E (yN 0 [.slice Aa p0.fB.length ca,.slice Ab p0.fR.length cb] dF E E E) (qY E (yMI E) (bF ?_)))
   obtain⟨d,I,h⟩:=bOs h
   refine oC [.agg #[.slice Aa p0.fB.length ca,.slice Ab p0.fR.length cb],vI U] _ _ _ E go_97 E (fun W2 f=>k8 p0 U d I W2 Aa p0.fB.length ca E ((RdL.arg o) W2 f) Ab p0.fR.length cb E ((RdL.arg g) W2 f)) ?_
   rintro⟨K,Z,M⟩ w
   replace w:Z=d.fB.length:=w;subst w
   obtain⟨N,O,h⟩:=bOs h
   refine oY E (yC [.agg #[.slice K d.fB.length M,.slice Ab p0.fR.length cb]] go_83 E (fun W2 f=>fz (TY.mk d.fB p0.fR) N O W2 K d.fB.length M E ((RdL.row 1 E) W2 f) Ab p0.fR.length cb E ((RdL.arg g) W2 f)) E) (oY E (ex E E) (oY E (yAI E) (oY E (yAI E) (oN (eT (ap ?_))))))
   obtain rfl:=sI h
   exact bT (.inl E) E (rVt (v:=vI (w64 (T-N))) E) (rVt (v:=vI 0) E) (fun W2 f=>⟨E,f.none⟩)
end Go.Proofs.YthndghnkebboaaaGreat
