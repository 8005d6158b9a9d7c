import Derived.Test.YthndghnkebboaaaGreatF
import Derived.Test.YthndghnkebboaaaGreatGy
import Derived.Test.YthndghnkebboaaaGreatGF
import Derived.Test.YthndghnkebboaaaGreatC6
set_option maxHeartbeats 4000000
set_option maxRecDepth 100000
set_option linter.unusedVariables false
namespace Go.Proofs.YthndghnkebboaaaGreat
open Go.RowKit (Below)
attribute [local irreducible] OX QX CX EX OpY Calls CallsIn
theorem pJ (p0:(List TSpan)) (res:Bool) (h:iv p0=some res) (W:World) (Aa:Option Addr) (M ca:Nat) (U:M=p0.length) (o:Rd W Aa M ca (encL TSpan_cells p0)) :
  Calls Tryz.prog 184 [.slice Aa M ca].toArray W fun e W2=>e=.returned (.bool res)∧Ext W W2 []:=by
 subst U
 unfold iv at h
 refine aj (m:=66) Tryz.func184 E E (nB E) (cS (cR (oY E (yAB E) (oN (eT (cS (cS (cR (oY E (yMS E) (oY E (bi (us:=[]) mY E) (oY E (eu E E) (oN (eT ?_)))))))))))))
 rcases iOs h with⟨X,h⟩|⟨X,h⟩
 ·refine cT (vB X) (cS (cR (oY E (yAB E) (oN (eT (ap (ab ?_)))))))
  obtain rfl:=sI h
  exact am (.inl E) E (rVt (v:=.bool false) E) (fun W2 D=>⟨E,D.none⟩)
 ·refine cF (vB X) (cK (eT (cS (cS (cR (oY E (yAI E) (oN (eT (cB ?_)))))))))
  obtain⟨x,V,h⟩:=bOs h
  refine a8 (fun(s:(Bool × Int)) L tm=>∃(w:Nat→Value),L=[]∧tm=(upd (upd (upd w 0 (.slice Aa p0.length ca)) 2 (.bool s.1)) 3 (vI s.2))) 0 V ⟨_,E,(kp (kp (kp E)))⟩ ?_ ?_
  ·rintro u L tm st ⟨t,rfl,rfl⟩ h
   unfold dL at h
   refine cS (cS (cR (oY E (yMI E) (oY E (yMS E) (oY E (bi (us:=[]) mY E) (oY E (be E E) (oN (eT ?_))))))))
   rcases iOs h with⟨Y,h⟩|⟨Y,h⟩
   ·refine cT (vB Y) (cK (eT (cS (cB (cS (cR (oY E (yMS E) (oY E (yMI E) ?_))))))))
    obtain⟨O,h⟩:=gOs h
    refine oY E (yI kk (by decide) O.1 O.2 (RdL.arg o) (eL aG E) E E) ?_
    refine oY E (yFR (A:=Aa) (j:=(Int.toNat u.2*2)) gK E) (oY E (yR (A:=Aa) (j:=((Int.toNat u.2*2)+0)) (v:=vI ((rdL p0 u.2).fLo)) aK (RdL.arg o) E (eG aG O.1 (ah O.2 E) E)) ?_)
    obtain⟨Z,a,h⟩:=bOs h
    refine oY E (yC [vI ((rdL p0 u.2).fLo)] rA E (fun W2 D=>dt ((rdL p0 u.2).fLo) Z a W2 ) E) (oY E (yAB E) (oN (eT (cS (cR (oY E (yMS E) (oY E (yMI E) ?_)))))))
    obtain⟨Q,h⟩:=gOs h
    refine oY E (yI kk (by decide) Q.1 Q.2 (RdL.arg o) (eL aG E) E E) ?_
    refine oY E (yFR (A:=Aa) (j:=(Int.toNat u.2*2)) fg E) (oY E (yR (A:=Aa) (j:=((Int.toNat u.2*2)+1)) (v:=vI ((rdL p0 u.2).fHi)) aK (RdL.arg o) E (eG aG Q.1 (ah Q.2 E) E)) ?_)
    obtain⟨K,T,h⟩:=bOs h
    refine oY E (yC [vI ((rdL p0 u.2).fHi)] rA E (fun W2 D=>dt ((rdL p0 u.2).fHi) K T W2 ) E) (oY E (yAB E) (oN (eT (cS ?_))))
    refine aS 39 bW (by kernel_rfl) (by kernel_rfl) ?_
    refine qY E (yMB E) (qY E (bD E) (qY E (yMB E) ?_))
    refine qJ 3 (fun w=>(upd (upd (upd (upd (upd (upd (upd w 0 (.slice Aa p0.length ca)) 2 (.bool u.1)) 3 (vI u.2)) 12 (.bool (decide (u.2<(p0.length:Int))))) 4 (.bool Z)) 5 (.bool K)) 32 (.bool ((!Z)||(!K))))) (fun w=>?_) (fun key=>?_)
    ·refine qY E (yMB E) ?_
     obtain⟨S,R,h⟩:=bOs h
     refine qJ 12 (fun w=>(upd (upd (upd (upd (upd (upd (upd w 0 (.slice Aa p0.length ca)) 2 (.bool u.1)) 3 (vI u.2)) 12 (.bool (decide (u.2<(p0.length:Int))))) 4 (.bool Z)) 5 (.bool K)) 45 (.bool S))) (fun w=>?_) (fun key=>?_)
     ·refine qY E (yMB E) ?_
      obtain⟨z,q,h⟩:=bOs h
      refine qJ 19 (fun w=>(upd (upd (upd (upd (upd (upd (upd w 0 (.slice Aa p0.length ca)) 2 (.bool u.1)) 3 (vI u.2)) 12 (.bool (decide (u.2<(p0.length:Int))))) 4 (.bool Z)) 5 (.bool K)) 65 (.bool z))) (fun w=>?_) (fun key=>?_)
      ·refine bF (oN (eT ?_))
       rcases iOs h with⟨N,h⟩|⟨N,h⟩
       ·refine cT (vB N) (cS (cR (oY E (yAB E) (oN (eT (ap (ae (ab ?_))))))))
        obtain rfl:=sI h
        exact av ⟨E,_,E,(kp (kp (kp E)))⟩
       ·refine cF (vB N) (cK (aw (eT (cR (oY E (yMI E) (oY E (aL E E) (oY E (yAI E) (oN ?_))))))))
        obtain rfl:=sI h
        exact eN ⟨_,E,(kp (kp (kp E)))⟩
      ·clear h;rcases iOs q with⟨r,h⟩|⟨r,h⟩
       ·refine aa (sF E E E E r) (aa (sF E E E E r) (aa (sF E E E E r) (aa E (aa E (aa E (aa E (aa E (aa E (aa E (aa E (aa E (aa E (aa E (aa E (aa E (aa E (aa (sF E E E E r) (qY E (ad (vB r) E) ?_))))))))))))))))))
        obtain rfl:=sI h
        exact key _ _ (kp4 (kp (kp (kp E))))
       ·refine qY (sT E E E E r) (yMI E) (qY (sT E E E E r) (eu E E) (qY (sT E E E E r) (yMB E) ?_))
        obtain⟨i,p,h⟩:=bOs h
        refine qJ 15 (fun w=>(upd (upd (upd (upd (upd (upd (upd (upd w 0 (.slice Aa p0.length ca)) 2 (.bool u.1)) 3 (vI u.2)) 12 (.bool (decide (u.2<(p0.length:Int))))) 4 (.bool Z)) 5 (.bool K)) 46 (.bool S)) 64 (.bool i))) (fun w=>?_) (fun key=>?_)
        ·refine qY E (ag (vB r) E) ?_
         obtain rfl:=sI h
         exact key _ _ (kp4 (kp (kp (kp E))))
        ·clear h;rcases iOs p with⟨f,h⟩|⟨f,h⟩
         ·refine qY (sT E E E E f) (yMS E) (qY (sT E E E E f) (yMI E) ?_)
          obtain⟨F,h⟩:=gOs h
          refine qY (sT E E E E f) (yI kk (by decide) F.1 F.2 (RdL.arg o) (eL aG E) E E) ?_
          refine qY (sT E E E E f) (yFR (A:=Aa) (j:=(Int.toNat u.2*2)) gK E) (qY (sT E E E E f) (yR (A:=Aa) (j:=((Int.toNat u.2*2)+0)) (v:=vI ((rdL p0 u.2).fLo)) aK (RdL.arg o) E (eG aG F.1 (ah F.2 E) E)) (qY (sT E E E E f) (yMS E) (qY (sT E E E E f) (yMI E) (qY (sT E E E E f) (ex E E) (qY (sT E E E E f) (y_max E E) ?_)))))
          obtain⟨G,h⟩:=gOs h
          refine qY (sT E E E E f) (yI kk (by decide) G.1 G.2 (RdL.arg o) (eL aG E) E E) ?_
          refine qY (sT E E E E f) (yFR (A:=Aa) (j:=(Int.toNat (max 0 (w64 (u.2-1)))*2)) fg E) (qY (sT E E E E f) (yR (A:=Aa) (j:=((Int.toNat (max 0 (w64 (u.2-1)))*2)+1)) (v:=vI ((rdL p0 (max 0 (w64 (u.2-1)))).fHi)) aK (RdL.arg o) E (eG aG G.1 (ah G.2 E) E)) (qY (sT E E E E f) (aL E E) (qY (sT E E E E f) (be E E) (qY (sT E E E E r) (ad (vB f) E) ?_))))
          obtain rfl:=sI h
          exact key _ _ (kp4 (kp4 E))
         ·refine aa (sF E E E E f) (aa (sF E E E E f) (aa (sF E E E E f) (aa (sF E E E E f) (aa (sF E E E E f) (aa (sF E E E E f) (aa (sF E E E E f) (aa (sF E E E E f) (aa (sF E E E E f) (aa (sF E E E E f) (aa (sF E E E E f) (aa (sF E E E E f) (aa (sF E E E E f) (aa (sF E E E E f) (qY (sT E E E E r) (ag (vB f) E) ?_))))))))))))))
          obtain rfl:=sI h
          exact key _ _ (kp4 (kp4 E))
     ·clear h;rcases iOs R with⟨g,h⟩|⟨g,h⟩
      ·refine aa (sF E E E E g) (aa (sF E E E E g) (aa (sF E E E E g) (aa (sF E E E E g) (aa (sF E E E E g) (aa (sF E E E E g) (aa (sF E E E E g) (aa (sF E E E E g) (aa (sF E E E E g) (aa (sF E E E E g) (aa (sF E E E E g) (qY E (ad (vB g) E) ?_)))))))))))
       obtain rfl:=sI h
       exact key _ _ (kp4 (kp (kp (kp E))))
      ·refine qY (sT E E E E g) (yMS E) (qY (sT E E E E g) (yMI E) ?_)
       obtain⟨H,h⟩:=gOs h
       refine qY (sT E E E E g) (yI kk (by decide) H.1 H.2 (RdL.arg o) (eL aG E) E E) ?_
       refine qY (sT E E E E g) (yFR (A:=Aa) (j:=(Int.toNat u.2*2)) gK E) (qY (sT E E E E g) (yR (A:=Aa) (j:=((Int.toNat u.2*2)+0)) (v:=vI ((rdL p0 u.2).fLo)) aK (RdL.arg o) E (eG aG H.1 (ah H.2 E) E)) (qY (sT E E E E g) (yMS E) (qY (sT E E E E g) (yMI E) ?_)))
       obtain⟨I,h⟩:=gOs h
       refine qY (sT E E E E g) (yI kk (by decide) I.1 I.2 (RdL.arg o) (eL aG E) E E) ?_
       refine qY (sT E E E E g) (yFR (A:=Aa) (j:=(Int.toNat u.2*2)) fg E) (qY (sT E E E E g) (yR (A:=Aa) (j:=((Int.toNat u.2*2)+1)) (v:=vI ((rdL p0 u.2).fHi)) aK (RdL.arg o) E (eG aG I.1 (ah I.2 E) E)) (qY (sT E E E E g) (eu E E) (qY E (ag (vB g) E) ?_)))
       obtain rfl:=sI h
       exact key _ _ (kp4 (kp (kp (kp E))))
    ·rcases ar (!Z)with d|d
     ·refine aa (sF E E E E d) (aa (sF E E E E d) (qY E (ad (vB d) E) ?_))
      exact key _ _ (keep (keep (keep (keep (keep (keep (keep E E) E) E) E) E) E) (vB (iQ d)))
     ·refine qY (sT E E E E d) (yMB E) (qY (sT E E E E d) (bD E) (qY E (ag (vB d) E) ?_))
      exact key _ _ (keep (keep (keep (keep (keep (keep (keep E E) E) E) E) E) E) (vB (iR d)))
   ·refine cF (vB Y) (aD (ai ?_))
    obtain rfl:=sI h
    exact av ⟨E,_,E,(kp (kp (kp E)))⟩
  ·intro e L tm hJ
   rcases x with k|y
   ·dsimp only at h hJ
    obtain⟨rfl,n,rfl,rfl⟩:=hJ
    refine⟨(by intro hc;cases hc),?_⟩
    refine ae (ab ?_)
    obtain rfl:=sI h
    exact am (.inl E) E (rVt (v:=.bool k.1) E) (fun W2 D=>⟨E,D.none⟩)
   ·dsimp only at h hJ
    obtain⟨rfl,l,rfl,rfl⟩:=hJ
    refine⟨(by intro hc;cases hc),?_⟩
    refine ac (eT (cS (cR (oY E (yAB E) (oN (eT (ap ?_)))))))
    obtain rfl:=sI h
    exact am (.inl E) E (rVt (v:=.bool true) E) (fun W2 D=>⟨E,D.none⟩)
theorem pT (p0:TR) (p1:TT) (res:Bool) (h:jv p0 p1=some res) (W:World) (Ab:Option Addr) (O cb:Nat) (Q:List (Hd × TT)) (Y:O=p0.fTracks.length) (q:Rd W Ab O cb (encL TTrack_cells2 Q)) (p:NestW W (fun z:TT=>z.fK) TSpan_cells Q p0.fTracks) (F:Option Addr) (U G:Nat) (Z:U=p1.fK.length) (V:Rd W F U G (encL TSpan_cells p1.fK)) :
  Calls Tryz.prog 160 [.agg #[vI p0.fPlaces,.slice Ab O cb],.agg #[vI p1.fID,vI p1.fFrom,vI p1.fTo,vI p1.fLong,vI p1.fToll,.slice F U G]].toArray W fun e W2=>e=.returned (.bool res)∧Ext W W2 []:=by
 subst Y
 subst Z
 unfold jv at h
 refine aj (m:=58) Tryz.func160 E E (nB E) (cS (cR ?_))
 refine aN [vI p0.fPlaces,.slice Ab p0.fTracks.length cb] E E E (fun i=>?_)
 refine aN [vI p1.fID,vI p1.fFrom,vI p1.fTo,vI p1.fLong,vI p1.fToll,.slice F p1.fK.length G] E E E (fun a=>?_)
 refine oY E (yAB E) (oN (eT (cS (cR (oY E (yFA iU E) (oY E (yL 1 aK E E E) ?_))))))
 obtain⟨K,n,h⟩:=bOs h
 refine oY E (yC [vI p1.fID,vI 1,vI 1099511627776] gE E (fun W2 H=>aT p1.fID 1 1099511627776 K n W2 ) E) (oY E (yAB E) (oN (eT (cS (cR (oY E (yFA ii E) (oY E (yL 1 aK E E E) (oY E (yFA dW E) (oY E (yL 0 aK E E E) (oY E (ex E E) ?_))))))))))
 obtain⟨M,l,h⟩:=bOs h
 refine oY E (yC [vI p1.fFrom,vI 0,vI (w64 (p0.fPlaces-1))] gE E (fun W2 H=>aT p1.fFrom 0 (w64 (p0.fPlaces-1)) M l W2 ) E) (oY E (yAB E) (oN (eT (cS (cR (oY E (yFA gD E) (oY E (yL 1 aK E E E) (oY E (yFA dW E) (oY E (yL 0 aK E E E) (oY E (ex E E) ?_))))))))))
 obtain⟨N,t,h⟩:=bOs h
 refine oY E (yC [vI p1.fTo,vI 0,vI (w64 (p0.fPlaces-1))] gE E (fun W2 H=>aT p1.fTo 0 (w64 (p0.fPlaces-1)) N t W2 ) E) (oY E (yAB E) (oN (eT (cS (cR (oY E (yFA f5 E) (oY E (yL 1 aK E E E) ?_)))))))
 obtain⟨X,T,h⟩:=bOs h
 refine oY E (yC [vI p1.fLong,vI 1,vI 72] gE E (fun W2 H=>aT p1.fLong 1 72 X T W2 ) E) (oY E (yAB E) (oN (eT (cS (cR (oY E (yFA gb E) (oY E (yL 1 aK E E E) ?_)))))))
 obtain⟨D,S,h⟩:=bOs h
 refine oY E (yC [vI p1.fToll,vI 0,vI 40] gE E (fun W2 H=>aT p1.fToll 0 40 D S W2 ) E) (oY E (yAB E) (oN (eT (cS (cR (oY E (yFA f4 E) (oY E (yL 1 kM E E E) ?_)))))))
 obtain⟨I,R,h⟩:=bOs h
 refine oY E (yC [.slice F p1.fK.length G] go_184 E (fun W2 H=>pJ p1.fK I R W2 F p1.fK.length G E ((RdL.arg V) W2 H)) E) (oY E (yAB E) (oN (eT (cS (cR (oY E (yMB E) (oY E (yMB E) ?_)))))))
 refine oJ 2 (fun g=>(upd (upd (upd (upd (upd (upd (upd g 3 (.pointer (some ⟨a,0,none⟩))) 4 (.bool false)) 7 (.bool N)) 8 (.bool X)) 9 (.bool D)) 10 (.bool I)) 38 (.bool (K&&M)))) (fun g=>?_) (fun key=>?_)
 ·refine oY E (yMB E) ?_
  refine oJ 2 (fun g=>(upd (upd (upd (upd (upd (upd g 3 (.pointer (some ⟨a,0,none⟩))) 4 (.bool false)) 8 (.bool X)) 9 (.bool D)) 10 (.bool I)) 41 (.bool ((K&&M)&&N)))) (fun g=>?_) (fun key=>?_)
  ·refine oY E (yMB E) ?_
   refine oJ 6 (fun g=>(upd (upd (upd (upd (upd g 4 (.bool false)) 8 (.bool X)) 9 (.bool D)) 10 (.bool I)) 48 (.bool (((K&&M)&&N)&&(p1.fFrom !=p1.fTo))))) (fun g=>?_) (fun key=>?_)
   ·refine oY E (yMB E) ?_
    refine oJ 2 (fun g=>(upd (upd (upd (upd g 4 (.bool false)) 9 (.bool D)) 10 (.bool I)) 51 (.bool ((((K&&M)&&N)&&(p1.fFrom !=p1.fTo))&&X)))) (fun g=>?_) (fun key=>?_)
    ·refine oY E (yMB E) ?_
     refine oJ 2 (fun g=>(upd (upd (upd g 4 (.bool false)) 10 (.bool I)) 54 (.bool (((((K&&M)&&N)&&(p1.fFrom !=p1.fTo))&&X)&&D)))) (fun g=>?_) (fun key=>?_)
     ·refine oY E (yMB E) ?_
      refine oJ 2 (fun g=>(upd (upd g 4 (.bool false)) 57 (.bool ((((((K&&M)&&N)&&(p1.fFrom !=p1.fTo))&&X)&&D)&&I)))) (fun g=>?_) (fun key=>?_)
      ·refine oY E (yAB E) (oN (eT (ap ?_)))
       obtain rfl:=sI h
       exact am (.inl E) E (rVt (v:=.bool ((((((K&&M)&&N)&&(p1.fFrom !=p1.fTo))&&X)&&D)&&I)) E) (fun W2 H=>⟨E,H.none⟩)
      ·rcases ar (((((K&&M)&&N)&&(p1.fFrom !=p1.fTo))&&X)&&D)with o|o
       ·refine oY (sT E E E E o) (yMB E) (oY E (ad (vB o) E) ?_)
        exact key _ _ (keep (keep E E) (vB (fF o)))
       ·refine oSk (sF E E E E o) (oY E (ag (vB o) E) ?_)
        exact key _ _ (keep (keep E E) (vB (fy o)))
     ·rcases ar ((((K&&M)&&N)&&(p1.fFrom !=p1.fTo))&&X)with r|r
      ·refine oY (sT E E E E r) (yMB E) (oY E (ad (vB r) E) ?_)
       exact key _ _ (keep (keep (keep E E) E) (vB (fF r)))
      ·refine oSk (sF E E E E r) (oY E (ag (vB r) E) ?_)
       exact key _ _ (keep (keep (keep E E) E) (vB (fy r)))
    ·rcases ar (((K&&M)&&N)&&(p1.fFrom !=p1.fTo))with u|u
     ·refine oY (sT E E E E u) (yMB E) (oY E (ad (vB u) E) ?_)
      exact key _ _ (keep (keep (keep (keep E E) E) E) (vB (fF u)))
     ·refine oSk (sF E E E E u) (oY E (ag (vB u) E) ?_)
      exact key _ _ (keep (keep (keep (keep E E) E) E) (vB (fy u)))
   ·rcases ar ((K&&M)&&N)with f|f
    ·refine oY (sT E E E E f) (yFA ii E) (oY (sT E E E E f) (yL 1 aK E E E) (oY (sT E E E E f) (yFA gD E) (oY (sT E E E E f) (yL 1 aK E E E) (oY (sT E E E E f) (cJ E E) (oY E (ad (vB f) E) ?_)))))
     exact key _ _ (keep (keep (keep (keep (keep E E) E) E) E) (vB (fF f)))
    ·refine oSk (sF E E E E f) (oSk (sF E E E E f) (oSk (sF E E E E f) (oSk (sF E E E E f) (oSk (sF E E E E f) (oY E (ag (vB f) E) ?_)))))
     exact key _ _ (keep (keep (keep (keep (keep E E) E) E) E) (vB (fy f)))
  ·rcases ar (K&&M)with d|d
   ·refine oY (sT E E E E d) (yMB E) (oY E (ad (vB d) E) ?_)
    exact key _ _ (keep (keep (keep (keep (keep (keep E E) E) E) E) E) (vB (fF d)))
   ·refine oSk (sF E E E E d) (oY E (ag (vB d) E) ?_)
    exact key _ _ (keep (keep (keep (keep (keep (keep E E) E) E) E) E) (vB (fy d)))
 ·rcases ar K with w|w
  ·refine oY (sT E E E E w) (yMB E) (oY E (ad (vB w) E) ?_)
   exact key _ _ (keep (keep (keep (keep (keep (keep (keep E E) E) E) E) E) E) (vB (fF w)))
  ·refine oSk (sF E E E E w) (oY E (ag (vB w) E) ?_)
   exact key _ _ (keep (keep (keep (keep (keep (keep (keep E E) E) E) E) E) E) (vB (fy w)))
theorem pS (p0:TR) (res:Int) (h:jr p0=some res) (W:World) (Ab:Option Addr) (H cb:Nat) (g:List (Hd × TT)) (O:H=p0.fTracks.length) (r:Rd W Ab H cb (encL TTrack_cells2 g)) (f:NestW W (fun z:TT=>z.fK) TSpan_cells g p0.fTracks) :
  Calls Tryz.prog 125 [.agg #[vI p0.fPlaces,.slice Ab H cb]].toArray W fun e W2=>e=.returned (vI res)∧Ext W W2 []:=by
 subst O
 unfold jr at h
 refine aj (m:=52) Tryz.func125 E E (nB E) (cS (cR ?_))
 refine aN [vI p0.fPlaces,.slice Ab p0.fTracks.length cb] E E E (fun Z=>?_)
 refine oY E (yAI E) (oN (eT (cS (cS (cR (oY E (yFA dW E) (oY E (yL 0 aK E E E) (oY E (be E E) (oY E (yMB E) ?_)))))))))
 refine oJ 4 (fun G=>(upd (upd (upd G 1 (.pointer (some ⟨Z,0,none⟩))) 2 (vI 0)) 13 (.bool ((decide (p0.fPlaces<1))||(decide (16<p0.fPlaces)))))) (fun G=>?_) (fun key=>?_)
 ·refine oN (eT ?_)
  rcases iOs h with⟨Q,h⟩|⟨Q,h⟩
  ·refine cT (vB Q) (cS (cR (oY E (yAI E) (oN (eT (ap (ab ?_)))))))
   obtain rfl:=sI h
   exact am (.inl E) E (rVt (v:=vI 1) E) (fun W2 u=>⟨E,u.none⟩)
  ·refine cF (vB Q) (cK (eT (cS (cS (cR (oY E (yFA bU E) (oY E (yL 0 gv E E E) (oY E (bi (us:=[]) i6 E) (oY E (eu E E) (oN (eT ?_)))))))))))
   rcases iOs h with⟨U,h⟩|⟨U,h⟩
   ·refine cT (vB U) (cS (cR (oY E (yAI E) (oN (eT (ap (ab ?_)))))))
    obtain rfl:=sI h
    exact am (.inl E) E (rVt (v:=vI 2) E) (fun W2 u=>⟨E,u.none⟩)
   ·refine cF (vB U) (cK (eT (cS (cS (cR (oY E (yAI E) (oN (eT (cB ?_)))))))))
    obtain⟨x,V,h⟩:=bOs h
    refine a8 (fun(s:(Int × Int)) L tm=>∃(G:Nat→Value),L=[ak Z 24 [vI p0.fPlaces,.slice Ab p0.fTracks.length cb]]∧tm=(upd (upd (upd G 1 (.pointer (some ⟨Z,0,none⟩))) 2 (vI s.1)) 3 (vI s.2))) 0 V ⟨_,E,(kp (kp (kp E)))⟩ ?_ ?_
    ·rintro o L tm st ⟨a,rfl,rfl⟩ h
     unfold fQ at h
     refine cS (cS (cR (oY E (yMI E) (oY E (yFA bU E) (oY E (yL 0 gv E E E) (oY E (bi (us:=[]) i6 E) (oY E (be E E) (oN (eT ?_)))))))))
     rcases iOs h with⟨X,h⟩|⟨X,h⟩
     ·refine cT (vB X) (cK (eT (cS (cB (cS ?_)))))
      refine aS 8 bW (by kernel_rfl) (by kernel_rfl) ?_
      refine qY E (yN 0 [vI p0.fPlaces,.slice Ab p0.fTracks.length cb] dG E E E) (qY E (yFA bU E) (qY E (yL 0 gv E E E) (qY E (yMI E) ?_)))
      obtain⟨w,h⟩:=gOs h
      refine qY E (yI jE (by decide) w.1 w.2 (RdL.arg r) (eL au (NestP.hn f.p E)) E E) ?_
      refine qY E (yM (A:=Ab) (j:=(Int.toNat o.2*6)) [vI ((rdL p0.fTracks o.2).fID),vI ((rdL p0.fTracks o.2).fFrom),vI ((rdL p0.fTracks o.2).fTo),vI ((rdL p0.fTracks o.2).fLong),vI ((rdL p0.fTracks o.2).fToll),.slice ((rdL g o.2).1.1) ((rdL p0.fTracks o.2).fK.length) ((rdL g o.2).1.2.2)] gS (Nat.succ_pos _) (RdL.arg r) E (fN (bI (NestP.snd f.p o.2) (NestP.len f.p w.1 (ah w.2 E))).symm (bc au w.1 (ah w.2 (NestP.hn f.p E))))) ?_
      obtain⟨Y,T,h⟩:=bOs h
      refine qY E (yC [.agg #[vI p0.fPlaces,.slice Ab p0.fTracks.length cb],.agg #[vI ((rdL p0.fTracks o.2).fID),vI ((rdL p0.fTracks o.2).fFrom),vI ((rdL p0.fTracks o.2).fTo),vI ((rdL p0.fTracks o.2).fLong),vI ((rdL p0.fTracks o.2).fToll),.slice ((rdL g o.2).1.1) ((rdL p0.fTracks o.2).fK.length) ((rdL g o.2).1.2.2)]] go_160 E (fun W2 u=>pT p0 (TT.mk ((rdL p0.fTracks o.2).fID) ((rdL p0.fTracks o.2).fFrom) ((rdL p0.fTracks o.2).fTo) ((rdL p0.fTracks o.2).fLong) ((rdL p0.fTracks o.2).fToll) ((rdL p0.fTracks o.2).fK)) Y T W2 Ab p0.fTracks.length cb g E ((RdL.arg r) W2 u) (NestL.at (NestL.arg f) W2 u) ((rdL g o.2).1.1) ((rdL p0.fTracks o.2).fK.length) ((rdL g o.2).1.2.2) E ((NestL.rd (NestL.arg f) w.1 (ah w.2 E)) W2 u)) E) (qY E (yAB E) (bF (oN (eT (cS (cS (cR (oY E (yMB E) (oY E (bD E) (oN (eT ?_)))))))))))
      rcases iOs h with⟨I,h⟩|⟨I,h⟩
      ·refine cT (vB I) (cS (cR (oY E (yAI E) (oN (eT (ap (ab (ae (ab ?_)))))))))
       obtain rfl:=sI h
       exact av ⟨E,_,E,(kp (kp (kp E)))⟩
      ·refine cF (vB I) (cK (eT (cS (cR (oY E (yAI E) (oN (eT (cB ?_))))))))
       obtain⟨i,S,h⟩:=bOs h
       refine a8 (fun(s:(Int × Int)) L tm=>∃(G:Nat→Value),L=[ak Z 24 [vI p0.fPlaces,.slice Ab p0.fTracks.length cb]]∧tm=(upd (upd (upd (upd (upd (upd (upd G 1 (.pointer (some ⟨Z,0,none⟩))) 2 (vI s.1)) 3 (vI o.2)) 22 (.bool (decide (o.2<(p0.fTracks.length:Int))))) 4 (.bool Y)) 33 (.bool (!Y))) 5 (vI s.2))) 2 S ⟨_,E,(kp4 (kp (kp (kp E))))⟩ ?_ ?_
       ·rintro N L tm st ⟨R,rfl,rfl⟩ h
        unfold fV at h
        refine cS (cS (cR (oY E (yMI E) (oY E (yMI E) (oY E (be E E) (oN (eT ?_)))))))
        rcases iOs h with⟨K,h⟩|⟨K,h⟩
        ·refine cT (vB K) (cK (eT (cS (cB (cS ?_)))))
         refine aS 13 bW (by kernel_rfl) (by kernel_rfl) ?_
         refine qY E (yFA bU E) (qY E (yL 0 gv E E E) (qY E (yMI E) ?_))
         obtain⟨D,h⟩:=gOs h
         refine qY E (yI jE (by decide) D.1 D.2 (RdL.arg r) (eL au (NestP.hn f.p E)) E E) ?_
         refine qY E (yFR (A:=Ab) (j:=(Int.toNat N.2*6)) iU E) (qY E (yR (A:=Ab) (j:=((Int.toNat N.2*6)+0)) (v:=vI ((rdL p0.fTracks N.2).fID)) aK (RdL.arg r) E (eG au D.1 (ah D.2 (NestP.hn f.p E)) (congrArg (fun z:TT=>some (Value.int .i64 z.fID)) (NestP.snd f.p N.2)))) (qY E (yFA bU E) (qY E (yL 0 gv E E E) (qY E (yMI E) ?_))))
         obtain⟨F,h⟩:=gOs h
         refine qY E (yI jE (by decide) F.1 F.2 (RdL.arg r) (eL au (NestP.hn f.p E)) E E) ?_
         refine qY E (yFR (A:=Ab) (j:=(Int.toNat o.2*6)) iU E) (qY E (yR (A:=Ab) (j:=((Int.toNat o.2*6)+0)) (v:=vI ((rdL p0.fTracks o.2).fID)) aK (RdL.arg r) E (eG au F.1 (ah F.2 (NestP.hn f.p E)) (congrArg (fun z:TT=>some (Value.int .i64 z.fID)) (NestP.snd f.p o.2)))) (qY E (cZ E E) (bF (oN (eT ?_)))))
         rcases iOs h with⟨M,h⟩|⟨M,h⟩
         ·refine cT (vB M) (cS (cR (oY E (yAI E) (oN (eT (ap (ae (ab ?_))))))))
          obtain rfl:=sI h
          exact av ⟨E,_,E,(kp4 (kp (kp (kp E))))⟩
         ·refine cF (vB M) (cK (aw (eT (cR (oY E (yMI E) (oY E (aL E E) (oY E (yAI E) (oN ?_))))))))
          obtain rfl:=sI h
          exact eN ⟨_,E,(kp4 (kp (kp (kp E))))⟩
        ·refine cF (vB K) (aD (ai ?_))
         obtain rfl:=sI h
         exact av ⟨E,_,E,(kp4 (kp (kp (kp E))))⟩
       ·intro e L tm hJ
        rcases i with y|b
        ·dsimp only at h hJ
         obtain⟨rfl,q,rfl,rfl⟩:=hJ
         refine⟨(by intro hc;cases hc),?_⟩
         refine ae (ae (ab ?_))
         obtain rfl:=sI h
         exact av ⟨E,_,E,(kp (kp (kp E)))⟩
        ·dsimp only at h hJ
         obtain⟨rfl,n,rfl,rfl⟩:=hJ
         refine⟨(by intro hc;cases hc),?_⟩
         refine ac (aw (eT (cR (oY E (yMI E) (oY E (aL E E) (oY E (yAI E) (oN ?_)))))))
         obtain rfl:=sI h
         exact eN ⟨_,E,(kp (kp (kp E)))⟩
     ·refine cF (vB X) (aD (ai ?_))
      obtain rfl:=sI h
      exact av ⟨E,_,E,(kp (kp (kp E)))⟩
    ·intro e L tm hJ
     rcases x with k|c
     ·dsimp only at h hJ
      obtain⟨rfl,l,rfl,rfl⟩:=hJ
      refine⟨(by intro hc;cases hc),?_⟩
      refine ae (ab ?_)
      obtain rfl:=sI h
      exact am (.inl E) E (rVt (v:=vI k.1) E) (fun W2 u=>⟨E,u.none⟩)
     ·dsimp only at h hJ
      obtain⟨rfl,t,rfl,rfl⟩:=hJ
      refine⟨(by intro hc;cases hc),?_⟩
      refine ac (eT (cS (cR (oY E (yAI E) (oN (eT (ap ?_)))))))
      obtain rfl:=sI h
      exact am (.inl E) E (rVt (v:=vI 0) E) (fun W2 u=>⟨E,u.none⟩)
 ·rcases ar (decide (p0.fPlaces<1))with d|d
  ·refine oSk (sF E E E E d) (oSk (sF E E E E d) (oSk (sF E E E E d) (oY E (ad (vB d) E) ?_)))
   exact key _ _ (keep (keep (keep E E) E) (vB (iQ d)))
  ·refine oY (sT E E E E d) (yFA dW E) (oY (sT E E E E d) (yL 0 aK E E E) (oY (sT E E E E d) (eu E E) (oY E (ag (vB d) E) ?_)))
   exact key _ _ (keep (keep (keep E E) E) (vB (iR d)))
theorem l4 (p0:TR) (p1:Int) (p2:Int) (p3:Int) (p4:Int) (res:Int) (h:g7 p0 p1 p2 p3 p4=some res) (W:World) (Ab:Option Addr) (w cb:Nat) (d:List (Hd × TT)) (G:w=p0.fTracks.length) (H:Rd W Ab w cb (encL TTrack_cells2 d)) (I:NestW W (fun z:TT=>z.fK) TSpan_cells d p0.fTracks) :
  Calls Tryz.prog 73 [.agg #[vI p0.fPlaces,.slice Ab w cb],vI p1,vI p2,vI p3,vI p4].toArray W fun e W2=>e=.returned (vI res)∧Ext W W2 []:=by
 subst G
 unfold g7 at h
 refine aj (m:=49) Tryz.func73 E E (nB E) (cS (cR ?_))
 refine aN [vI p0.fPlaces,.slice Ab p0.fTracks.length cb] E E E (fun T=>?_)
 refine oY E (yAI E) (oN (eT (cS (cR (oY E (yN 0 [vI p0.fPlaces,.slice Ab p0.fTracks.length cb] dG E E E) ?_)))))
 obtain⟨V,X,h⟩:=bOs h
 refine oY E (yC [.agg #[vI p0.fPlaces,.slice Ab p0.fTracks.length cb]] go_125 E (fun W2 r=>pS p0 V X W2 Ab p0.fTracks.length cb d E ((RdL.arg H) W2 r) (NestL.at (NestL.arg I) W2 r)) E) (oY E (yAI E) (oN (eT (cS (cS (cR (oY E (yMI E) (oY E (cJ E E) (oN (eT ?_))))))))))
 rcases iOs h with⟨K,h⟩|⟨K,h⟩
 ·refine cT (vB K) (cS (cR (oY E (yMI E) (oY E (yAI E) (oN (eT (ap (ab ?_))))))))
  obtain rfl:=sI h
  exact am (.inl E) E (rVt (v:=vI V) E) (fun W2 r=>⟨E,r.none⟩)
 ·refine cF (vB K) (cK (eT (cS (cR (oY E (yMI E) (oY E (yFA dW E) (oY E (yL 0 aK E E E) (oY E (ex E E) ?_))))))))
  obtain⟨M,Y,h⟩:=bOs h
  refine oY E (yC [vI p1,vI 0,vI (w64 (p0.fPlaces-1))] gE E (fun W2 r=>aT p1 0 (w64 (p0.fPlaces-1)) M Y W2 ) E) (oY E (yAB E) (oN (eT (cS (cR (oY E (yMI E) (oY E (yFA dW E) (oY E (yL 0 aK E E E) (oY E (ex E E) ?_)))))))))
  obtain⟨N,Z,h⟩:=bOs h
  refine oY E (yC [vI p2,vI 0,vI (w64 (p0.fPlaces-1))] gE E (fun W2 r=>aT p2 0 (w64 (p0.fPlaces-1)) N Z W2 ) E) (oY E (yAB E) (oN (eT (cS (cR (oY E (yMI E) ?_))))))
  obtain⟨O,Q,h⟩:=bOs h
  refine oY E (yC [vI p3] rA E (fun W2 r=>dt p3 O Q W2 ) E) (oY E (yAB E) (oN (eT (cS (cR (oY E (yMI E) ?_))))))
  obtain⟨F,U,h⟩:=bOs h
  refine oY E (yC [vI p4,vI 0,vI 60] gE E (fun W2 r=>aT p4 0 60 F U W2 ) E) (oY E (yAB E) (oN (eT (cS (cS (cR (oY E (yMB E) (oY E (bD E) (oY E (yMB E) ?_)))))))))
  refine oJ 3 (fun u=>(upd (upd (upd (upd u 10 (vI 0)) 14 (.bool O)) 15 (.bool F)) 40 (.bool ((!M)||(!N))))) (fun u=>?_) (fun key=>?_)
  ·refine oY E (yMB E) ?_
   refine oJ 3 (fun u=>(upd (upd (upd u 10 (vI 0)) 15 (.bool F)) 44 (.bool (((!M)||(!N))||(!O))))) (fun u=>?_) (fun key=>?_)
   ·refine oY E (yMB E) ?_
    refine oJ 3 (fun u=>(upd (upd u 10 (vI 0)) 48 (.bool ((((!M)||(!N))||(!O))||(!F))))) (fun u=>?_) (fun key=>?_)
    ·refine oN (eT ?_)
     rcases iOs h with⟨D,h⟩|⟨D,h⟩
     ·refine cT (vB D) (cS (cR (oY E (yAI E) (oN (eT (ap (ab ?_)))))))
      obtain rfl:=sI h
      exact am (.inl E) E (rVt (v:=vI 1) E) (fun W2 r=>⟨E,r.none⟩)
     ·refine cF (vB D) (cK (eT (cS (cR (oY E (yAI E) (oN (eT (ap ?_))))))))
      obtain rfl:=sI h
      exact am (.inl E) E (rVt (v:=vI 0) E) (fun W2 r=>⟨E,r.none⟩)
    ·rcases ar (((!M)||(!N))||(!O))with f|f
     ·refine oSk (sF E E E E f) (oSk (sF E E E E f) (oY E (ad (vB f) E) ?_))
      exact key _ _ (keep (keep E E) (vB (iQ f)))
     ·refine oY (sT E E E E f) (yMB E) (oY (sT E E E E f) (bD E) (oY E (ag (vB f) E) ?_))
      exact key _ _ (keep (keep E E) (vB (iR f)))
   ·rcases ar ((!M)||(!N))with g|g
    ·refine oSk (sF E E E E g) (oSk (sF E E E E g) (oY E (ad (vB g) E) ?_))
     exact key _ _ (keep (keep (keep E E) E) (vB (iQ g)))
    ·refine oY (sT E E E E g) (yMB E) (oY (sT E E E E g) (bD E) (oY E (ag (vB g) E) ?_))
     exact key _ _ (keep (keep (keep E E) E) (vB (iR g)))
  ·rcases ar (!M)with o|o
   ·refine oSk (sF E E E E o) (oSk (sF E E E E o) (oY E (ad (vB o) E) ?_))
    exact key _ _ (keep (keep (keep (keep E E) E) E) (vB (iQ o)))
   ·refine oY (sT E E E E o) (yMB E) (oY (sT E E E E o) (bD E) (oY E (ag (vB o) E) ?_))
    exact key _ _ (keep (keep (keep (keep E E) E) E) (vB (iR o)))
theorem pK (p0:TT) (p1:Int) (res:Int) (h:jw p0 p1=some res) (W:World) (f:Option Addr) (d r:Nat) (I:d=p0.fK.length) (g:Rd W f d r (encL TSpan_cells p0.fK)) :
  Calls Tryz.prog 161 [.agg #[vI p0.fID,vI p0.fFrom,vI p0.fTo,vI p0.fLong,vI p0.fToll,.slice f d r],vI p1].toArray W fun e W2=>e=.returned (vI res)∧Ext W W2 []:=by
 subst I
 unfold jw at h
 refine aj (m:=44) Tryz.func161 E E (nB E) (cS (cR ?_))
 refine aN [vI p0.fID,vI p0.fFrom,vI p0.fTo,vI p0.fLong,vI p0.fToll,.slice f p0.fK.length r] E E E (fun V=>?_)
 refine oY E (yAI E) (oN (eT (cS (cR (oY E (yMI E) (oY E (yAI E) (oN (eT (cS (cS (cR (oY E (yAI E) (oN (eT (cB ?_)))))))))))))))
 obtain⟨U,M,h⟩:=bOs h
 refine bj (fun(s:(Int × Int)) L tm=>∃(X:Nat→Value),L=[ak V 120 [vI p0.fID,vI p0.fFrom,vI p0.fTo,vI p0.fLong,vI p0.fToll,.slice f p0.fK.length r]]∧tm=(upd (upd (upd (upd X 2 (.pointer (some ⟨V,0,none⟩))) 4 (vI 0)) 5 (vI s.1)) 6 (vI s.2))) 0 M ⟨_,E,(kp4 E)⟩ ?_ ?_
 ·rintro o L tm st ⟨O,rfl,rfl⟩ h
  unfold eF at h
  refine cS (cS (cR (oY E (yMI E) (oY E (yFA f4 E) (oY E (yL 0 kM E E E) (oY E (bi (us:=[]) mY E) (oY E (be E E) (oN (eT ?_)))))))))
  rcases iOs h with⟨K,h⟩|⟨K,h⟩
  ·refine cT (vB K) (cK (eT (cS (cB (cS ?_)))))
   refine aS 15 bW (by kernel_rfl) (by kernel_rfl) ?_
   refine qY E (yMI E) (qY E (yFA f4 E) (qY E (yL 0 kM E E E) (qY E (yMI E) ?_)))
   obtain⟨G,h⟩:=gOs h
   refine qY E (yI kk (by decide) G.1 G.2 (RdL.arg g) (eL aG E) E E) ?_
   refine qY E (yFR (A:=f) (j:=(Int.toNat o.2*2)) gK E) (qY E (yR (A:=f) (j:=((Int.toNat o.2*2)+0)) (v:=vI ((rdL p0.fK o.2).fLo)) aK (RdL.arg g) E (eG aG G.1 (ah G.2 E) E)) (qY E (yFA f4 E) (qY E (yL 0 kM E E E) (qY E (yMI E) ?_))))
   obtain⟨H,h⟩:=gOs h
   refine qY E (yI kk (by decide) H.1 H.2 (RdL.arg g) (eL aG E) E E) ?_
   refine qY E (yFR (A:=f) (j:=(Int.toNat o.2*2)) fg E) (qY E (yR (A:=f) (j:=((Int.toNat o.2*2)+1)) (v:=vI ((rdL p0.fK o.2).fHi)) aK (RdL.arg g) E (eG aG H.1 (ah H.2 E) E)) ?_)
   obtain⟨T,Y,h⟩:=bOs h
   refine qY E (yC [vI o.1,vI ((rdL p0.fK o.2).fLo),vI ((rdL p0.fK o.2).fHi)] gE E (fun W2 w=>aT o.1 ((rdL p0.fK o.2).fLo) ((rdL p0.fK o.2).fHi) T Y W2 ) E) (qY E (yAB E) (bF (oN (eT (cS (cR (oY E (yMB E) (oN (eT ?_)))))))))
   rcases iOs h with⟨D,h⟩|⟨D,h⟩
   ·refine cT (vB D) (cR (oY E (yFA f4 E) (oY E (yL 0 kM E E E) (oY E (yMI E) ?_))))
    obtain⟨u,h⟩:=gOs h
    refine oY E (yI kk (by decide) u.1 u.2 (RdL.arg g) (eL aG E) E E) ?_
    refine oY E (yFR (A:=f) (j:=(Int.toNat o.2*2)) fg E) (oY E (yR (A:=f) (j:=((Int.toNat o.2*2)+1)) (v:=vI ((rdL p0.fK o.2).fHi)) aK (RdL.arg g) E (eG aG u.1 (ah u.2 E) E)) (oY E (aL E E) (oY E (yAI E) (oN (aw (eT (cR (oY E (yMI E) (oY E (aL E E) (oY E (yAI E) (oN ?_)))))))))))
    obtain rfl:=sI h
    exact eN ⟨_,E,(kp4 E)⟩
   ·refine cF (vB D) (cK (aw (eT (cR (oY E (yMI E) (oY E (aL E E) (oY E (yAI E) (oN ?_))))))))
    obtain rfl:=sI h
    exact eN ⟨_,E,(kp4 E)⟩
  ·refine cF (vB K) (aD (ai ?_))
   obtain rfl:=sI h
   exact av ⟨E,_,E,(kp4 E)⟩
 ·intro e L tm hJ
  obtain⟨rfl,Q,rfl,rfl⟩:=hJ
  refine⟨(by intro hc;cases hc),?_⟩
  refine ac (eT (cS (cR (oY E (yMI E) ?_))))
  obtain⟨Z,N,h⟩:=bOs h
  refine oY E (yC [vI U.1] rA E (fun W2 w=>dt U.1 Z N W2 ) E) (oY E (yAB E) (oN (eT (cS (cS (cR (oY E (yMB E) (oY E (bD E) (oN (eT ?_))))))))))
  rcases iOs h with⟨F,h⟩|⟨F,h⟩
  ·refine cT (vB F) (cS (cR (oY E (yAI E) (oN (eT (ap (ab ?_)))))))
   obtain rfl:=sI h
   exact am (.inl E) E (rVt (v:=vI (-1)) E) (fun W2 w=>⟨E,w.none⟩)
  ·refine cF (vB F) (cK (eT (cS (cR (oY E (yMI E) (oY E (yAI E) (oN (eT (ap ?_)))))))))
   obtain rfl:=sI h
   exact am (.inl E) E (rVt (v:=vI U.1) E) (fun W2 w=>⟨E,w.none⟩)
theorem kL (p0:TT) (p1:Int) (res:Int) (h:fq p0 p1=some res) (W:World) (g:Option Addr) (u o:Nat) (d:u=p0.fK.length) (w:Rd W g u o (encL TSpan_cells p0.fK)) :
  Calls Tryz.prog 126 [.agg #[vI p0.fID,vI p0.fFrom,vI p0.fTo,vI p0.fLong,vI p0.fToll,.slice g u o],vI p1].toArray W fun e W2=>e=.returned (vI res)∧Ext W W2 []:=by
 subst d
 unfold fq at h
 refine aj (m:=24) Tryz.func126 E E (nB E) (cS (cR ?_))
 refine aN [vI p0.fID,vI p0.fFrom,vI p0.fTo,vI p0.fLong,vI p0.fToll,.slice g p0.fK.length o] E E E (fun K=>?_)
 refine oY E (yAI E) (oN (eT (cS (cS (cR (oY E (yMI E) (oY E (be E E) (oN (eT ?_)))))))))
 rcases iOs h with⟨D,h⟩|⟨D,h⟩
 ·refine cT (vB D) (cS (cR (oY E (yAI E) (oN (eT (ap (ab ?_)))))))
  obtain rfl:=sI h
  exact am (.inl E) E (rVt (v:=vI (-1)) E) (fun W2 r=>⟨E,r.none⟩)
 ·refine cF (vB D) (cK (eT (cS (cR (oY E (yN 0 [vI p0.fID,vI p0.fFrom,vI p0.fTo,vI p0.fLong,vI p0.fToll,.slice g p0.fK.length o] gS E E E) (oY E (yMI E) ?_))))))
  obtain⟨G,I,h⟩:=bOs h
  refine oY E (yC [.agg #[vI p0.fID,vI p0.fFrom,vI p0.fTo,vI p0.fLong,vI p0.fToll,.slice g p0.fK.length o],vI p1] go_161 E (fun W2 r=>pK p0 p1 G I W2 g p0.fK.length o E ((RdL.arg w) W2 r)) E) (oY E (yAI E) (oN (eT (cS (cS (cR (oY E (yMI E) (oY E (be E E) (oY E (yMB E) ?_)))))))))
  refine oJ 6 (fun H=>(upd (upd (upd (upd H 2 (.pointer (some ⟨K,0,none⟩))) 4 (vI 0)) 5 (vI G)) 19 (.bool ((decide (G<0))||(decide (16384<w64 (G+p0.fLong))))))) (fun H=>?_) (fun key=>?_)
  ·refine oN (eT ?_)
   rcases iOs h with⟨F,h⟩|⟨F,h⟩
   ·refine cT (vB F) (cS (cR (oY E (yAI E) (oN (eT (ap (ab ?_)))))))
    obtain rfl:=sI h
    exact am (.inl E) E (rVt (v:=vI (-1)) E) (fun W2 r=>⟨E,r.none⟩)
   ·refine cF (vB F) (cK (eT (cS (cR (oY E (yMI E) (oY E (yFA f5 E) (oY E (yL 0 aK E E E) (oY E (aL E E) (oY E (yAI E) (oN (eT (ap ?_))))))))))))
    obtain rfl:=sI h
    exact am (.inl E) E (rVt (v:=vI (w64 (G+p0.fLong))) E) (fun W2 r=>⟨E,r.none⟩)
  ·rcases ar (decide (G<0))with f|f
   ·refine oSk (sF E E E E f) (oSk (sF E E E E f) (oSk (sF E E E E f) (oSk (sF E E E E f) (oSk (sF E E E E f) (oY E (ad (vB f) E) ?_)))))
    exact key _ _ (keep (keep (keep (keep E E) E) E) (vB (iQ f)))
   ·refine oY (sT E E E E f) (yMI E) (oY (sT E E E E f) (yFA f5 E) (oY (sT E E E E f) (yL 0 aK E E E) (oY (sT E E E E f) (aL E E) (oY (sT E E E E f) (eu E E) (oY E (ag (vB f) E) ?_)))))
    exact key _ _ (keep (keep (keep (keep E E) E) E) (vB (iR f)))
theorem lB (p0:Int) (p1:Int) (res:Bool) (h:gn p0 p1=some res) (W:World)  :
  Calls Tryz.prog 127 [vI p0,vI p1].toArray W fun e W2=>e=.returned (.bool res)∧Ext W W2 []:=by
 unfold gn at h
 refine aj (m:=16) Tryz.func127 E E (nB E) (cS (cR (oY E (yAB E) (oN (eT (cS (cR (oY E (yMI E) (oY E (lu E E) (oY E (yMB E) ?_))))))))))
 refine oJ 8 (fun o=>(upd (upd o 4 (.bool false)) 15 (.bool ((decide (0≤p0))&&((decide (p1<0))||(decide (p0<p1))))))) (fun o=>?_) (fun key=>?_)
 ·refine oY E (yAB E) (oN (eT (ap ?_)))
  obtain rfl:=sI h
  exact am (.inl E) E (rVt (v:=.bool ((decide (0≤p0))&&((decide (p1<0))||(decide (p0<p1))))) E) (fun W2 r=>⟨E,r.none⟩)
 ·rcases ar (decide (0≤p0))with f|f
  ·refine oY (sT E E E E f) (yMI E) (oY (sT E E E E f) (be E E) (oY (sT E E E E f) (yMB E) ?_))
   refine oJ 4 (fun o=>(upd (upd (upd o 4 (.bool false)) 7 (.bool (decide (0≤p0)))) 14 (.bool ((decide (p1<0))||(decide (p0<p1)))))) (fun o=>?_) (fun key=>?_)
   ·refine oY E (ad (vB f) E) ?_
    exact key _ _ (keep (keep E E) (vB (fF f)))
   ·rcases ar (decide (p1<0))with g|g
    ·refine oSk (sF E E E E g) (oSk (sF E E E E g) (oSk (sF E E E E g) (oY (sT E E E E f) (ad (vB g) E) ?_)))
     exact key _ _ (keep (keep (keep E E) E) (vB (iQ g)))
    ·refine oY (sT E E E E g) (yMI E) (oY (sT E E E E g) (yMI E) (oY (sT E E E E g) (be E E) (oY (sT E E E E f) (ag (vB g) E) ?_)))
     exact key _ _ (keep (keep (keep E E) E) (vB (iR g)))
  ·refine oSk (sF E E E E f) (oSk (sF E E E E f) (oSk (sF E E E E f) (oSk E (oSk E (oSk E (oSk (sF E E E E f) (oY E (ag (vB f) E) ?_)))))))
   exact key _ _ (keep (keep E E) (vB (fy f)))
theorem kf (p0:TR) (p1:Int) (p2:Int) (res:(List (List Int))) (h:dz p0 p1 p2=some res) (W:World) (Ab:Option Addr) (oq cb:Nat) (N:List (Hd × TT)) (uE:oq=p0.fTracks.length) (op:Rd W Ab oq cb (encL TTrack_cells2 N)) (f3:NestW W (fun z:TT=>z.fK) TSpan_cells N p0.fTracks) (wb:World) (Hb:World→Prop) (hB:∀W3,Below W.heap.size W W3→Below wb.heap.size wb W3∧Hb W3) :
  Calls Tryz.prog 75 [.agg #[vI p0.fPlaces,.slice Ab oq cb],vI p1,vI p2].toArray W fun e W2=>∃x:((Option Addr × Nat × Nat) × (List (Hd × (List Int))) × Res),(x.1.2.1=res.length∧NestP (fun z:(List Int)=>z) x.2.1 res∧PvL (fun z:(List Int)=>z) cI wb (fun W4=>Hb W4∧Res.holds x.2.2 W4) x.2.1)∧e=.returned (.slice x.1.1 x.1.2.1 x.1.2.2)∧Ext W W2 [aR x.1.1 x.1.2.2 42 1 x.1.2.1 (encL SlInt_cells2 x.2.1),x.2.2]:=by
 subst uE
 unfold dz at h
 refine aj (m:=149) Tryz.func75 E E (nB E) (cS (cR ?_))
 refine aN [vI p0.fPlaces,.slice Ab p0.fTracks.length cb] E E E (fun b1=>?_)
 refine oY E (yAS E) (oN (eT (cS (cR (oY E (yFA dW E) (oY E (yL 0 aK E E E) ?_))))))
 obtain⟨uG,h⟩:=gOs h
 refine sP (encL SlInt_cells2 (List.replicate (Int.toNat p0.fPlaces) nilY)) rk ze_42 by_42 uG.1 uG.2 E (qF _ _ _ E E) E (fun b2=>?_)
 refine ox_addIn (e:=3) (k:=Int.toNat p0.fPlaces) (oY E (yAS E) (oN (eT (cS (cS (cR (oY E (yAI E) (oN (eT (cB ?_))))))))))
 obtain⟨u7,uH,h⟩:=bOs h
 refine bj (fun(s:(Int × (List (List Int)))) L tm=>∃(b:Nat→Value) (H:List (Hd × (List Int))),Int.toNat p0.fPlaces=s.2.length∧NestP (fun z:(List Int)=>z) H s.2∧L=[ak b1 24 [vI p0.fPlaces,.slice Ab p0.fTracks.length cb],aR (some ⟨b2,0,none⟩) (Int.toNat p0.fPlaces) 42 1 (Int.toNat p0.fPlaces) (encL SlInt_cells2 H),inR 3 H]∧tm=(upd (upd (upd (upd (upd (upd b 1 (vI p1)) 2 (vI p2)) 3 (.pointer (some ⟨b1,0,none⟩))) 6 (.slice none 0 0)) 7 (.slice (some ⟨b2,0,none⟩) (Int.toNat p0.fPlaces) (Int.toNat p0.fPlaces))) 8 (vI s.1))) 0 uH ⟨_,(List.replicate (Int.toNat p0.fPlaces) nilY),(List.length_replicate).symm,NestP.nils,E,(kp4 (kp (kp E)))⟩ ?_ ?_
 ·rintro O L tm st ⟨uj,f2,t,a,rfl,rfl⟩ h
  unfold d8 at h
  refine cS (cS (cR (oY E (yMI E) (oY E (yFA dW E) (oY E (yL 0 aK E E E) (oY E (be E E) (oN (eT ?_))))))))
  rcases iOs h with⟨uF,h⟩|⟨uF,h⟩
  ·refine cT (vB uF) (cK (eT (cS (cB (cS (cR (oY E (yMS E) (oY E (yMI E) ?_))))))))
   obtain⟨uD,h⟩:=gOs h
   refine sP (encL cI (List.replicate (Int.toNat 61) 0)) cQ nD qa uD.1 uD.2 E (qF _ _ _ E E) E (fun b9=>?_)
   obtain⟨fd,h⟩:=gOs h
   refine oY E (yI iu (by decide) fd.1 fd.2 (RdL.row 1 E) (eL ao (NestP.hn a t)) E E) ?_
   refine cy E (iD 1 (xs:=f2) ao (((some ⟨b9,0,none⟩),Int.toNat 61,Int.toNat 61),(List.replicate (Int.toNat 61) 0)) sz_42 E fd.1 (ah fd.2 (NestP.hn a t)) E E E E) ?_
   refine ox_putIn 2 3 (by decide) (ys:=f2) (p:=O.1) E E fd.1 (ah fd.2 (NestP.hn a t)) ?_
   refine oN (eT (cS (cR (oY E (yAI E) (oN (eT (cB ?_)))))))
   obtain⟨uc,uI,h⟩:=bOs h
   refine bj (fun(s:(Int × (List (List Int)))) L tm=>∃(b:Nat→Value) (H:List (Hd × (List Int))),Int.toNat p0.fPlaces=s.2.length∧NestP (fun z:(List Int)=>z) H s.2∧L=[ak b1 24 [vI p0.fPlaces,.slice Ab p0.fTracks.length cb],aR (some ⟨b2,0,none⟩) (Int.toNat p0.fPlaces) 42 1 (Int.toNat p0.fPlaces) (encL SlInt_cells2 H),inR 3 H,noR]∧tm=(upd (upd (upd (upd (upd (upd (upd (upd b 1 (vI p1)) 2 (vI p2)) 3 (.pointer (some ⟨b1,0,none⟩))) 6 (.slice none 0 0)) 7 (.slice (some ⟨b2,0,none⟩) (Int.toNat p0.fPlaces) (Int.toNat p0.fPlaces))) 8 (vI O.1)) 25 (.bool (decide (O.1<p0.fPlaces)))) 9 (vI s.1))) 2 uI ⟨_,(f2.set (Int.toNat O.1) (((some ⟨b9,0,none⟩),Int.toNat 61,Int.toNat 61),(List.replicate (Int.toNat 61) 0))),(cY t),(NestP.set _ a (List.length_replicate).symm E),E,(kp4 (kp4 E))⟩ ?_ ?_
   ·rintro l L tm st ⟨uK,f,w,I,rfl,rfl⟩ h
    unfold dU at h
    refine cS (cS (cR (oY E (yMI E) (oY E (gV E E) (oN (eT ?_))))))
    rcases iOs h with⟨om,h⟩|⟨om,h⟩
    ·refine cT (vB om) (cK (eT (cS (cB (cS (cR (oY E (yMS E) (oY E (yMI E) ?_))))))))
     obtain⟨M,h⟩:=gOs h
     refine oY E (yI iu (by decide) M.1 M.2 (RdL.row 1 E) (eL ao (NestP.hn I w)) E E) ?_
     refine oY E (yR (A:=(some ⟨b2,0,none⟩)) (j:=(Int.toNat O.1*1)) (v:=.slice ((rdL f O.1).1.1) ((rdL l.2 O.1).length) ((rdL f O.1).1.2.2)) gM (RdL.row 1 E) E (ay ao M.1 (ah M.2 (NestP.hn I w)) (congrArg (fun n:Nat=>some (Value.slice (rdL f O.1).1.1 n (rdL f O.1).1.2.2)) (NestP.len I M.1 (ah M.2 w))))) (oY E (yMI E) ?_)
     obtain⟨g2,h⟩:=gOs h
     refine oY E (yI bS (by decide) g2.1 g2.2 (NestL.rd (PvL.nestL I (PvL.inR (e:=3) (wb:=wb) (Hb:=Hb) (ys:=f)) (fun W2 D=>⟨(hB W2 D.below).1,(hB W2 D.below).2,D.mem (i:=2) E⟩)) M.1 (ah M.2 w)) (eL aB E) E E) ?_
     refine cy E (mL 1 2 (by decide) (fun y z e=>by unfold SlInt_cells2;rw[e]) (ys:=f) (p:=O.1) px E E M.1 (ah M.2 (NestP.hn I w)) g2.1 (NestP.ltIn I (ah g2.2 E)) E E) ?_
     refine oN (eT (cS (cR (oY E (yMI E) (oY E (yMI E) (oY E (cZ E E) (oN (eT ?_))))))))
     rcases iOs h with⟨ot,h⟩|⟨ot,h⟩
     ·refine cT (vB ot) (cR (oY E (yMS E) (oY E (yMI E) ?_)))
      obtain⟨U,h⟩:=gOs h
      refine oY E (yI iu (by decide) U.1 U.2 (RdL.row 1 E) (eL ao (NestP.hn (NestP.setIn I M.1 (ah M.2 w)) (cY w))) E E) ?_
      refine oY E (yR (A:=(some ⟨b2,0,none⟩)) (j:=(Int.toNat O.1*1)) (v:=.slice ((rdL (f.set (Int.toNat O.1) ((rdL f O.1).1,(rdL f O.1).2.set (Int.toNat l.1) (-1))) O.1).1.1) ((rdL (l.2.set (Int.toNat O.1) ((rdL l.2 O.1).set (Int.toNat l.1) (-1))) O.1).length) ((rdL (f.set (Int.toNat O.1) ((rdL f O.1).1,(rdL f O.1).2.set (Int.toNat l.1) (-1))) O.1).1.2.2)) gM (RdL.row 1 E) E (ay ao U.1 (ah U.2 (NestP.hn (NestP.setIn I M.1 (ah M.2 w)) (cY w))) (congrArg (fun n:Nat=>some (Value.slice (rdL (f.set (Int.toNat O.1) ((rdL f O.1).1,(rdL f O.1).2.set (Int.toNat l.1) (-1))) O.1).1.1 n (rdL (f.set (Int.toNat O.1) ((rdL f O.1).1,(rdL f O.1).2.set (Int.toNat l.1) (-1))) O.1).1.2.2)) (NestP.len (NestP.setIn I M.1 (ah M.2 w)) U.1 (ah U.2 (cY w)))))) (oY E (yMI E) (oY E (yMI E) ?_))
      obtain⟨g3,h⟩:=gOs h
      refine oY E (yI bS (by decide) g3.1 g3.2 (NestL.rd (PvL.nestL (NestP.setIn I M.1 (ah M.2 w)) (PvL.inR (e:=3) (wb:=wb) (Hb:=Hb) (ys:=(f.set (Int.toNat O.1) ((rdL f O.1).1,(rdL f O.1).2.set (Int.toNat l.1) (-1))))) (fun W2 D=>⟨(hB W2 D.below).1,(hB W2 D.below).2,D.mem (i:=2) E⟩)) U.1 (ah U.2 (cY w))) (eL aB E) E E) ?_
      refine cy E (mL 1 2 (by decide) (fun y z e=>by unfold SlInt_cells2;rw[e]) (ys:=(f.set (Int.toNat O.1) ((rdL f O.1).1,(rdL f O.1).2.set (Int.toNat l.1) (-1)))) (p:=O.1) px E E U.1 (ah U.2 (NestP.hn (NestP.setIn I M.1 (ah M.2 w)) (cY w))) g3.1 (NestP.ltIn (NestP.setIn I M.1 (ah M.2 w)) (ah g3.2 E)) E E) ?_
      refine oN (aw (eT (cR (oY E (yMI E) (oY E (aL E E) (oY E (yAI E) (oN ?_)))))))
      obtain rfl:=sI h
      exact eN ⟨_,((f.set (Int.toNat O.1) ((rdL f O.1).1,(rdL f O.1).2.set (Int.toNat l.1) (-1))).set (Int.toNat O.1) ((rdL (f.set (Int.toNat O.1) ((rdL f O.1).1,(rdL f O.1).2.set (Int.toNat l.1) (-1))) O.1).1,(rdL (f.set (Int.toNat O.1) ((rdL f O.1).1,(rdL f O.1).2.set (Int.toNat l.1) (-1))) O.1).2.set (Int.toNat l.1) p2)),(cY (cY w)),(NestP.setIn (NestP.setIn I M.1 (ah M.2 w)) U.1 (ah U.2 (cY w))),E,(kp4 (kp4 E))⟩
     ·refine cF (vB ot) (cK (aw (eT (cR (oY E (yMI E) (oY E (aL E E) (oY E (yAI E) (oN ?_))))))))
      obtain rfl:=sI h
      exact eN ⟨_,(f.set (Int.toNat O.1) ((rdL f O.1).1,(rdL f O.1).2.set (Int.toNat l.1) (-1))),(cY w),(NestP.setIn I M.1 (ah M.2 w)),E,(kp4 (kp4 E))⟩
    ·refine cF (vB om) (aD (ai ?_))
     obtain rfl:=sI h
     exact av ⟨E,_,f,w,I,E,(kp4 (kp4 E))⟩
   ·intro e L tm hJ
    obtain⟨rfl,uM,oa,oi,oj,rfl,rfl⟩:=hJ
    refine⟨(by intro hc;cases hc),?_⟩
    refine ac (aw (eT (cR (oY E (yMI E) (oY E (aL E E) (oY E (yAI E) (oN (aQ 3 ?_))))))))
    obtain rfl:=sI h
    exact eN ⟨_,oa,oi,oj,E,(kp4 (kp (kp E)))⟩
  ·refine cF (vB uF) (aD (ai ?_))
   obtain rfl:=sI h
   exact av ⟨E,_,f2,t,a,E,(kp4 (kp (kp E)))⟩
 ·intro e L tm hJ
  obtain⟨rfl,uk,uo,ur,uu,rfl,rfl⟩:=hJ
  refine⟨(by intro hc;cases hc),?_⟩
  refine ac (eT (cS (cR (oY E (yAB E) (oN (eT (cS (cB ?_))))))))
  obtain⟨d0,uN,h⟩:=bOs h
  refine bj (fun(s:(Bool × (List (List Int)))) L tm=>∃(b:Nat→Value) (H:List (Hd × (List Int))),Int.toNat p0.fPlaces=s.2.length∧NestP (fun z:(List Int)=>z) H s.2∧L=[ak b1 24 [vI p0.fPlaces,.slice Ab p0.fTracks.length cb],aR (some ⟨b2,0,none⟩) (Int.toNat p0.fPlaces) 42 1 (Int.toNat p0.fPlaces) (encL SlInt_cells2 H),inR 3 H]∧tm=(upd (upd (upd (upd b 3 (.pointer (some ⟨b1,0,none⟩))) 6 (.slice none 0 0)) 7 (.slice (some ⟨b2,0,none⟩) (Int.toNat p0.fPlaces) (Int.toNat p0.fPlaces))) 10 (.bool s.1))) 4 uN ⟨_,uo,ur,uu,E,(kp4 E)⟩ ?_ ?_
  ·rintro ud L tm st ⟨uO,fD,fE,fG,rfl,rfl⟩ h
   unfold ed at h
   refine cS (cS (cR (oY E (yMB E) (oN (eT ?_)))))
   rcases iOs h with⟨ok,h⟩|⟨ok,h⟩
   ·refine cT (vB ok) (cK (eT (cB (cS (cR (oY E (yAB E) (oN (eT (cS (cS (cR (oY E (yAI E) (oN (eT (cB ?_)))))))))))))))
    obtain⟨uQ,uU,h⟩:=bOs h
    refine bj (fun(s:(Bool × Int × (List (List Int)))) L tm=>∃(b:Nat→Value) (H:List (Hd × (List Int))),Int.toNat p0.fPlaces=s.2.2.length∧NestP (fun z:(List Int)=>z) H s.2.2∧L=[ak b1 24 [vI p0.fPlaces,.slice Ab p0.fTracks.length cb],aR (some ⟨b2,0,none⟩) (Int.toNat p0.fPlaces) 42 1 (Int.toNat p0.fPlaces) (encL SlInt_cells2 H),inR 3 H]∧tm=(upd (upd (upd (upd (upd (upd b 3 (.pointer (some ⟨b1,0,none⟩))) 6 (.slice none 0 0)) 7 (.slice (some ⟨b2,0,none⟩) (Int.toNat p0.fPlaces) (Int.toNat p0.fPlaces))) 10 (.bool s.1)) 52 (.bool ud.1)) 11 (vI s.2.1))) 6 uU ⟨_,fD,fE,fG,E,(kp4 (kp (kp E)))⟩ ?_ ?_
    ·rintro o L tm st ⟨uX,fH,fT,fR,rfl,rfl⟩ h
     unfold dR at h
     refine cS (cS (cR (oY E (yMI E) (oY E (yFA bU E) (oY E (yL 0 gv E E E) (oY E (bi (us:=[]) i6 E) (oY E (be E E) (oN (eT ?_)))))))))
     rcases iOs h with⟨r0,h⟩|⟨r0,h⟩
     ·refine cT (vB r0) (cK (eT (cS (cB (cS (cR (oY E (yFA bU E) (oY E (yL 0 gv E E E) (oY E (yMI E) ?_)))))))))
      obtain⟨c,h⟩:=gOs h
      refine oY E (yI jE (by decide) c.1 c.2 (RdL.arg op) (eL au (NestP.hn f3.p E)) E E) ?_
      refine oY E (yM (A:=Ab) (j:=(Int.toNat o.2.1*6)) [vI ((rdL p0.fTracks o.2.1).fID),vI ((rdL p0.fTracks o.2.1).fFrom),vI ((rdL p0.fTracks o.2.1).fTo),vI ((rdL p0.fTracks o.2.1).fLong),vI ((rdL p0.fTracks o.2.1).fToll),.slice ((rdL N o.2.1).1.1) ((rdL p0.fTracks o.2.1).fK.length) ((rdL N o.2.1).1.2.2)] gS (Nat.succ_pos _) (RdL.arg op) E (fN (bI (NestP.snd f3.p o.2.1) (NestP.len f3.p c.1 (ah c.2 E))).symm (bc au c.1 (ah c.2 (NestP.hn f3.p E))))) ?_
      refine aF ip E (fun uY=>?_)
      refine cy E (yS 3 [vI ((rdL p0.fTracks o.2.1).fID),vI ((rdL p0.fTracks o.2.1).fFrom),vI ((rdL p0.fTracks o.2.1).fTo),vI ((rdL p0.fTracks o.2.1).fLong),vI ((rdL p0.fTracks o.2.1).fToll),.slice ((rdL N o.2.1).1.1) ((rdL p0.fTracks o.2.1).fK.length) ((rdL N o.2.1).1.2.2)] nU E (nB E) E E E) (oN (eT (cS (cR (oY E (yAI E) (oN (eT (cB ?_))))))))
      obtain⟨d1,uZ,h⟩:=bOs h
      refine bj (fun(s:(Bool × Int × (List (List Int)))) L tm=>∃(b:Nat→Value) (H:List (Hd × (List Int))),Int.toNat p0.fPlaces=s.2.2.length∧NestP (fun z:(List Int)=>z) H s.2.2∧L=[ak b1 24 [vI p0.fPlaces,.slice Ab p0.fTracks.length cb],aR (some ⟨b2,0,none⟩) (Int.toNat p0.fPlaces) 42 1 (Int.toNat p0.fPlaces) (encL SlInt_cells2 H),inR 3 H,ak uY 120 [vI ((rdL p0.fTracks o.2.1).fID),vI ((rdL p0.fTracks o.2.1).fFrom),vI ((rdL p0.fTracks o.2.1).fTo),vI ((rdL p0.fTracks o.2.1).fLong),vI ((rdL p0.fTracks o.2.1).fToll),.slice ((rdL N o.2.1).1.1) ((rdL p0.fTracks o.2.1).fK.length) ((rdL N o.2.1).1.2.2)]]∧tm=(upd (upd (upd (upd (upd (upd (upd (upd (upd b 3 (.pointer (some ⟨b1,0,none⟩))) 6 (.slice none 0 0)) 7 (.slice (some ⟨b2,0,none⟩) (Int.toNat p0.fPlaces) (Int.toNat p0.fPlaces))) 10 (.bool s.1)) 52 (.bool ud.1)) 11 (vI o.2.1)) 57 (.bool (decide (o.2.1<(p0.fTracks.length:Int))))) 12 (.pointer (some ⟨uY,0,none⟩))) 13 (vI s.2.1))) 8 uZ ⟨_,fH,fT,fR,E,(kp4 (kp4 (kp E)))⟩ ?_ ?_
      ·rintro Z L tm st ⟨uV,r,F,G,rfl,rfl⟩ h
       unfold dP at h
       refine cS (cS (cR (oY E (yMI E) (oY E (yFA gb E) (oY E (yL 3 aK E E E) (oY E (aL E E) (oY E (gV E E) (oN (eT ?_)))))))))
       rcases iOs h with⟨r1,h⟩|⟨r1,h⟩
       ·refine cT (vB r1) (cK (eT (cS (cB (cS ?_)))))
        refine aS 11 bW (by kernel_rfl) (by kernel_rfl) ?_
        refine qY E (yN 3 [vI ((rdL p0.fTracks o.2.1).fID),vI ((rdL p0.fTracks o.2.1).fFrom),vI ((rdL p0.fTracks o.2.1).fTo),vI ((rdL p0.fTracks o.2.1).fLong),vI ((rdL p0.fTracks o.2.1).fToll),.slice ((rdL N o.2.1).1.1) ((rdL p0.fTracks o.2.1).fK.length) ((rdL N o.2.1).1.2.2)] gS E E E) (qY E (yMS E) (qY E (yFA ii E) (qY E (yL 3 aK E E E) ?_)))
        obtain⟨V,h⟩:=gOs h
        refine qY E (yI iu (by decide) V.1 V.2 (RdL.row 1 E) (eL ao (NestP.hn G F)) E E) ?_
        refine qY E (yR (A:=(some ⟨b2,0,none⟩)) (j:=(Int.toNat ((rdL p0.fTracks o.2.1).fFrom)*1)) (v:=.slice ((rdL r ((rdL p0.fTracks o.2.1).fFrom)).1.1) ((rdL Z.2.2 ((rdL p0.fTracks o.2.1).fFrom)).length) ((rdL r ((rdL p0.fTracks o.2.1).fFrom)).1.2.2)) gM (RdL.row 1 E) E (ay ao V.1 (ah V.2 (NestP.hn G F)) (congrArg (fun n:Nat=>some (Value.slice (rdL r ((rdL p0.fTracks o.2.1).fFrom)).1.1 n (rdL r ((rdL p0.fTracks o.2.1).fFrom)).1.2.2)) (NestP.len G V.1 (ah V.2 F))))) (qY E (yMI E) ?_)
        obtain⟨g4,h⟩:=gOs h
        refine qY E (yI bS (by decide) g4.1 g4.2 (NestL.rd (PvL.nestL G (PvL.inR (e:=3) (wb:=wb) (Hb:=Hb) (ys:=r)) (fun W2 D=>⟨(hB W2 D.below).1,(hB W2 D.below).2,D.mem (i:=2) E⟩)) V.1 (ah V.2 F)) (eL aB E) E E) ?_
        refine qY E (yR (A:=((rdL r ((rdL p0.fTracks o.2.1).fFrom)).1.1)) (j:=(Int.toNat Z.2.1*1)) (v:=vI (rdL (rdL Z.2.2 ((rdL p0.fTracks o.2.1).fFrom)) Z.2.1)) aK (NestL.rd (PvL.nestL G (PvL.inR (e:=3) (wb:=wb) (Hb:=Hb) (ys:=r)) (fun W2 D=>⟨(hB W2 D.below).1,(hB W2 D.below).2,D.mem (i:=2) E⟩)) V.1 (ah V.2 F)) E (ay aB g4.1 (ah g4.2 E) E)) ?_
        obtain⟨uw,uT,h⟩:=bOs h
        refine qY E (yC [.agg #[vI ((rdL p0.fTracks o.2.1).fID),vI ((rdL p0.fTracks o.2.1).fFrom),vI ((rdL p0.fTracks o.2.1).fTo),vI ((rdL p0.fTracks o.2.1).fLong),vI ((rdL p0.fTracks o.2.1).fToll),.slice ((rdL N o.2.1).1.1) ((rdL p0.fTracks o.2.1).fK.length) ((rdL N o.2.1).1.2.2)],vI (rdL (rdL Z.2.2 ((rdL p0.fTracks o.2.1).fFrom)) Z.2.1)] go_126 E (fun W2 D=>kL (TT.mk ((rdL p0.fTracks o.2.1).fID) ((rdL p0.fTracks o.2.1).fFrom) ((rdL p0.fTracks o.2.1).fTo) ((rdL p0.fTracks o.2.1).fLong) ((rdL p0.fTracks o.2.1).fToll) ((rdL p0.fTracks o.2.1).fK)) (rdL (rdL Z.2.2 ((rdL p0.fTracks o.2.1).fFrom)) Z.2.1) uw uT W2 ((rdL N o.2.1).1.1) ((rdL p0.fTracks o.2.1).fK.length) ((rdL N o.2.1).1.2.2) E ((NestL.rd (NestL.arg f3) c.1 (ah c.2 E)) W2 D)) E) (qY E (yAI E) (bF (oN (eT (cS ?_)))))
        refine aS 14 bW (by kernel_rfl) (by kernel_rfl) ?_
        refine qY E (yMI E) (qY E (yMS E) (qY E (yFA gD E) (qY E (yL 3 aK E E E) ?_)))
        obtain⟨T,h⟩:=gOs h
        refine qY E (yI iu (by decide) T.1 T.2 (RdL.row 1 E) (eL ao (NestP.hn G F)) E E) ?_
        refine qY E (yR (A:=(some ⟨b2,0,none⟩)) (j:=(Int.toNat ((rdL p0.fTracks o.2.1).fTo)*1)) (v:=.slice ((rdL r ((rdL p0.fTracks o.2.1).fTo)).1.1) ((rdL Z.2.2 ((rdL p0.fTracks o.2.1).fTo)).length) ((rdL r ((rdL p0.fTracks o.2.1).fTo)).1.2.2)) gM (RdL.row 1 E) E (ay ao T.1 (ah T.2 (NestP.hn G F)) (congrArg (fun n:Nat=>some (Value.slice (rdL r ((rdL p0.fTracks o.2.1).fTo)).1.1 n (rdL r ((rdL p0.fTracks o.2.1).fTo)).1.2.2)) (NestP.len G T.1 (ah T.2 F))))) (qY E (yMI E) (qY E (yFA gb E) (qY E (yL 3 aK E E E) (qY E (aL E E) ?_))))
        obtain⟨gf,h⟩:=gOs h
        refine qY E (yI bS (by decide) gf.1 gf.2 (NestL.rd (PvL.nestL G (PvL.inR (e:=3) (wb:=wb) (Hb:=Hb) (ys:=r)) (fun W2 D=>⟨(hB W2 D.below).1,(hB W2 D.below).2,D.mem (i:=2) E⟩)) T.1 (ah T.2 F)) (eL aB E) E E) ?_
        refine qY E (yR (A:=((rdL r ((rdL p0.fTracks o.2.1).fTo)).1.1)) (j:=(Int.toNat (w64 (Z.2.1+((rdL p0.fTracks o.2.1).fToll)))*1)) (v:=vI (rdL (rdL Z.2.2 ((rdL p0.fTracks o.2.1).fTo)) (w64 (Z.2.1+((rdL p0.fTracks o.2.1).fToll))))) aK (NestL.rd (PvL.nestL G (PvL.inR (e:=3) (wb:=wb) (Hb:=Hb) (ys:=r)) (fun W2 D=>⟨(hB W2 D.below).1,(hB W2 D.below).2,D.mem (i:=2) E⟩)) T.1 (ah T.2 F)) E (ay aB gf.1 (ah gf.2 E) E)) ?_
        obtain⟨ux,uS,h⟩:=bOs h
        refine qY E (yC [vI uw,vI (rdL (rdL Z.2.2 ((rdL p0.fTracks o.2.1).fTo)) (w64 (Z.2.1+((rdL p0.fTracks o.2.1).fToll))))] go_127 E (fun W2 D=>lB uw (rdL (rdL Z.2.2 ((rdL p0.fTracks o.2.1).fTo)) (w64 (Z.2.1+((rdL p0.fTracks o.2.1).fToll)))) ux uS W2 ) E) (qY E (yAB E) (bF (oN (eT (cS (cR (oY E (yMB E) (oN (eT ?_)))))))))
        rcases iOs h with⟨r2,h⟩|⟨r2,h⟩
        ·refine cT (vB r2) (cS ?_)
         refine aS 11 bW (by kernel_rfl) (by kernel_rfl) ?_
         refine qY E (yMS E) (qY E (yFA gD E) (qY E (yL 3 aK E E E) ?_))
         obtain⟨X,h⟩:=gOs h
         refine qY E (yI iu (by decide) X.1 X.2 (RdL.row 1 E) (eL ao (NestP.hn G F)) E E) ?_
         refine qY E (yR (A:=(some ⟨b2,0,none⟩)) (j:=(Int.toNat ((rdL p0.fTracks o.2.1).fTo)*1)) (v:=.slice ((rdL r ((rdL p0.fTracks o.2.1).fTo)).1.1) ((rdL Z.2.2 ((rdL p0.fTracks o.2.1).fTo)).length) ((rdL r ((rdL p0.fTracks o.2.1).fTo)).1.2.2)) gM (RdL.row 1 E) E (ay ao X.1 (ah X.2 (NestP.hn G F)) (congrArg (fun n:Nat=>some (Value.slice (rdL r ((rdL p0.fTracks o.2.1).fTo)).1.1 n (rdL r ((rdL p0.fTracks o.2.1).fTo)).1.2.2)) (NestP.len G X.1 (ah X.2 F))))) (qY E (yMI E) (qY E (yFA gb E) (qY E (yL 3 aK E E E) (qY E (aL E E) (qY E (yMI E) ?_)))))
         obtain⟨go,h⟩:=gOs h
         refine qY E (yI bS (by decide) go.1 go.2 (NestL.rd (PvL.nestL G (PvL.inR (e:=3) (wb:=wb) (Hb:=Hb) (ys:=r)) (fun W2 D=>⟨(hB W2 D.below).1,(hB W2 D.below).2,D.mem (i:=2) E⟩)) X.1 (ah X.2 F)) (eL aB E) E E) ?_
         refine bF ?_
         refine cy E (mL 1 2 (by decide) (fun y z e=>by unfold SlInt_cells2;rw[e]) (ys:=r) (p:=((rdL p0.fTracks o.2.1).fTo)) px E E X.1 (ah X.2 (NestP.hn G F)) go.1 (NestP.ltIn G (ah go.2 E)) E E) ?_
         refine oN (eT (cR (oY E (yAB E) (oN (aw (eT (cR (oY E (yMI E) (oY E (aL E E) (oY E (yAI E) (oN ?_)))))))))))
         obtain rfl:=sI h
         exact eN ⟨_,(r.set (Int.toNat ((rdL p0.fTracks o.2.1).fTo)) ((rdL r ((rdL p0.fTracks o.2.1).fTo)).1,(rdL r ((rdL p0.fTracks o.2.1).fTo)).2.set (Int.toNat (w64 (Z.2.1+((rdL p0.fTracks o.2.1).fToll)))) uw)),(cY F),(NestP.setIn G X.1 (ah X.2 F)),E,(kp4 (kp4 (kp E)))⟩
        ·refine cF (vB r2) (cK (aw (eT (cR (oY E (yMI E) (oY E (aL E E) (oY E (yAI E) (oN ?_))))))))
         obtain rfl:=sI h
         exact eN ⟨_,r,F,G,E,(kp4 (kp4 (kp E)))⟩
       ·refine cF (vB r1) (aD (ai ?_))
        obtain rfl:=sI h
        exact av ⟨E,_,r,F,G,E,(kp4 (kp4 (kp E)))⟩
      ·intro e L tm hJ
       obtain⟨rfl,uR,r3,r4,r5,rfl,rfl⟩:=hJ
       refine⟨(by intro hc;cases hc),?_⟩
       refine ac (aw (eT (cR (oY E (yMI E) (oY E (aL E E) (oY E (yAI E) (oN (aQ 3 ?_))))))))
       obtain rfl:=sI h
       exact eN ⟨_,r3,r4,r5,E,(kp4 (kp (kp E)))⟩
     ·refine cF (vB r0) (aD (ai ?_))
      obtain rfl:=sI h
      exact av ⟨E,_,fH,fT,fR,E,(kp4 (kp (kp E)))⟩
    ·intro e L tm hJ
     obtain⟨rfl,uq,ri,rj,rx,rfl,rfl⟩:=hJ
     refine⟨(by intro hc;cases hc),?_⟩
     refine ac (eT (cS (cR (oY E (yAI E) (oN (eT (cB ?_)))))))
     obtain⟨d2,up,h⟩:=bOs h
     refine bj (fun(s:(Bool × Int × (List (List Int)))) L tm=>∃(b:Nat→Value) (H:List (Hd × (List Int))),Int.toNat p0.fPlaces=s.2.2.length∧NestP (fun z:(List Int)=>z) H s.2.2∧L=[ak b1 24 [vI p0.fPlaces,.slice Ab p0.fTracks.length cb],aR (some ⟨b2,0,none⟩) (Int.toNat p0.fPlaces) 42 1 (Int.toNat p0.fPlaces) (encL SlInt_cells2 H),inR 3 H]∧tm=(upd (upd (upd (upd (upd (upd (upd b 3 (.pointer (some ⟨b1,0,none⟩))) 6 (.slice none 0 0)) 7 (.slice (some ⟨b2,0,none⟩) (Int.toNat p0.fPlaces) (Int.toNat p0.fPlaces))) 10 (.bool s.1)) 52 (.bool ud.1)) 11 (vI uQ.2.1)) 16 (vI s.2.1))) 10 up ⟨_,ri,rj,rx,E,(kp4 (kp (kp (kp E))))⟩ ?_ ?_
     ·rintro K L tm st ⟨un,fn,fl,ft,rfl,rfl⟩ h
      unfold dQ at h
      refine cS (cS (cR (oY E (yMI E) (oY E (yFA dW E) (oY E (yL 0 aK E E E) (oY E (be E E) (oN (eT ?_))))))))
      rcases iOs h with⟨u0,h⟩|⟨u0,h⟩
      ·refine cT (vB u0) (cK (eT (cS (cB (cS (cR (oY E (yAI E) (oN (eT (cB ?_))))))))))
       obtain⟨d3,um,h⟩:=bOs h
       refine bj (fun(s:(Bool × Int × (List (List Int)))) L tm=>∃(b:Nat→Value) (H:List (Hd × (List Int))),Int.toNat p0.fPlaces=s.2.2.length∧NestP (fun z:(List Int)=>z) H s.2.2∧L=[ak b1 24 [vI p0.fPlaces,.slice Ab p0.fTracks.length cb],aR (some ⟨b2,0,none⟩) (Int.toNat p0.fPlaces) 42 1 (Int.toNat p0.fPlaces) (encL SlInt_cells2 H),inR 3 H]∧tm=(upd (upd (upd (upd (upd (upd (upd (upd (upd b 3 (.pointer (some ⟨b1,0,none⟩))) 6 (.slice none 0 0)) 7 (.slice (some ⟨b2,0,none⟩) (Int.toNat p0.fPlaces) (Int.toNat p0.fPlaces))) 10 (.bool s.1)) 52 (.bool ud.1)) 11 (vI uQ.2.1)) 16 (vI K.2.1)) 110 (.bool (decide (K.2.1<p0.fPlaces)))) 17 (vI s.2.1))) 12 um ⟨_,fn,fl,ft,E,(kp4 (kp4 (kp E)))⟩ ?_ ?_
       ·rintro Q L tm st ⟨ul,g,u,d,rfl,rfl⟩ h
        unfold dS at h
        refine cS (cS (cR (oY E (yMI E) (oY E (gV E E) (oN (eT ?_))))))
        rcases iOs h with⟨u1,h⟩|⟨u1,h⟩
        ·refine cT (vB u1) (cK (eT (cS (cB (cS ?_)))))
         refine aS 17 bW (by kernel_rfl) (by kernel_rfl) ?_
         refine qY E (yMS E) (qY E (yMI E) ?_)
         obtain⟨S,h⟩:=gOs h
         refine qY E (yI iu (by decide) S.1 S.2 (RdL.row 1 E) (eL ao (NestP.hn d u)) E E) ?_
         refine qY E (yR (A:=(some ⟨b2,0,none⟩)) (j:=(Int.toNat K.2.1*1)) (v:=.slice ((rdL g K.2.1).1.1) ((rdL Q.2.2 K.2.1).length) ((rdL g K.2.1).1.2.2)) gM (RdL.row 1 E) E (ay ao S.1 (ah S.2 (NestP.hn d u)) (congrArg (fun n:Nat=>some (Value.slice (rdL g K.2.1).1.1 n (rdL g K.2.1).1.2.2)) (NestP.len d S.1 (ah S.2 u))))) (qY E (yMI E) (qY E (ex E E) ?_))
         obtain⟨o0,h⟩:=gOs h
         refine qY E (yI bS (by decide) o0.1 o0.2 (NestL.rd (PvL.nestL d (PvL.inR (e:=3) (wb:=wb) (Hb:=Hb) (ys:=g)) (fun W2 D=>⟨(hB W2 D.below).1,(hB W2 D.below).2,D.mem (i:=2) E⟩)) S.1 (ah S.2 u)) (eL aB E) E E) ?_
         refine qY E (yR (A:=((rdL g K.2.1).1.1)) (j:=(Int.toNat (w64 (Q.2.1-1))*1)) (v:=vI (rdL (rdL Q.2.2 K.2.1) (w64 (Q.2.1-1)))) aK (NestL.rd (PvL.nestL d (PvL.inR (e:=3) (wb:=wb) (Hb:=Hb) (ys:=g)) (fun W2 D=>⟨(hB W2 D.below).1,(hB W2 D.below).2,D.mem (i:=2) E⟩)) S.1 (ah S.2 u)) E (ay aB o0.1 (ah o0.2 E) E)) (qY E (yMS E) (qY E (yMI E) ?_))
         obtain⟨R,h⟩:=gOs h
         refine qY E (yI iu (by decide) R.1 R.2 (RdL.row 1 E) (eL ao (NestP.hn d u)) E E) ?_
         refine qY E (yR (A:=(some ⟨b2,0,none⟩)) (j:=(Int.toNat K.2.1*1)) (v:=.slice ((rdL g K.2.1).1.1) ((rdL Q.2.2 K.2.1).length) ((rdL g K.2.1).1.2.2)) gM (RdL.row 1 E) E (ay ao R.1 (ah R.2 (NestP.hn d u)) (congrArg (fun n:Nat=>some (Value.slice (rdL g K.2.1).1.1 n (rdL g K.2.1).1.2.2)) (NestP.len d R.1 (ah R.2 u))))) (qY E (yMI E) ?_)
         obtain⟨o1,h⟩:=gOs h
         refine qY E (yI bS (by decide) o1.1 o1.2 (NestL.rd (PvL.nestL d (PvL.inR (e:=3) (wb:=wb) (Hb:=Hb) (ys:=g)) (fun W2 D=>⟨(hB W2 D.below).1,(hB W2 D.below).2,D.mem (i:=2) E⟩)) R.1 (ah R.2 u)) (eL aB E) E E) ?_
         refine qY E (yR (A:=((rdL g K.2.1).1.1)) (j:=(Int.toNat Q.2.1*1)) (v:=vI (rdL (rdL Q.2.2 K.2.1) Q.2.1)) aK (NestL.rd (PvL.nestL d (PvL.inR (e:=3) (wb:=wb) (Hb:=Hb) (ys:=g)) (fun W2 D=>⟨(hB W2 D.below).1,(hB W2 D.below).2,D.mem (i:=2) E⟩)) R.1 (ah R.2 u)) E (ay aB o1.1 (ah o1.2 E) E)) ?_
         obtain⟨uy,ut,h⟩:=bOs h
         refine qY E (yC [vI (rdL (rdL Q.2.2 K.2.1) (w64 (Q.2.1-1))),vI (rdL (rdL Q.2.2 K.2.1) Q.2.1)] go_127 E (fun W2 D=>lB (rdL (rdL Q.2.2 K.2.1) (w64 (Q.2.1-1))) (rdL (rdL Q.2.2 K.2.1) Q.2.1) uy ut W2 ) E) (qY E (yAB E) (bF (oN (eT (cS (cR (oY E (yMB E) (oN (eT ?_)))))))))
         rcases iOs h with⟨u2,h⟩|⟨u2,h⟩
         ·refine cT (vB u2) (cS ?_)
          refine aS 14 bW (by kernel_rfl) (by kernel_rfl) ?_
          refine qY E (yMS E) (qY E (yMI E) ?_)
          obtain⟨Y,h⟩:=gOs h
          refine qY E (yI iu (by decide) Y.1 Y.2 (RdL.row 1 E) (eL ao (NestP.hn d u)) E E) ?_
          refine qY E (yR (A:=(some ⟨b2,0,none⟩)) (j:=(Int.toNat K.2.1*1)) (v:=.slice ((rdL g K.2.1).1.1) ((rdL Q.2.2 K.2.1).length) ((rdL g K.2.1).1.2.2)) gM (RdL.row 1 E) E (ay ao Y.1 (ah Y.2 (NestP.hn d u)) (congrArg (fun n:Nat=>some (Value.slice (rdL g K.2.1).1.1 n (rdL g K.2.1).1.2.2)) (NestP.len d Y.1 (ah Y.2 u))))) (qY E (yMI E) (qY E (yMS E) (qY E (yMI E) ?_)))
          obtain⟨q,h⟩:=gOs h
          refine qY E (yI iu (by decide) q.1 q.2 (RdL.row 1 E) (eL ao (NestP.hn d u)) E E) ?_
          refine qY E (yR (A:=(some ⟨b2,0,none⟩)) (j:=(Int.toNat K.2.1*1)) (v:=.slice ((rdL g K.2.1).1.1) ((rdL Q.2.2 K.2.1).length) ((rdL g K.2.1).1.2.2)) gM (RdL.row 1 E) E (ay ao q.1 (ah q.2 (NestP.hn d u)) (congrArg (fun n:Nat=>some (Value.slice (rdL g K.2.1).1.1 n (rdL g K.2.1).1.2.2)) (NestP.len d q.1 (ah q.2 u))))) (qY E (yMI E) (qY E (ex E E) ?_))
          obtain⟨o2,h⟩:=gOs h
          refine qY E (yI bS (by decide) o2.1 o2.2 (NestL.rd (PvL.nestL d (PvL.inR (e:=3) (wb:=wb) (Hb:=Hb) (ys:=g)) (fun W2 D=>⟨(hB W2 D.below).1,(hB W2 D.below).2,D.mem (i:=2) E⟩)) q.1 (ah q.2 u)) (eL aB E) E E) ?_
          refine qY E (yR (A:=((rdL g K.2.1).1.1)) (j:=(Int.toNat (w64 (Q.2.1-1))*1)) (v:=vI (rdL (rdL Q.2.2 K.2.1) (w64 (Q.2.1-1)))) aK (NestL.rd (PvL.nestL d (PvL.inR (e:=3) (wb:=wb) (Hb:=Hb) (ys:=g)) (fun W2 D=>⟨(hB W2 D.below).1,(hB W2 D.below).2,D.mem (i:=2) E⟩)) q.1 (ah q.2 u)) E (ay aB o2.1 (ah o2.2 E) E)) ?_
          obtain⟨oX,h⟩:=gOs h
          refine qY E (yI bS (by decide) oX.1 oX.2 (NestL.rd (PvL.nestL d (PvL.inR (e:=3) (wb:=wb) (Hb:=Hb) (ys:=g)) (fun W2 D=>⟨(hB W2 D.below).1,(hB W2 D.below).2,D.mem (i:=2) E⟩)) Y.1 (ah Y.2 u)) (eL aB E) E E) ?_
          refine bF ?_
          refine cy E (mL 1 2 (by decide) (fun y z e=>by unfold SlInt_cells2;rw[e]) (ys:=g) (p:=K.2.1) px E E Y.1 (ah Y.2 (NestP.hn d u)) oX.1 (NestP.ltIn d (ah oX.2 E)) E E) ?_
          refine oN (eT (cR (oY E (yAB E) (oN (aw (eT (cR (oY E (yMI E) (oY E (aL E E) (oY E (yAI E) (oN ?_)))))))))))
          obtain rfl:=sI h
          exact eN ⟨_,(g.set (Int.toNat K.2.1) ((rdL g K.2.1).1,(rdL g K.2.1).2.set (Int.toNat Q.2.1) (rdL (rdL Q.2.2 K.2.1) (w64 (Q.2.1-1))))),(cY u),(NestP.setIn d Y.1 (ah Y.2 u)),E,(kp4 (kp4 (kp E)))⟩
         ·refine cF (vB u2) (cK (aw (eT (cR (oY E (yMI E) (oY E (aL E E) (oY E (yAI E) (oN ?_))))))))
          obtain rfl:=sI h
          exact eN ⟨_,g,u,d,E,(kp4 (kp4 (kp E)))⟩
        ·refine cF (vB u1) (aD (ai ?_))
         obtain rfl:=sI h
         exact av ⟨E,_,g,u,d,E,(kp4 (kp4 (kp E)))⟩
       ·intro e L tm hJ
        obtain⟨rfl,ua,u3,u4,u5,rfl,rfl⟩:=hJ
        refine⟨(by intro hc;cases hc),?_⟩
        refine ac (aw (eT (cR (oY E (yMI E) (oY E (aL E E) (oY E (yAI E) (oN ?_)))))))
        obtain rfl:=sI h
        exact eN ⟨_,u3,u4,u5,E,(kp4 (kp (kp (kp E))))⟩
      ·refine cF (vB u0) (aD (ai ?_))
       obtain rfl:=sI h
       exact av ⟨E,_,fn,fl,ft,E,(kp4 (kp (kp (kp E))))⟩
     ·intro e L tm hJ
      obtain⟨rfl,uz,u6,u8,u9,rfl,rfl⟩:=hJ
      refine⟨(by intro hc;cases hc),?_⟩
      refine ac (aw ?_)
      obtain rfl:=sI h
      exact eN ⟨_,u6,u8,u9,E,(kp4 E)⟩
   ·refine cF (vB ok) (aD (ai ?_))
    obtain rfl:=sI h
    exact av ⟨E,_,fD,fE,fG,E,(kp4 E)⟩
  ·intro e L tm hJ
   obtain⟨rfl,ui,fr,uf,ug,rfl,rfl⟩:=hJ
   refine⟨(by intro hc;cases hc),?_⟩
   refine ac (eT (cS (cR (oY E (yMS E) (oY E (yAS E) (oN (eT (ap ?_))))))))
   obtain rfl:=sI h
   exact am (.inl E) E (rVt (v:=.slice (some ⟨b2,0,none⟩) (Int.toNat p0.fPlaces) (Int.toNat p0.fPlaces)) E) (fun W2 D=>⟨(((some ⟨b2,0,none⟩),Int.toNat p0.fPlaces,Int.toNat p0.fPlaces),fr,inR 3 fr),⟨uf,ug,(PvL.inR (e:=3) (wb:=wb) (Hb:=Hb) (ys:=fr))⟩,E,D.pickL [1,2] (by decide) E⟩)
end Go.Proofs.YthndghnkebboaaaGreat
set_option maxHeartbeats 4000000
set_option maxRecDepth 100000
namespace Go.Proofs.YthndghnkebboaaaGreat
open Go.RowKit (Below)
attribute [local irreducible] OX QX CX EX OpY Calls CallsIn
theorem pU (p0:TR) (p1:Int) (res:Int) (h:jz p0 p1=some res) (W:World) (Ab:Option Addr) (g cb:Nat) (o:List (Hd × TT)) (d:g=p0.fTracks.length) (r:Rd W Ab g cb (encL TTrack_cells2 o)) (f:NestW W (fun z:TT=>z.fK) TSpan_cells o p0.fTracks) :
  Calls Tryz.prog 76 [.agg #[vI p0.fPlaces,.slice Ab g cb],vI p1].toArray W fun e W2=>e=.returned (vI res)∧Ext W W2 []:=by
 subst d
 unfold jz at h
 refine aj (m:=22) Tryz.func76 E E (nB E) (cS (cR ?_))
 refine aN [vI p0.fPlaces,.slice Ab p0.fTracks.length cb] E E E (fun O=>?_)
 refine oY E (yAI E) (oN (eT (cS (cS (cR (oY E (yAI E) (oN (eT (cB ?_)))))))))
 obtain⟨Q,M,h⟩:=bOs h
 refine a8 (fun(s:(Int × Int)) L tm=>∃(N:Nat→Value),L=[ak O 24 [vI p0.fPlaces,.slice Ab p0.fTracks.length cb]]∧tm=(upd (upd (upd (upd N 1 (vI p1)) 2 (.pointer (some ⟨O,0,none⟩))) 4 (vI s.1)) 5 (vI s.2))) 0 M ⟨_,E,(kp4 E)⟩ ?_ ?_
 ·rintro H L tm st ⟨I,rfl,rfl⟩ h
  unfold eE at h
  refine cS (cS (cR (oY E (yMI E) (oY E (yFA bU E) (oY E (yL 0 gv E E E) (oY E (bi (us:=[]) i6 E) (oY E (be E E) (oN (eT ?_)))))))))
  rcases iOs h with⟨w,h⟩|⟨w,h⟩
  ·refine cT (vB w) (cK (eT (cS (cB (cS (cR (oY E (yFA bU E) (oY E (yL 0 gv E E E) (oY E (yMI E) ?_)))))))))
   obtain⟨u,h⟩:=gOs h
   refine oY E (yI jE (by decide) u.1 u.2 (RdL.arg r) (eL au (NestP.hn f.p E)) E E) ?_
   refine oY E (yFR (A:=Ab) (j:=(Int.toNat H.2*6)) iU E) (oY E (yR (A:=Ab) (j:=((Int.toNat H.2*6)+0)) (v:=vI ((rdL p0.fTracks H.2).fID)) aK (RdL.arg r) E (eG au u.1 (ah u.2 (NestP.hn f.p E)) (congrArg (fun z:TT=>some (Value.int .i64 z.fID)) (NestP.snd f.p H.2)))) (oY E (yMI E) (oY E (cZ E E) (oN (eT ?_)))))
   rcases iOs h with⟨D,h⟩|⟨D,h⟩
   ·refine cT (vB D) (cS (cR (oY E (yMI E) (oY E (yAI E) (oN (eT (ap (ae (ab ?_)))))))))
    obtain rfl:=sI h
    exact av ⟨E,_,E,(kp4 E)⟩
   ·refine cF (vB D) (cK (aw (eT (cR (oY E (yMI E) (oY E (aL E E) (oY E (yAI E) (oN ?_))))))))
    obtain rfl:=sI h
    exact eN ⟨_,E,(kp4 E)⟩
  ·refine cF (vB w) (aD (ai ?_))
   obtain rfl:=sI h
   exact av ⟨E,_,E,(kp4 E)⟩
 ·intro e L tm hJ
  rcases Q with U|X
  ·dsimp only at h hJ
   obtain⟨rfl,K,rfl,rfl⟩:=hJ
   refine⟨(by intro hc;cases hc),?_⟩
   refine ae (ab ?_)
   obtain rfl:=sI h
   exact am (.inl E) E (rVt (v:=vI U.1) E) (fun W2 F=>⟨E,F.none⟩)
  ·dsimp only at h hJ
   obtain⟨rfl,G,rfl,rfl⟩:=hJ
   refine⟨(by intro hc;cases hc),?_⟩
   refine ac (eT (cS (cR (oY E (yAI E) (oN (eT (ap ?_)))))))
   obtain rfl:=sI h
   exact am (.inl E) E (rVt (v:=vI (-1)) E) (fun W2 F=>⟨E,F.none⟩)
theorem qS (p0:TT) (p1:Int) (res:Bool) (h:j9 p0 p1=some res) (W:World) (f:Option Addr) (r o:Nat) (G:r=p0.fK.length) (g:Rd W f r o (encL TSpan_cells p0.fK)) :
  Calls Tryz.prog 78 [.agg #[vI p0.fID,vI p0.fFrom,vI p0.fTo,vI p0.fLong,vI p0.fToll,.slice f r o],vI p1].toArray W fun e W2=>e=.returned (.bool res)∧Ext W W2 []:=by
 subst G
 unfold j9 at h
 refine aj (m:=29) Tryz.func78 E E (nB E) (cS (cR ?_))
 refine aN [vI p0.fID,vI p0.fFrom,vI p0.fTo,vI p0.fLong,vI p0.fToll,.slice f p0.fK.length o] E E E (fun X=>?_)
 refine oY E (yAB E) (oN (eT (cS (cS (cR (oY E (yAI E) (oN (eT (cB ?_)))))))))
 obtain⟨Y,I,h⟩:=bOs h
 refine a8 (fun(s:(Bool × Int)) L tm=>∃(O:Nat→Value),L=[ak X 120 [vI p0.fID,vI p0.fFrom,vI p0.fTo,vI p0.fLong,vI p0.fToll,.slice f p0.fK.length o]]∧tm=(upd (upd (upd (upd O 1 (vI p1)) 2 (.pointer (some ⟨X,0,none⟩))) 4 (.bool s.1)) 5 (vI s.2))) 0 I ⟨_,E,(kp4 E)⟩ ?_ ?_
 ·rintro d L tm st ⟨N,rfl,rfl⟩ h
  unfold iT at h
  refine cS (cS (cR (oY E (yMI E) (oY E (yFA f4 E) (oY E (yL 0 kM E E E) (oY E (bi (us:=[]) mY E) (oY E (be E E) (oN (eT ?_)))))))))
  rcases iOs h with⟨H,h⟩|⟨H,h⟩
  ·refine cT (vB H) (cK (eT (cS (cB (cS ?_)))))
   refine aS 15 bW (by kernel_rfl) (by kernel_rfl) ?_
   refine qY E (yMI E) (qY E (yFA f4 E) (qY E (yL 0 kM E E E) (qY E (yMI E) ?_)))
   obtain⟨w,h⟩:=gOs h
   refine qY E (yI kk (by decide) w.1 w.2 (RdL.arg g) (eL aG E) E E) ?_
   refine qY E (yFR (A:=f) (j:=(Int.toNat d.2*2)) gK E) (qY E (yR (A:=f) (j:=((Int.toNat d.2*2)+0)) (v:=vI ((rdL p0.fK d.2).fLo)) aK (RdL.arg g) E (eG aG w.1 (ah w.2 E) E)) (qY E (yFA f4 E) (qY E (yL 0 kM E E E) (qY E (yMI E) ?_))))
   obtain⟨D,h⟩:=gOs h
   refine qY E (yI kk (by decide) D.1 D.2 (RdL.arg g) (eL aG E) E E) ?_
   refine qY E (yFR (A:=f) (j:=(Int.toNat d.2*2)) fg E) (qY E (yR (A:=f) (j:=((Int.toNat d.2*2)+1)) (v:=vI ((rdL p0.fK d.2).fHi)) aK (RdL.arg g) E (eG aG D.1 (ah D.2 E) E)) ?_)
   obtain⟨Z,Q,h⟩:=bOs h
   refine qY E (yC [vI p1,vI ((rdL p0.fK d.2).fLo),vI ((rdL p0.fK d.2).fHi)] gE E (fun W2 F=>aT p1 ((rdL p0.fK d.2).fLo) ((rdL p0.fK d.2).fHi) Z Q W2 ) E) (qY E (yAB E) (bF (oN (eT (cS (cR (oY E (yMB E) (oN (eT ?_)))))))))
   rcases iOs h with⟨u,h⟩|⟨u,h⟩
   ·refine cT (vB u) (cS (cR (oY E (yAB E) (oN (eT (ap (ae (ab ?_))))))))
    obtain rfl:=sI h
    exact av ⟨E,_,E,(kp4 E)⟩
   ·refine cF (vB u) (cK (aw (eT (cR (oY E (yMI E) (oY E (aL E E) (oY E (yAI E) (oN ?_))))))))
    obtain rfl:=sI h
    exact eN ⟨_,E,(kp4 E)⟩
  ·refine cF (vB H) (aD (ai ?_))
   obtain rfl:=sI h
   exact av ⟨E,_,E,(kp4 E)⟩
 ·intro e L tm hJ
  rcases Y with U|V
  ·dsimp only at h hJ
   obtain⟨rfl,K,rfl,rfl⟩:=hJ
   refine⟨(by intro hc;cases hc),?_⟩
   refine ae (ab ?_)
   obtain rfl:=sI h
   exact am (.inl E) E (rVt (v:=.bool U.1) E) (fun W2 F=>⟨E,F.none⟩)
  ·dsimp only at h hJ
   obtain⟨rfl,M,rfl,rfl⟩:=hJ
   refine⟨(by intro hc;cases hc),?_⟩
   refine ac (eT (cS (cR (oY E (yAB E) (oN (eT (ap ?_)))))))
   obtain rfl:=sI h
   exact am (.inl E) E (rVt (v:=.bool true) E) (fun W2 F=>⟨E,F.none⟩)
theorem kK (p0:TR) (p1:Int) (p2:Int) (p3:Int) (p4:TJ) (res:Bool) (h:eo p0 p1 p2 p3 p4=some res) (W:World) (Ab:Option Addr) (T cb:Nat) (o:List (Hd × TT)) (l:T=p0.fTracks.length) (X:Rd W Ab T cb (encL TTrack_cells2 o)) (K:NestW W (fun z:TT=>z.fK) TSpan_cells o p0.fTracks) (M:Option Addr) (S Z:Nat) (t:S=p4.fLegs.length) (O:Rd W M S Z (encL TLeg_cells p4.fLegs)) :
  Calls Tryz.prog 21 [.agg #[vI p0.fPlaces,.slice Ab T cb],vI p1,vI p2,vI p3,.agg #[.slice M S Z,vI p4.fA,vI p4.fToll]].toArray W fun e W2=>e=.returned (.bool res)∧Ext W W2 []:=by
 subst l
 subst t
 unfold eo at h
 refine aj (m:=106) Tryz.func21 E E (nB E) (cS (cR ?_))
 refine aN [vI p0.fPlaces,.slice Ab p0.fTracks.length cb] E E E (fun x=>?_)
 refine aN [.slice M p4.fLegs.length Z,vI p4.fA,vI p4.fToll] E E E (fun a=>?_)
 refine oY E (yAB E) (oN (eT (cS (cR (oY E (yMI E) (oY E (yAI E) (oN (eT (cS (cR (oY E (yMI E) (oY E (yAI E) (oN (eT (cS (cR (oY E (yAI E) (oN (eT (cS (cS (cR (oY E (yAI E) (oN (eT (cB ?_))))))))))))))))))))))))))
 obtain⟨u5,y,h⟩:=bOs h
 refine a8 (fun(s:(Bool × Int × Int × Int × Int)) L tm=>∃(r:Nat→Value),L=[ak x 24 [vI p0.fPlaces,.slice Ab p0.fTracks.length cb],ak a 29 [.slice M p4.fLegs.length Z,vI p4.fA,vI p4.fToll]]∧tm=(upd (upd (upd (upd (upd (upd (upd (upd r 2 (vI p2)) 5 (.pointer (some ⟨x,0,none⟩))) 9 (.pointer (some ⟨a,0,none⟩))) 10 (.bool s.1)) 11 (vI s.2.1)) 12 (vI s.2.2.1)) 13 (vI s.2.2.2.1)) 14 (vI s.2.2.2.2))) 0 y ⟨_,E,(kp4 (kp4 E))⟩ ?_ ?_
 ·rintro u L tm st ⟨f3,rfl,rfl⟩ h
  unfold f0 at h
  refine cS (cS (cR (oY E (yMI E) (oY E (yFA lc E) (oY E (yL 1 sC E E E) (oY E (bi (us:=[]) us_27 E) (oY E (be E E) (oN (eT ?_)))))))))
  rcases iOs h with⟨i,h⟩|⟨i,h⟩
  ·refine cT (vB i) (cK (eT (cS (cB (cS ?_)))))
   refine aS 9 bW (by kernel_rfl) (by kernel_rfl) ?_
   refine qY E (yN 0 [vI p0.fPlaces,.slice Ab p0.fTracks.length cb] dG E E E) (qY E (yFA lc E) (qY E (yL 1 sC E E E) (qY E (yMI E) ?_)))
   obtain⟨n,h⟩:=gOs h
   refine qY E (yI sw (by decide) n.1 n.2 (RdL.arg O) (eL bo E) E E) ?_
   refine qY E (yFR (A:=M) (j:=(Int.toNat u.2.2.2.2*2)) tz E) (qY E (yR (A:=M) (j:=((Int.toNat u.2.2.2.2*2)+0)) (v:=vI ((rdL p4.fLegs u.2.2.2.2).fTrack)) aK (RdL.arg O) E (eG bo n.1 (ah n.2 E) E)) ?_)
   obtain⟨g,fr,h⟩:=bOs h
   refine qY E (yC [.agg #[vI p0.fPlaces,.slice Ab p0.fTracks.length cb],vI ((rdL p4.fLegs u.2.2.2.2).fTrack)] go_76 E (fun W2 Q=>pU p0 ((rdL p4.fLegs u.2.2.2.2).fTrack) g fr W2 Ab p0.fTracks.length cb o E ((RdL.arg X) W2 Q) (NestL.at (NestL.arg K) W2 Q)) E) (qY E (yAI E) (bF (oN (eT (cS (cS (cR (oY E (yMI E) (oY E (be E E) (oN (eT ?_)))))))))))
   rcases iOs h with⟨R,h⟩|⟨R,h⟩
   ·refine cT (vB R) (cS (cR (oY E (yAB E) (oN (eT (ap (ab (ae (ab ?_)))))))))
    obtain rfl:=sI h
    exact av ⟨E,_,E,(kp4 (kp4 E))⟩
   ·refine cF (vB R) (cK (eT (cS (cR (oY E (yFA bU E) (oY E (yL 0 gv E E E) (oY E (yMI E) ?_)))))))
    obtain⟨N,h⟩:=gOs h
    refine oY E (yI jE (by decide) N.1 N.2 (RdL.arg X) (eL au (NestP.hn K.p E)) E E) ?_
    refine oY E (yM (A:=Ab) (j:=(Int.toNat g*6)) [vI ((rdL p0.fTracks g).fID),vI ((rdL p0.fTracks g).fFrom),vI ((rdL p0.fTracks g).fTo),vI ((rdL p0.fTracks g).fLong),vI ((rdL p0.fTracks g).fToll),.slice ((rdL o g).1.1) ((rdL p0.fTracks g).fK.length) ((rdL o g).1.2.2)] gS (Nat.succ_pos _) (RdL.arg X) E (fN (bI (NestP.snd K.p g) (NestP.len K.p N.1 (ah N.2 E))).symm (bc au N.1 (ah N.2 (NestP.hn K.p E))))) ?_
    refine aF ip E (fun k=>?_)
    refine cy E (yS 2 [vI ((rdL p0.fTracks g).fID),vI ((rdL p0.fTracks g).fFrom),vI ((rdL p0.fTracks g).fTo),vI ((rdL p0.fTracks g).fLong),vI ((rdL p0.fTracks g).fToll),.slice ((rdL o g).1.1) ((rdL p0.fTracks g).fK.length) ((rdL o g).1.2.2)] nU E (nB E) E E E) (oN (eT (cS (cR (oY E (yFA lc E) (oY E (yL 1 sC E E E) (oY E (yMI E) ?_)))))))
    obtain⟨V,h⟩:=gOs h
    refine oY E (yI sw (by decide) V.1 V.2 (RdL.arg O) (eL bo E) E E) ?_
    refine oY E (yFR (A:=M) (j:=(Int.toNat u.2.2.2.2*2)) lI E) (oY E (yR (A:=M) (j:=((Int.toNat u.2.2.2.2*2)+1)) (v:=vI ((rdL p4.fLegs u.2.2.2.2).fHour)) aK (RdL.arg O) E (eG bo V.1 (ah V.2 E) E)) (oY E (yAI E) (oN (eT (cS (cR (oY E (yMI E) ?_)))))))
    obtain⟨U,b,h⟩:=bOs h
    refine oY E (yC [vI ((rdL p4.fLegs u.2.2.2.2).fHour)] rA E (fun W2 Q=>dt ((rdL p4.fLegs u.2.2.2.2).fHour) U b W2 ) E) (oY E (yAB E) (oN (eT (cS (cR (oY E (yN 2 [vI ((rdL p0.fTracks g).fID),vI ((rdL p0.fTracks g).fFrom),vI ((rdL p0.fTracks g).fTo),vI ((rdL p0.fTracks g).fLong),vI ((rdL p0.fTracks g).fToll),.slice ((rdL o g).1.1) ((rdL p0.fTracks g).fK.length) ((rdL o g).1.2.2)] gS E E E) (oY E (yMI E) ?_)))))))
    obtain⟨Y,c,h⟩:=bOs h
    refine oY E (yC [.agg #[vI ((rdL p0.fTracks g).fID),vI ((rdL p0.fTracks g).fFrom),vI ((rdL p0.fTracks g).fTo),vI ((rdL p0.fTracks g).fLong),vI ((rdL p0.fTracks g).fToll),.slice ((rdL o g).1.1) ((rdL p0.fTracks g).fK.length) ((rdL o g).1.2.2)],vI ((rdL p4.fLegs u.2.2.2.2).fHour)] go_78 E (fun W2 Q=>qS (TT.mk ((rdL p0.fTracks g).fID) ((rdL p0.fTracks g).fFrom) ((rdL p0.fTracks g).fTo) ((rdL p0.fTracks g).fLong) ((rdL p0.fTracks g).fToll) ((rdL p0.fTracks g).fK)) ((rdL p4.fLegs u.2.2.2.2).fHour) Y c W2 ((rdL o g).1.1) ((rdL p0.fTracks g).fK.length) ((rdL o g).1.2.2) E ((NestL.rd (NestL.arg K) N.1 (ah N.2 E)) W2 Q)) E) (oY E (yAB E) (oN (eT (cS (cS (cR (oY E (yFA ii E) (oY E (yL 2 aK E E E) (oY E (yMI E) (oY E (cJ E E) (oY E (yMB E) ?_)))))))))))
    refine oJ 3 (fun r=>(upd (upd (upd (upd (upd (upd (upd (upd (upd (upd (upd (upd (upd (upd (upd (upd r 2 (vI p2)) 5 (.pointer (some ⟨x,0,none⟩))) 9 (.pointer (some ⟨a,0,none⟩))) 10 (.bool u.1)) 11 (vI u.2.1)) 12 (vI u.2.2.1)) 13 (vI u.2.2.2.1)) 14 (vI u.2.2.2.2)) 26 (.bool (decide (u.2.2.2.2<(p4.fLegs.length:Int))))) 15 (vI g)) 38 (.bool (decide (g<0)))) 16 (.pointer (some ⟨k,0,none⟩))) 17 (vI ((rdL p4.fLegs u.2.2.2.2).fHour))) 18 (.bool U)) 19 (.bool Y)) 62 (.bool ((((rdL p0.fTracks g).fFrom) !=u.2.1)||(!U))))) (fun r=>?_) (fun key=>?_)
    ·refine oY E (yMB E) ?_
     refine oJ 3 (fun r=>(upd (upd (upd (upd (upd (upd (upd (upd (upd (upd (upd (upd (upd (upd (upd (upd r 2 (vI p2)) 5 (.pointer (some ⟨x,0,none⟩))) 9 (.pointer (some ⟨a,0,none⟩))) 10 (.bool u.1)) 11 (vI u.2.1)) 12 (vI u.2.2.1)) 13 (vI u.2.2.2.1)) 14 (vI u.2.2.2.2)) 26 (.bool (decide (u.2.2.2.2<(p4.fLegs.length:Int))))) 15 (vI g)) 38 (.bool (decide (g<0)))) 16 (.pointer (some ⟨k,0,none⟩))) 17 (vI ((rdL p4.fLegs u.2.2.2.2).fHour))) 18 (.bool U)) 19 (.bool Y)) 66 (.bool (((((rdL p0.fTracks g).fFrom) !=u.2.1)||(!U))||(!Y))))) (fun r=>?_) (fun key=>?_)
     ·refine oY E (yMB E) ?_
      refine oJ 4 (fun r=>(upd (upd (upd (upd (upd (upd (upd (upd (upd (upd (upd (upd (upd (upd (upd (upd r 2 (vI p2)) 5 (.pointer (some ⟨x,0,none⟩))) 9 (.pointer (some ⟨a,0,none⟩))) 10 (.bool u.1)) 11 (vI u.2.1)) 12 (vI u.2.2.1)) 13 (vI u.2.2.2.1)) 14 (vI u.2.2.2.2)) 26 (.bool (decide (u.2.2.2.2<(p4.fLegs.length:Int))))) 15 (vI g)) 38 (.bool (decide (g<0)))) 16 (.pointer (some ⟨k,0,none⟩))) 17 (vI ((rdL p4.fLegs u.2.2.2.2).fHour))) 18 (.bool U)) 19 (.bool Y)) 71 (.bool ((((((rdL p0.fTracks g).fFrom) !=u.2.1)||(!U))||(!Y))||(decide ((rdL p4.fLegs u.2.2.2.2).fHour<u.2.2.1)))))) (fun r=>?_) (fun key=>?_)
      ·refine oN (eT ?_)
       rcases iOs h with⟨q,h⟩|⟨q,h⟩
       ·refine cT (vB q) (cS (cR (oY E (yAB E) (oN (eT (ap (ab (ae (ab (aQ 2 ?_))))))))))
        obtain rfl:=sI h
        exact av ⟨E,_,E,(kp4 (kp4 E))⟩
       ·refine cF (vB q) (cK (eT (cS (cR (oY E (yFA gD E) (oY E (yL 2 aK E E E) (oY E (yAI E) (oN (eT (cS (cR (oY E (yMI E) (oY E (yFA f5 E) (oY E (yL 2 aK E E E) (oY E (aL E E) (oY E (yAI E) (oN (eT (cR (oY E (yMI E) (oY E (yFA gb E) (oY E (yL 2 aK E E E) (oY E (aL E E) (oY E (y_min E E) (oY E (yAI E) (oN (aw (eT (cR (oY E (yMI E) (oY E (aL E E) (oY E (yAI E) (oN (aQ 2 ?_))))))))))))))))))))))))))))))))))
        obtain rfl:=sI h
        exact eN ⟨_,E,(kp4 (kp4 E))⟩
      ·rcases ar (((((rdL p0.fTracks g).fFrom) !=u.2.1)||(!U))||(!Y))with D|D
       ·refine oSk (sF E E E E D) (oSk (sF E E E E D) (oSk (sF E E E E D) (oY E (ad (vB D) E) ?_)))
        exact key _ _ (keep (keep (keep (keep (keep (keep (keep (keep (keep (keep (keep (keep (keep (keep (keep (keep E E) E) E) E) E) E) E) E) E) E) E) E) E) E) E) (vB (iQ D)))
       ·refine oY (sT E E E E D) (yMI E) (oY (sT E E E E D) (yMI E) (oY (sT E E E E D) (be E E) (oY E (ag (vB D) E) ?_)))
        exact key _ _ (keep (keep (keep (keep (keep (keep (keep (keep (keep (keep (keep (keep (keep (keep (keep (keep E E) E) E) E) E) E) E) E) E) E) E) E) E) E) E) (vB (iR D)))
     ·rcases ar ((((rdL p0.fTracks g).fFrom) !=u.2.1)||(!U))with F|F
      ·refine oSk (sF E E E E F) (oSk (sF E E E E F) (oY E (ad (vB F) E) ?_))
       exact key _ _ (keep (keep (keep (keep (keep (keep (keep (keep (keep (keep (keep (keep (keep (keep (keep (keep E E) E) E) E) E) E) E) E) E) E) E) E) E) E) E) (vB (iQ F)))
      ·refine oY (sT E E E E F) (yMB E) (oY (sT E E E E F) (bD E) (oY E (ag (vB F) E) ?_))
       exact key _ _ (keep (keep (keep (keep (keep (keep (keep (keep (keep (keep (keep (keep (keep (keep (keep (keep E E) E) E) E) E) E) E) E) E) E) E) E) E) E) E) (vB (iR F)))
    ·rcases ar (((rdL p0.fTracks g).fFrom) !=u.2.1)with G|G
     ·refine oSk (sF E E E E G) (oSk (sF E E E E G) (oY E (ad (vB G) E) ?_))
      exact key _ _ (keep (keep (keep (keep (keep (keep (keep (keep (keep (keep (keep (keep (keep (keep (keep (keep E E) E) E) E) E) E) E) E) E) E) E) E) E) E) E) (vB (iQ G)))
     ·refine oY (sT E E E E G) (yMB E) (oY (sT E E E E G) (bD E) (oY E (ag (vB G) E) ?_))
      exact key _ _ (keep (keep (keep (keep (keep (keep (keep (keep (keep (keep (keep (keep (keep (keep (keep (keep E E) E) E) E) E) E) E) E) E) E) E) E) E) E) E) (vB (iR G)))
  ·refine cF (vB i) (aD (ai ?_))
   obtain rfl:=sI h
   exact av ⟨E,_,E,(kp4 (kp4 E))⟩
 ·intro e L tm hJ
  rcases u5 with fd|f
  ·dsimp only at h hJ
   obtain⟨rfl,f1,rfl,rfl⟩:=hJ
   refine⟨(by intro hc;cases hc),?_⟩
   refine ae (ab ?_)
   obtain rfl:=sI h
   exact am (.inl E) E (rVt (v:=.bool fd.1) E) (fun W2 Q=>⟨E,Q.none⟩)
  ·dsimp only at h hJ
   obtain⟨rfl,f2,rfl,rfl⟩:=hJ
   refine⟨(by intro hc;cases hc),?_⟩
   refine ac (eT (cS (cR (oY E (yMI E) (oY E (yMI E) (oY E (cZ E E) (oY E (yMB E) ?_)))))))
   refine oJ 5 (fun r=>(upd (upd (upd (upd (upd r 9 (.pointer (some ⟨a,0,none⟩))) 10 (.bool f.1)) 12 (vI f.2.2.1)) 13 (vI f.2.2.2.1)) 91 (.bool ((f.2.1==p2)&&(f.2.2.1==p4.fA))))) (fun r=>?_) (fun key=>?_)
   ·refine oY E (yMB E) ?_
    refine oJ 3 (fun r=>(upd (upd (upd (upd r 9 (.pointer (some ⟨a,0,none⟩))) 10 (.bool f.1)) 13 (vI f.2.2.2.1)) 95 (.bool (((f.2.1==p2)&&(f.2.2.1==p4.fA))&&(decide (f.2.2.1≤16384)))))) (fun r=>?_) (fun key=>?_)
    ·refine oY E (yMB E) ?_
     refine oJ 5 (fun r=>(upd (upd (upd r 10 (.bool f.1)) 13 (vI f.2.2.2.1)) 101 (.bool ((((f.2.1==p2)&&(f.2.2.1==p4.fA))&&(decide (f.2.2.1≤16384)))&&(f.2.2.2.1==p4.fToll))))) (fun r=>?_) (fun key=>?_)
     ·refine oY E (yMB E) ?_
      refine oJ 3 (fun r=>(upd (upd r 10 (.bool f.1)) 105 (.bool (((((f.2.1==p2)&&(f.2.2.1==p4.fA))&&(decide (f.2.2.1≤16384)))&&(f.2.2.2.1==p4.fToll))&&(decide (f.2.2.2.1≤60)))))) (fun r=>?_) (fun key=>?_)
      ·refine oY E (yAB E) (oN (eT (ap ?_)))
       obtain rfl:=sI h
       exact am (.inl E) E (rVt (v:=.bool (((((f.2.1==p2)&&(f.2.2.1==p4.fA))&&(decide (f.2.2.1≤16384)))&&(f.2.2.2.1==p4.fToll))&&(decide (f.2.2.2.1≤60)))) E) (fun W2 Q=>⟨E,Q.none⟩)
      ·rcases ar ((((f.2.1==p2)&&(f.2.2.1==p4.fA))&&(decide (f.2.2.1≤16384)))&&(f.2.2.2.1==p4.fToll))with H|H
       ·refine oY (sT E E E E H) (yMI E) (oY (sT E E E E H) (gV E E) (oY E (ad (vB H) E) ?_))
        exact key _ _ (keep (keep E E) (vB (fF H)))
       ·refine oSk (sF E E E E H) (oSk (sF E E E E H) (oY E (ag (vB H) E) ?_))
        exact key _ _ (keep (keep E E) (vB (fy H)))
     ·rcases ar (((f.2.1==p2)&&(f.2.2.1==p4.fA))&&(decide (f.2.2.1≤16384)))with d|d
      ·refine oY (sT E E E E d) (yMI E) (oY (sT E E E E d) (yFA iN E) (oY (sT E E E E d) (yL 1 aK E E E) (oY (sT E E E E d) (cZ E E) (oY E (ad (vB d) E) ?_))))
       exact key _ _ (keep (keep (keep E E) E) (vB (fF d)))
      ·refine oSk (sF E E E E d) (oSk (sF E E E E d) (oSk (sF E E E E d) (oSk (sF E E E E d) (oY E (ag (vB d) E) ?_))))
       exact key _ _ (keep (keep (keep E E) E) (vB (fy d)))
    ·rcases ar ((f.2.1==p2)&&(f.2.2.1==p4.fA))with I|I
     ·refine oY (sT E E E E I) (yMI E) (oY (sT E E E E I) (gV E E) (oY E (ad (vB I) E) ?_))
      exact key _ _ (keep (keep (keep (keep E E) E) E) (vB (fF I)))
     ·refine oSk (sF E E E E I) (oSk (sF E E E E I) (oY E (ag (vB I) E) ?_))
      exact key _ _ (keep (keep (keep (keep E E) E) E) (vB (fy I)))
   ·rcases ar (f.2.1==p2)with w|w
    ·refine oY (sT E E E E w) (yMI E) (oY (sT E E E E w) (yFA gN E) (oY (sT E E E E w) (yL 1 aK E E E) (oY (sT E E E E w) (cZ E E) (oY E (ad (vB w) E) ?_))))
     exact key _ _ (keep (keep (keep (keep (keep E E) E) E) E) (vB (fF w)))
    ·refine oSk (sF E E E E w) (oSk (sF E E E E w) (oSk (sF E E E E w) (oSk (sF E E E E w) (oY E (ag (vB w) E) ?_))))
     exact key _ _ (keep (keep (keep (keep (keep E E) E) E) E) (vB (fy w)))
end Go.Proofs.YthndghnkebboaaaGreat
set_option maxHeartbeats 4000000
set_option maxRecDepth 100000
namespace Go.Proofs.YthndghnkebboaaaGreat
open Go.RowKit (Below)
attribute [local irreducible] OX QX CX EX OpY Calls CallsIn
theorem lq (p0:(List Int)) (res:(List TPoint)) (h:fi p0=some res) (W:World) (Aa:Option Addr) (H ca:Nat) (X:H=p0.length) (g:Rd W Aa H ca (encL cI p0)) :
  Calls Tryz.prog 74 [.slice Aa H ca].toArray W fun e W2=>∃x:Option Addr × Nat × Nat,x.2.1=res.length∧e=.returned (.slice x.1 x.2.1 x.2.2)∧Ext W W2 [aR x.1 x.2.2 37 2 x.2.1 (encL fp res)]:=by
 subst X
 unfold fi at h
 refine aj (m:=43) Tryz.func74 E E (nB E) (cS (cR (oY E (yAS E) (oN (eT (cS (cR (oY E (yAS E) (oN (eT (cS (cS (cR (oY E (yAI E) (oN (eT (cB ?_)))))))))))))))))
 obtain⟨i,Z,h⟩:=bOs h
 refine dr 37 2 ?_
 refine bj (fun(s:(Int × (List TPoint))) L tm=>∃(w:Nat→Value) (Q:Option Addr) (U:Nat) (I:Nat),I=s.2.length∧L=[aR Q U 37 2 I (encL fp s.2)]∧tm=(upd (upd (upd (upd w 0 (.slice Aa p0.length ca)) 2 (.slice none 0 0)) 3 (.slice Q I U)) 4 (vI s.1))) 0 Z ⟨_,none,0,0,E,E,(kp4 E)⟩ ?_ ?_
 ·rintro r L tm st ⟨S,u,d,q,rfl,rfl,rfl⟩ h
  unfold d9 at h
  refine cS (cS (cR (oY E (yMI E) (oY E (yMS E) (oY E (bi (us:=[]) cQ E) (oY E (be E E) (oN (eT ?_))))))))
  rcases iOs h with⟨Y,h⟩|⟨Y,h⟩
  ·refine cT (vB Y) (cK (eT (cS (cB (cS ?_)))))
   refine aS 22 bW (by kernel_rfl) (by kernel_rfl) ?_
   refine qY E (yMS E) (qY E (yMI E) ?_)
   obtain⟨O,h⟩:=gOs h
   refine qY E (yI bS (by decide) O.1 O.2 (RdL.arg g) (eL aB E) E E) ?_
   refine qY E (yR (A:=Aa) (j:=(Int.toNat r.1*1)) (v:=vI (rdL p0 r.1)) aK (RdL.arg g) E (ay aB O.1 (ah O.2 E) E)) (qY E (lu E E) (qY E (yMB E) ?_))
   obtain⟨k,p,h⟩:=bOs h
   refine qJ 16 (fun w=>(upd (upd (upd (upd (upd (upd w 0 (.slice Aa p0.length ca)) 2 (.slice none 0 0)) 3 (.slice u r.2.length d)) 4 (vI r.1)) 8 (.bool (decide (r.1<(p0.length:Int))))) 32 (.bool k))) (fun w=>?_) (fun key=>?_)
   ·refine bF (oN (eT ?_))
    rcases iOs h with⟨K,h⟩|⟨K,h⟩
    ·refine cT (vB K) (cR (oY E (yMS E) (oY E (yMI E) (oY E (yMS E) (oY E (yMI E) ?_)))))
     obtain⟨D,h⟩:=gOs h
     refine oY E (yI bS (by decide) D.1 D.2 (RdL.arg g) (eL aB E) E E) ?_
     refine oY E (yR (A:=Aa) (j:=(Int.toNat r.1*1)) (v:=vI (rdL p0 r.1)) aK (RdL.arg g) E (ay aB D.1 (ah D.2 E) E)) ?_
     refine oY E (bn [vI r.1,vI (rdL p0 r.1)] [(0,1),(1,1)] ust_37 ze_37 (by kernel_rfl)) ?_
     refine aP 1 (encL fp [(TPoint.mk r.1 (rdL p0 r.1))]) _ mc_37_1 us_109 ze_37 by_37 (by decide) (by decide) (by kernel_rfl) (eL di E) E (fun y=>?_)
     obtain⟨V,h⟩:=gOs h
     refine cx 0 us_109 ze_37 by_37 E E E (RdL.row 1 E) (eL di E) (ef n0 _) (eR V (by decide)) E (fun n l=>?_)
     refine oY E (yAS E) (oN (aw (eT (cR (oY E (yMI E) (oY E (aL E E) (oY E (yAI E) (oN (aQ 1 ?_)))))))))
     obtain rfl:=sI h
     exact eN ⟨_,n,l,(r.2.length+1),(jM E E),E,(kp4 E)⟩
    ·refine cF (vB K) (cK (aw (eT (cR (oY E (yMI E) (oY E (aL E E) (oY E (yAI E) (oN ?_))))))))
     obtain rfl:=sI h
     exact eN ⟨_,u,d,r.2.length,E,E,(kp4 E)⟩
   ·clear h;rcases iOs p with⟨o,h⟩|⟨o,h⟩
    ·refine qY (sT E E E E o) (yMI E) (qY (sT E E E E o) (cZ E E) (qY (sT E E E E o) (yMB E) ?_))
     obtain⟨t,T,h⟩:=bOs h
     refine qJ 12 (fun w=>(upd (upd (upd (upd (upd (upd (upd w 0 (.slice Aa p0.length ca)) 2 (.slice none 0 0)) 3 (.slice u r.2.length d)) 4 (vI r.1)) 8 (.bool (decide (r.1<(p0.length:Int))))) 16 (.bool (decide (0≤(rdL p0 r.1))))) 31 (.bool t))) (fun w=>?_) (fun key=>?_)
     ·refine qY E (ad (vB o) E) ?_
      obtain rfl:=sI h
      exact key _ _ (kp4 (kp (kp E)))
     ·clear h;rcases iOs T with⟨f,h⟩|⟨f,h⟩
      ·refine aa (sF E E E E f) (aa (sF E E E E f) (aa (sF E E E E f) (aa (sF E E E E f) (aa (sF E E E E f) (aa (sF E E E E f) (aa (sF E E E E f) (aa (sF E E E E f) (aa (sF E E E E f) (aa (sF E E E E f) (aa (sF E E E E f) (qY (sT E E E E o) (ad (vB f) E) ?_)))))))))))
       obtain rfl:=sI h
       exact key _ _ (kp4 (kp (kp (kp E))))
      ·refine qY (sT E E E E f) (yMS E) (qY (sT E E E E f) (yMI E) (qY (sT E E E E f) (ex E E) (qY (sT E E E E f) (y_max E E) ?_)))
       obtain⟨F,h⟩:=gOs h
       refine qY (sT E E E E f) (yI bS (by decide) F.1 F.2 (RdL.arg g) (eL aB E) E E) ?_
       refine qY (sT E E E E f) (yR (A:=Aa) (j:=(Int.toNat (max 0 (w64 (r.1-1)))*1)) (v:=vI (rdL p0 (max 0 (w64 (r.1-1))))) aK (RdL.arg g) E (ay aB F.1 (ah F.2 E) E)) (qY (sT E E E E f) (yMS E) (qY (sT E E E E f) (yMI E) ?_))
       obtain⟨G,h⟩:=gOs h
       refine qY (sT E E E E f) (yI bS (by decide) G.1 G.2 (RdL.arg g) (eL aB E) E E) ?_
       refine qY (sT E E E E f) (yR (A:=Aa) (j:=(Int.toNat r.1*1)) (v:=vI (rdL p0 r.1)) aK (RdL.arg g) E (ay aB G.1 (ah G.2 E) E)) (qY (sT E E E E f) (cJ E E) (qY (sT E E E E o) (ag (vB f) E) ?_))
       obtain rfl:=sI h
       exact key _ _ (kp4 (kp (kp (kp E))))
    ·refine aa (sF E E E E o) (aa (sF E E E E o) (aa (sF E E E E o) (aa E (aa E (aa E (aa E (aa E (aa E (aa E (aa E (aa E (aa E (aa E (aa (sF E E E E o) (qY E (ag (vB o) E) ?_)))))))))))))))
     obtain rfl:=sI h
     exact key _ _ (kp4 (kp (kp E)))
  ·refine cF (vB Y) (aD (ai ?_))
   obtain rfl:=sI h
   exact av ⟨E,_,u,d,r.2.length,E,E,(kp4 E)⟩
 ·intro e L tm hJ
  obtain⟨rfl,R,M,N,a,rfl,rfl,rfl⟩:=hJ
  refine⟨(by intro hc;cases hc),?_⟩
  refine ac (eT (cS (cR (oY E (yMS E) (oY E (yAS E) (oN (eT (ap ?_))))))))
  obtain rfl:=sI h
  exact am (.inl E) E (rVt (v:=.slice M i.2.length N) E) (fun W2 z=>⟨(M,i.2.length,N),E,E,(z.pick 0 E)⟩)
end Go.Proofs.YthndghnkebboaaaGreat
set_option maxHeartbeats 4000000
set_option maxRecDepth 100000
namespace Go.Proofs.YthndghnkebboaaaGreat
open Go.RowKit (Below)
attribute [local irreducible] OX QX CX EX OpY Calls CallsIn
theorem pX (p0:TR) (p1:Int) (p2:Int) (p3:TTimes) (res:Bool) (h:jy p0 p1 p2 p3=some res) (W:World) (Ab:Option Addr) (fd cb:Nat) (F:List (Hd × TT)) (g2:fd=p0.fTracks.length) (fD:Rd W Ab fd cb (encL TTrack_cells2 F)) (S:NestW W (fun z:TT=>z.fK) TSpan_cells F p0.fTracks) (X:Option Addr) (fE R:Nat) (g:List (Hd × (List Int))) (g3:fE=p3.fH.length) (V:Rd W X fE R (encL SlInt_cells2 g)) (o:NestW W (fun z:(List Int)=>z) cI g p3.fH) :
  Calls Tryz.prog 114 [.agg #[vI p0.fPlaces,.slice Ab fd cb],vI p1,vI p2,.agg #[.slice X fE R]].toArray W fun e W2=>e=.returned (.bool res)∧Ext W W2 []:=by
 subst g2
 subst g3
 unfold jy at h
 refine aj (m:=157) Tryz.func114 E E (nB E) (cS (cR ?_))
 refine aN [vI p0.fPlaces,.slice Ab p0.fTracks.length cb] E E E (fun t=>?_)
 refine aN [.slice X p3.fH.length R] E E E (fun a=>?_)
 refine oY E (yAB E) (oN (eT (cS (cS (cR (oY E (yFA dw E) (oY E (yL 1 km E E E) (oY E (bi (us:=[]) rk E) (oY E (yFA dW E) (oY E (yL 0 aK E E E) (oY E (cJ E E) (oN (eT ?_)))))))))))))
 rcases iOs h with⟨g4,h⟩|⟨g4,h⟩
 ·refine cT (vB g4) (cS (cR (oY E (yAB E) (oN (eT (ap (ab ?_)))))))
  obtain rfl:=sI h
  exact am (.inl E) E (rVt (v:=.bool false) E) (fun W2 q=>⟨E,q.none⟩)
 ·refine cF (vB g4) (cK (eT (cS (cS (cR (oY E (yAI E) (oN (eT (cB ?_)))))))))
  obtain⟨u6,o0,h⟩:=bOs h
  refine a8 (fun(s:(Bool × Int)) L tm=>∃(w:Nat→Value),L=[ak t 24 [vI p0.fPlaces,.slice Ab p0.fTracks.length cb],ak a 87 [.slice X p3.fH.length R]]∧tm=(upd (upd (upd (upd (upd (upd w 1 (vI p1)) 2 (vI p2)) 4 (.pointer (some ⟨t,0,none⟩))) 7 (.pointer (some ⟨a,0,none⟩))) 8 (.bool s.1)) 9 (vI s.2))) 0 o0 ⟨_,E,(kp4 (kp (kp E)))⟩ ?_ ?_
  ·rintro r L tm st ⟨u4,rfl,rfl⟩ h
   unfold fX at h
   refine cS (cS (cR (oY E (yMI E) (oY E (yFA dW E) (oY E (yL 0 aK E E E) (oY E (be E E) (oN (eT ?_))))))))
   rcases iOs h with⟨gf,h⟩|⟨gf,h⟩
   ·refine cT (vB gf) (cK (eT (cS (cB (cS (cR (oY E (yFA dw E) (oY E (yL 1 km E E E) (oY E (yMI E) ?_)))))))))
    obtain⟨D,h⟩:=gOs h
    refine oY E (yI iu (by decide) D.1 D.2 (RdL.arg V) (eL ao (NestP.hn o.p E)) E E) ?_
    refine oY E (yR (A:=X) (j:=(Int.toNat r.2*1)) (v:=.slice ((rdL g r.2).1.1) ((rdL p3.fH r.2).length) ((rdL g r.2).1.2.2)) gM (RdL.arg V) E (ay ao D.1 (ah D.2 (NestP.hn o.p E)) (congrArg (fun n:Nat=>some (Value.slice (rdL g r.2).1.1 n (rdL g r.2).1.2.2)) (NestP.len o.p D.1 (ah D.2 E))))) (oY E (yAS E) (oN (eT (cS (cS (cR (oY E (yMS E) (oY E (bi (us:=[]) cQ E) (oY E (cJ E E) (oN (eT ?_)))))))))))
    rcases iOs h with⟨go,h⟩|⟨go,h⟩
    ·refine cT (vB go) (cS (cR (oY E (yAB E) (oN (eT (ap (ab (ae (ab ?_)))))))))
     obtain rfl:=sI h
     exact av ⟨E,_,E,(kp4 (kp (kp E)))⟩
    ·refine cF (vB go) (cK (eT (cS (cR (oY E (yAI E) (oN (eT (cB ?_))))))))
     obtain⟨u5,o1,h⟩:=bOs h
     refine a8 (fun(s:(Bool × Int)) L tm=>∃(w:Nat→Value),L=[ak t 24 [vI p0.fPlaces,.slice Ab p0.fTracks.length cb],ak a 87 [.slice X p3.fH.length R]]∧tm=(upd (upd (upd (upd (upd (upd (upd (upd (upd (upd w 1 (vI p1)) 2 (vI p2)) 4 (.pointer (some ⟨t,0,none⟩))) 7 (.pointer (some ⟨a,0,none⟩))) 8 (.bool s.1)) 9 (vI r.2)) 27 (.bool (decide (r.2<p0.fPlaces)))) 10 (.slice ((rdL g r.2).1.1) ((rdL p3.fH r.2).length) ((rdL g r.2).1.2.2))) 37 (.bool ((((rdL p3.fH r.2).length:Nat):Int) !=61))) 11 (vI s.2))) 2 o1 ⟨_,E,(kp4 (kp4 (kp (kp E))))⟩ ?_ ?_
     ·rintro d L tm st ⟨o2,rfl,rfl⟩ h
      unfold dv at h
      refine cS (cS (cR (oY E (yMI E) (oY E (yMS E) (oY E (bi (us:=[]) cQ E) (oY E (be E E) (oN (eT ?_))))))))
      rcases iOs h with⟨fG,h⟩|⟨fG,h⟩
      ·refine cT (vB fG) (cK (eT (cS (cB (cS (cR (oY E (yMS E) (oY E (yMI E) ?_))))))))
       obtain⟨k,h⟩:=gOs h
       refine oY E (yI bS (by decide) k.1 k.2 (NestL.rd (NestL.arg o) D.1 (ah D.2 E)) (eL aB E) E E) ?_
       refine oY E (yR (A:=((rdL g r.2).1.1)) (j:=(Int.toNat d.2*1)) (v:=vI (rdL (rdL p3.fH r.2) d.2)) aK (NestL.rd (NestL.arg o) D.1 (ah D.2 E)) E (ay aB k.1 (ah k.2 E) E)) ?_
       obtain⟨l,oX,h⟩:=bOs h
       refine oY E (yC [vI (rdL (rdL p3.fH r.2) d.2),vI (-1),vI 16384] gE E (fun W2 q=>aT (rdL (rdL p3.fH r.2) d.2) (-1) 16384 l oX W2 ) E) (oY E (yAB E) (oN (eT (cS ?_))))
       refine aS 55 bW (by kernel_rfl) (by kernel_rfl) ?_
       refine qY E (yMB E) (qY E (bD E) (qY E (yMB E) ?_))
       obtain⟨ft,oq,h⟩:=bOs h
       refine qJ 19 (fun w=>(upd (upd (upd (upd (upd (upd (upd (upd (upd (upd (upd (upd (upd w 1 (vI p1)) 2 (vI p2)) 4 (.pointer (some ⟨t,0,none⟩))) 7 (.pointer (some ⟨a,0,none⟩))) 8 (.bool d.1)) 9 (vI r.2)) 27 (.bool (decide (r.2<p0.fPlaces)))) 10 (.slice ((rdL g r.2).1.1) ((rdL p3.fH r.2).length) ((rdL g r.2).1.2.2))) 37 (.bool ((((rdL p3.fH r.2).length:Nat):Int) !=61))) 11 (vI d.2)) 41 (.bool (decide (d.2<(((rdL p3.fH r.2).length:Nat):Int))))) 12 (.bool l)) 70 (.bool ft))) (fun w=>?_) (fun key=>?_)
       ·refine qY E (yMB E) ?_
        obtain⟨u7,op,h⟩:=bOs h
        refine qJ 32 (fun w=>(upd (upd (upd (upd (upd (upd (upd (upd (upd (upd (upd (upd (upd w 1 (vI p1)) 2 (vI p2)) 4 (.pointer (some ⟨t,0,none⟩))) 7 (.pointer (some ⟨a,0,none⟩))) 8 (.bool d.1)) 9 (vI r.2)) 27 (.bool (decide (r.2<p0.fPlaces)))) 10 (.slice ((rdL g r.2).1.1) ((rdL p3.fH r.2).length) ((rdL g r.2).1.2.2))) 37 (.bool ((((rdL p3.fH r.2).length:Nat):Int) !=61))) 11 (vI d.2)) 41 (.bool (decide (d.2<(((rdL p3.fH r.2).length:Nat):Int))))) 12 (.bool l)) 103 (.bool u7))) (fun w=>?_) (fun key=>?_)
        ·refine bF (oN (eT ?_))
         rcases iOs h with⟨fT,h⟩|⟨fT,h⟩
         ·refine cT (vB fT) (cS (cR (oY E (yAB E) (oN (eT (ap (ae (ab ?_))))))))
          obtain rfl:=sI h
          exact av ⟨E,_,E,(kp4 (kp4 (kp (kp E))))⟩
         ·refine cF (vB fT) (cK (aw (eT (cR (oY E (yMI E) (oY E (aL E E) (oY E (yAI E) (oN ?_))))))))
          obtain rfl:=sI h
          exact eN ⟨_,E,(kp4 (kp4 (kp (kp E))))⟩
        ·clear h;rcases iOs op with⟨I,h⟩|⟨I,h⟩
         ·refine aa (sF E E E E I) (aa (sF E E E E I) (aa (sF E E E E I) (aa E (aa E (aa E (aa E (aa E (aa E (aa E (aa (sF E E E E I) (aa (sF E E E E I) (aa E (aa E (aa E (aa E (aa E (aa E (aa E (aa E (aa E (aa E (aa E (aa E (aa E (aa E (aa E (aa E (aa E (aa E (aa (sF E E E E I) (qY E (ad (vB I) E) ?_)))))))))))))))))))))))))))))))
          obtain rfl:=sI h
          exact key _ _ (kp4 (kp4 (kp4 (kp E))))
         ·refine qY (sT E E E E I) (yMI E) (qY (sT E E E E I) (eu E E) (qY (sT E E E E I) (yMB E) ?_))
          obtain⟨om,ot,h⟩:=bOs h
          refine qJ 8 (fun w=>(upd (upd (upd (upd (upd (upd (upd (upd (upd (upd (upd (upd (upd (upd w 1 (vI p1)) 2 (vI p2)) 4 (.pointer (some ⟨t,0,none⟩))) 7 (.pointer (some ⟨a,0,none⟩))) 8 (.bool d.1)) 9 (vI r.2)) 27 (.bool (decide (r.2<p0.fPlaces)))) 10 (.slice ((rdL g r.2).1.1) ((rdL p3.fH r.2).length) ((rdL g r.2).1.2.2))) 37 (.bool ((((rdL p3.fH r.2).length:Nat):Int) !=61))) 11 (vI d.2)) 41 (.bool (decide (d.2<(((rdL p3.fH r.2).length:Nat):Int))))) 12 (.bool l)) 71 (.bool ft)) 82 (.bool om))) (fun w=>?_) (fun key=>?_)
          ·refine qY (sT E E E E I) (yMB E) ?_
           obtain⟨u8,oa,h⟩:=bOs h
           refine qJ 19 (fun w=>(upd (upd (upd (upd (upd (upd (upd (upd (upd (upd (upd (upd (upd (upd w 1 (vI p1)) 2 (vI p2)) 4 (.pointer (some ⟨t,0,none⟩))) 7 (.pointer (some ⟨a,0,none⟩))) 8 (.bool d.1)) 9 (vI r.2)) 27 (.bool (decide (r.2<p0.fPlaces)))) 10 (.slice ((rdL g r.2).1.1) ((rdL p3.fH r.2).length) ((rdL g r.2).1.2.2))) 37 (.bool ((((rdL p3.fH r.2).length:Nat):Int) !=61))) 11 (vI d.2)) 41 (.bool (decide (d.2<(((rdL p3.fH r.2).length:Nat):Int))))) 12 (.bool l)) 71 (.bool ft)) 102 (.bool u8))) (fun w=>?_) (fun key=>?_)
           ·refine qY E (ag (vB I) E) ?_
            obtain rfl:=sI h
            exact key _ _ (kp4 (kp4 (kp4 (kp E))))
           ·clear h;rcases iOs oa with⟨G,h⟩|⟨G,h⟩
            ·refine qY (sT E E E E G) (yMS E) (qY (sT E E E E G) (yMI E) ?_)
             obtain⟨x,h⟩:=gOs h
             refine qY (sT E E E E G) (yI bS (by decide) x.1 x.2 (NestL.rd (NestL.arg o) D.1 (ah D.2 E)) (eL aB E) E E) ?_
             refine qY (sT E E E E G) (yR (A:=((rdL g r.2).1.1)) (j:=(Int.toNat d.2*1)) (v:=vI (rdL (rdL p3.fH r.2) d.2)) aK (NestL.rd (NestL.arg o) D.1 (ah D.2 E)) E (ay aB x.1 (ah x.2 E) E)) (qY (sT E E E E G) (be E E) (qY (sT E E E E G) (yMB E) ?_))
             obtain⟨u9,oi,h⟩:=bOs h
             refine qJ 12 (fun w=>(upd (upd (upd (upd (upd (upd (upd (upd (upd (upd (upd (upd (upd (upd (upd w 1 (vI p1)) 2 (vI p2)) 4 (.pointer (some ⟨t,0,none⟩))) 7 (.pointer (some ⟨a,0,none⟩))) 8 (.bool d.1)) 9 (vI r.2)) 27 (.bool (decide (r.2<p0.fPlaces)))) 10 (.slice ((rdL g r.2).1.1) ((rdL p3.fH r.2).length) ((rdL g r.2).1.2.2))) 37 (.bool ((((rdL p3.fH r.2).length:Nat):Int) !=61))) 11 (vI d.2)) 41 (.bool (decide (d.2<(((rdL p3.fH r.2).length:Nat):Int))))) 12 (.bool l)) 71 (.bool ft)) 83 (.bool om)) 101 (.bool u9))) (fun w=>?_) (fun key=>?_)
             ·refine qY (sT E E E E I) (ad (vB G) E) ?_
              obtain rfl:=sI h
              exact key _ _ (kp4 (kp4 (kp4 (kp (kp E)))))
             ·clear h;rcases iOs oi with⟨u,h⟩|⟨u,h⟩
              ·refine aa (sF E E E E u) (aa (sF E E E E u) (aa (sF E E E E u) (aa (sF E E E E u) (aa (sF E E E E u) (aa (sF E E E E u) (aa (sF E E E E u) (aa (sF E E E E u) (aa (sF E E E E u) (aa (sF E E E E u) (aa (sF E E E E u) (qY (sT E E E E G) (ad (vB u) E) ?_)))))))))))
               obtain rfl:=sI h
               exact key _ _ (kp4 (kp4 (kp4 (kp (kp (kp E))))))
              ·refine qY (sT E E E E u) (yMS E) (qY (sT E E E E u) (yMI E) ?_)
               obtain⟨y,h⟩:=gOs h
               refine qY (sT E E E E u) (yI bS (by decide) y.1 y.2 (NestL.rd (NestL.arg o) D.1 (ah D.2 E)) (eL aB E) E E) ?_
               refine qY (sT E E E E u) (yR (A:=((rdL g r.2).1.1)) (j:=(Int.toNat d.2*1)) (v:=vI (rdL (rdL p3.fH r.2) d.2)) aK (NestL.rd (NestL.arg o) D.1 (ah D.2 E)) E (ay aB y.1 (ah y.2 E) E)) (qY (sT E E E E u) (yMS E) (qY (sT E E E E u) (yMI E) (qY (sT E E E E u) (ex E E) (qY (sT E E E E u) (y_max E E) ?_))))
               obtain⟨b,h⟩:=gOs h
               refine qY (sT E E E E u) (yI bS (by decide) b.1 b.2 (NestL.rd (NestL.arg o) D.1 (ah D.2 E)) (eL aB E) E E) ?_
               refine qY (sT E E E E u) (yR (A:=((rdL g r.2).1.1)) (j:=(Int.toNat (max 0 (w64 (d.2-1)))*1)) (v:=vI (rdL (rdL p3.fH r.2) (max 0 (w64 (d.2-1))))) aK (NestL.rd (NestL.arg o) D.1 (ah D.2 E)) E (ay aB b.1 (ah b.2 E) E)) (qY (sT E E E E u) (eu E E) (qY (sT E E E E G) (ag (vB u) E) ?_))
               obtain rfl:=sI h
               exact key _ _ (kp4 (kp4 (kp4 (kp (kp (kp E))))))
            ·refine aa (sF E E E E G) (aa (sF E E E E G) (aa (sF E E E E G) (aa (sF E E E E G) (aa (sF E E E E G) (aa (sF E E E E G) (aa E (aa E (aa E (aa E (aa E (aa E (aa E (aa E (aa E (aa E (aa E (aa (sF E E E E G) (qY (sT E E E E I) (ag (vB G) E) ?_))))))))))))))))))
             obtain rfl:=sI h
             exact key _ _ (kp4 (kp4 (kp4 (kp (kp E)))))
          ·clear h;rcases iOs ot with⟨K,h⟩|⟨K,h⟩
           ·refine qY (sT E E E E K) (yMS E) (qY (sT E E E E K) (yMI E) (qY (sT E E E E K) (ex E E) (qY (sT E E E E K) (y_max E E) ?_)))
            obtain⟨c,h⟩:=gOs h
            refine qY (sT E E E E K) (yI bS (by decide) c.1 c.2 (NestL.rd (NestL.arg o) D.1 (ah D.2 E)) (eL aB E) E E) ?_
            refine qY (sT E E E E K) (yR (A:=((rdL g r.2).1.1)) (j:=(Int.toNat (max 0 (w64 (d.2-1)))*1)) (v:=vI (rdL (rdL p3.fH r.2) (max 0 (w64 (d.2-1))))) aK (NestL.rd (NestL.arg o) D.1 (ah D.2 E)) E (ay aB c.1 (ah c.2 E) E)) (qY (sT E E E E K) (lu E E) (qY (sT E E E E I) (ad (vB K) E) ?_))
            obtain rfl:=sI h
            exact key _ _ (kp4 (kp4 (kp4 (kp (kp E)))))
           ·refine aa (sF E E E E K) (aa (sF E E E E K) (aa (sF E E E E K) (aa (sF E E E E K) (aa (sF E E E E K) (aa (sF E E E E K) (aa (sF E E E E K) (qY (sT E E E E I) (ag (vB K) E) ?_)))))))
            obtain rfl:=sI h
            exact key _ _ (kp4 (kp4 (kp4 (kp (kp E)))))
       ·clear h;rcases iOs oq with⟨N,h⟩|⟨N,h⟩
        ·refine aa (sF E E E E N) (aa (sF E E E E N) (aa (sF E E E E N) (aa (sF E E E E N) (aa E (aa E (aa E (aa E (aa E (aa E (aa E (aa E (aa E (aa E (aa E (aa E (aa E (aa (sF E E E E N) (qY E (ad (vB N) E) ?_))))))))))))))))))
         obtain rfl:=sI h
         exact key _ _ (kp4 (kp4 (kp4 (kp E))))
        ·refine qY (sT E E E E N) (yMI E) (qY (sT E E E E N) (yMI E) (qY (sT E E E E N) (cZ E E) (qY (sT E E E E N) (yMB E) ?_)))
         obtain⟨uf,oj,h⟩:=bOs h
         refine qJ 14 (fun w=>(upd (upd (upd (upd (upd (upd (upd (upd (upd (upd (upd (upd (upd (upd w 1 (vI p1)) 2 (vI p2)) 4 (.pointer (some ⟨t,0,none⟩))) 7 (.pointer (some ⟨a,0,none⟩))) 8 (.bool d.1)) 9 (vI r.2)) 27 (.bool (decide (r.2<p0.fPlaces)))) 10 (.slice ((rdL g r.2).1.1) ((rdL p3.fH r.2).length) ((rdL g r.2).1.2.2))) 37 (.bool ((((rdL p3.fH r.2).length:Nat):Int) !=61))) 11 (vI d.2)) 41 (.bool (decide (d.2<(((rdL p3.fH r.2).length:Nat):Int))))) 12 (.bool l)) 51 (.bool (!l))) 69 (.bool uf))) (fun w=>?_) (fun key=>?_)
         ·refine qY E (ag (vB N) E) ?_
          obtain rfl:=sI h
          exact key _ _ (kp4 (kp4 (kp4 (kp E))))
         ·clear h;rcases iOs oj with⟨H,h⟩|⟨H,h⟩
          ·refine qY (sT E E E E H) (yMS E) (qY (sT E E E E H) (yMI E) ?_)
           obtain⟨f1,h⟩:=gOs h
           refine qY (sT E E E E H) (yI bS (by decide) f1.1 f1.2 (NestL.rd (NestL.arg o) D.1 (ah D.2 E)) (eL aB E) E E) ?_
           refine qY (sT E E E E H) (yR (A:=((rdL g r.2).1.1)) (j:=(Int.toNat d.2*1)) (v:=vI (rdL (rdL p3.fH r.2) d.2)) aK (NestL.rd (NestL.arg o) D.1 (ah D.2 E)) E (ay aB f1.1 (ah f1.2 E) E)) (qY (sT E E E E H) (be E E) (qY (sT E E E E H) (yMB E) ?_))
           obtain⟨ug,ok,h⟩:=bOs h
           refine qJ 7 (fun w=>(upd (upd (upd (upd (upd (upd (upd (upd (upd (upd (upd (upd (upd (upd (upd w 1 (vI p1)) 2 (vI p2)) 4 (.pointer (some ⟨t,0,none⟩))) 7 (.pointer (some ⟨a,0,none⟩))) 8 (.bool d.1)) 9 (vI r.2)) 27 (.bool (decide (r.2<p0.fPlaces)))) 10 (.slice ((rdL g r.2).1.1) ((rdL p3.fH r.2).length) ((rdL g r.2).1.2.2))) 37 (.bool ((((rdL p3.fH r.2).length:Nat):Int) !=61))) 11 (vI d.2)) 41 (.bool (decide (d.2<(((rdL p3.fH r.2).length:Nat):Int))))) 12 (.bool l)) 51 (.bool (!l))) 55 (.bool (r.2==p1))) 68 (.bool ug))) (fun w=>?_) (fun key=>?_)
           ·refine qY (sT E E E E N) (ad (vB H) E) ?_
            obtain rfl:=sI h
            exact key _ _ (kp4 (kp4 (kp4 (kp (kp E)))))
           ·clear h;rcases iOs ok with⟨M,h⟩|⟨M,h⟩
            ·refine aa (sF E E E E M) (aa (sF E E E E M) (aa (sF E E E E M) (aa (sF E E E E M) (aa (sF E E E E M) (aa (sF E E E E M) (qY (sT E E E E H) (ad (vB M) E) ?_))))))
             obtain rfl:=sI h
             exact key _ _ (kp4 (kp4 (kp4 (kp (kp (kp E))))))
            ·refine qY (sT E E E E M) (yMS E) (qY (sT E E E E M) (yMI E) ?_)
             obtain⟨f2,h⟩:=gOs h
             refine qY (sT E E E E M) (yI bS (by decide) f2.1 f2.2 (NestL.rd (NestL.arg o) D.1 (ah D.2 E)) (eL aB E) E E) ?_
             refine qY (sT E E E E M) (yR (A:=((rdL g r.2).1.1)) (j:=(Int.toNat d.2*1)) (v:=vI (rdL (rdL p3.fH r.2) d.2)) aK (NestL.rd (NestL.arg o) D.1 (ah D.2 E)) E (ay aB f2.1 (ah f2.2 E) E)) (qY (sT E E E E M) (yMI E) (qY (sT E E E E M) (eu E E) (qY (sT E E E E H) (ag (vB M) E) ?_)))
             obtain rfl:=sI h
             exact key _ _ (kp4 (kp4 (kp4 (kp (kp (kp E))))))
          ·refine aa (sF E E E E H) (aa (sF E E E E H) (aa (sF E E E E H) (aa (sF E E E E H) (aa (sF E E E E H) (aa (sF E E E E H) (aa E (aa E (aa E (aa E (aa E (aa E (aa (sF E E E E H) (qY (sT E E E E N) (ag (vB H) E) ?_)))))))))))))
           obtain rfl:=sI h
           exact key _ _ (kp4 (kp4 (kp4 (kp (kp E)))))
      ·refine cF (vB fG) (aD (ai ?_))
       obtain rfl:=sI h
       exact av ⟨E,_,E,(kp4 (kp4 (kp (kp E))))⟩
     ·intro e L tm hJ
      rcases u5 with uD|uE
      ·dsimp only at h hJ
       obtain⟨rfl,r0,rfl,rfl⟩:=hJ
       refine⟨(by intro hc;cases hc),?_⟩
       refine ae (ae (ab ?_))
       obtain rfl:=sI h
       exact av ⟨E,_,E,(kp4 (kp (kp E)))⟩
      ·dsimp only at h hJ
       obtain⟨rfl,r1,rfl,rfl⟩:=hJ
       refine⟨(by intro hc;cases hc),?_⟩
       refine ac (aw (eT (cR (oY E (yMI E) (oY E (aL E E) (oY E (yAI E) (oN ?_)))))))
       obtain rfl:=sI h
       exact eN ⟨_,E,(kp4 (kp (kp E)))⟩
   ·refine cF (vB gf) (aD (ai ?_))
    obtain rfl:=sI h
    exact av ⟨E,_,E,(kp4 (kp (kp E)))⟩
  ·intro e L tm hJ
   rcases u6 with uo|uF
   ·dsimp only at h hJ
    obtain⟨rfl,r2,rfl,rfl⟩:=hJ
    refine⟨(by intro hc;cases hc),?_⟩
    refine ae (ab ?_)
    obtain rfl:=sI h
    exact am (.inl E) E (rVt (v:=.bool uo.1) E) (fun W2 q=>⟨E,q.none⟩)
   ·dsimp only at h hJ
    obtain⟨rfl,r3,rfl,rfl⟩:=hJ
    refine⟨(by intro hc;cases hc),?_⟩
    refine ac (eT (cS (cS (cR (oY E (yAI E) (oN (eT (cB ?_))))))))
    obtain⟨ur,r4,h⟩:=bOs h
    refine a8 (fun(s:(Bool × Int)) L tm=>∃(w:Nat→Value),L=[ak t 24 [vI p0.fPlaces,.slice Ab p0.fTracks.length cb],ak a 87 [.slice X p3.fH.length R]]∧tm=(upd (upd (upd (upd w 4 (.pointer (some ⟨t,0,none⟩))) 7 (.pointer (some ⟨a,0,none⟩))) 8 (.bool s.1)) 13 (vI s.2))) 4 r4 ⟨_,E,(kp4 E)⟩ ?_ ?_
    ·rintro f L tm st ⟨r5,rfl,rfl⟩ h
     unfold ig at h
     refine cS (cS (cR (oY E (yMI E) (oY E (yFA bU E) (oY E (yL 0 gv E E E) (oY E (bi (us:=[]) i6 E) (oY E (be E E) (oN (eT ?_)))))))))
     rcases iOs h with⟨fR,h⟩|⟨fR,h⟩
     ·refine cT (vB fR) (cK (eT (cS (cB (cS (cR (oY E (yFA bU E) (oY E (yL 0 gv E E E) (oY E (yMI E) ?_)))))))))
      obtain⟨T,h⟩:=gOs h
      refine oY E (yI jE (by decide) T.1 T.2 (RdL.arg fD) (eL au (NestP.hn S.p E)) E E) ?_
      refine oY E (yM (A:=Ab) (j:=(Int.toNat f.2*6)) [vI ((rdL p0.fTracks f.2).fID),vI ((rdL p0.fTracks f.2).fFrom),vI ((rdL p0.fTracks f.2).fTo),vI ((rdL p0.fTracks f.2).fLong),vI ((rdL p0.fTracks f.2).fToll),.slice ((rdL F f.2).1.1) ((rdL p0.fTracks f.2).fK.length) ((rdL F f.2).1.2.2)] gS (Nat.succ_pos _) (RdL.arg fD) E (fN (bI (NestP.snd S.p f.2) (NestP.len S.p T.1 (ah T.2 E))).symm (bc au T.1 (ah T.2 (NestP.hn S.p E))))) ?_
      refine aF ip E (fun g1=>?_)
      refine cy E (yS 2 [vI ((rdL p0.fTracks f.2).fID),vI ((rdL p0.fTracks f.2).fFrom),vI ((rdL p0.fTracks f.2).fTo),vI ((rdL p0.fTracks f.2).fLong),vI ((rdL p0.fTracks f.2).fToll),.slice ((rdL F f.2).1.1) ((rdL p0.fTracks f.2).fK.length) ((rdL F f.2).1.2.2)] nU E (nB E) E E E) (oN (eT (cS (cR (oY E (yAI E) (oN (eT (cB ?_))))))))
      obtain⟨uu,ri,h⟩:=bOs h
      refine a8 (fun(s:(Bool × Int)) L tm=>∃(w:Nat→Value),L=[ak t 24 [vI p0.fPlaces,.slice Ab p0.fTracks.length cb],ak a 87 [.slice X p3.fH.length R],ak g1 120 [vI ((rdL p0.fTracks f.2).fID),vI ((rdL p0.fTracks f.2).fFrom),vI ((rdL p0.fTracks f.2).fTo),vI ((rdL p0.fTracks f.2).fLong),vI ((rdL p0.fTracks f.2).fToll),.slice ((rdL F f.2).1.1) ((rdL p0.fTracks f.2).fK.length) ((rdL F f.2).1.2.2)]]∧tm=(upd (upd (upd (upd (upd (upd (upd w 4 (.pointer (some ⟨t,0,none⟩))) 7 (.pointer (some ⟨a,0,none⟩))) 8 (.bool s.1)) 13 (vI f.2)) 108 (.bool (decide (f.2<(p0.fTracks.length:Int))))) 14 (.pointer (some ⟨g1,0,none⟩))) 15 (vI s.2))) 6 ri ⟨_,E,(kp4 (kp (kp (kp E))))⟩ ?_ ?_
      ·rintro Q L tm st ⟨rj,rfl,rfl⟩ h
       unfold fO at h
       refine cS (cS (cR (oY E (yMI E) (oY E (yFA gb E) (oY E (yL 2 aK E E E) (oY E (aL E E) (oY E (gV E E) (oN (eT ?_)))))))))
       rcases iOs h with⟨fn,h⟩|⟨fn,h⟩
       ·refine cT (vB fn) (cK (eT (cS (cB (cS ?_)))))
        refine aS 12 bW (by kernel_rfl) (by kernel_rfl) ?_
        refine qY E (yN 2 [vI ((rdL p0.fTracks f.2).fID),vI ((rdL p0.fTracks f.2).fFrom),vI ((rdL p0.fTracks f.2).fTo),vI ((rdL p0.fTracks f.2).fLong),vI ((rdL p0.fTracks f.2).fToll),.slice ((rdL F f.2).1.1) ((rdL p0.fTracks f.2).fK.length) ((rdL F f.2).1.2.2)] gS E E E) (qY E (yFA dw E) (qY E (yL 1 km E E E) (qY E (yFA ii E) (qY E (yL 2 aK E E E) ?_))))
        obtain⟨Y,h⟩:=gOs h
        refine qY E (yI iu (by decide) Y.1 Y.2 (RdL.arg V) (eL ao (NestP.hn o.p E)) E E) ?_
        refine qY E (yR (A:=X) (j:=(Int.toNat ((rdL p0.fTracks f.2).fFrom)*1)) (v:=.slice ((rdL g ((rdL p0.fTracks f.2).fFrom)).1.1) ((rdL p3.fH ((rdL p0.fTracks f.2).fFrom)).length) ((rdL g ((rdL p0.fTracks f.2).fFrom)).1.2.2)) gM (RdL.arg V) E (ay ao Y.1 (ah Y.2 (NestP.hn o.p E)) (congrArg (fun n:Nat=>some (Value.slice (rdL g ((rdL p0.fTracks f.2).fFrom)).1.1 n (rdL g ((rdL p0.fTracks f.2).fFrom)).1.2.2)) (NestP.len o.p Y.1 (ah Y.2 E))))) (qY E (yMI E) ?_)
        obtain⟨f3,h⟩:=gOs h
        refine qY E (yI bS (by decide) f3.1 f3.2 (NestL.rd (NestL.arg o) Y.1 (ah Y.2 E)) (eL aB E) E E) ?_
        refine qY E (yR (A:=((rdL g ((rdL p0.fTracks f.2).fFrom)).1.1)) (j:=(Int.toNat Q.2*1)) (v:=vI (rdL (rdL p3.fH ((rdL p0.fTracks f.2).fFrom)) Q.2)) aK (NestL.rd (NestL.arg o) Y.1 (ah Y.2 E)) E (ay aB f3.1 (ah f3.2 E) E)) ?_
        obtain⟨i,rx,h⟩:=bOs h
        refine qY E (yC [.agg #[vI ((rdL p0.fTracks f.2).fID),vI ((rdL p0.fTracks f.2).fFrom),vI ((rdL p0.fTracks f.2).fTo),vI ((rdL p0.fTracks f.2).fLong),vI ((rdL p0.fTracks f.2).fToll),.slice ((rdL F f.2).1.1) ((rdL p0.fTracks f.2).fK.length) ((rdL F f.2).1.2.2)],vI (rdL (rdL p3.fH ((rdL p0.fTracks f.2).fFrom)) Q.2)] go_126 E (fun W2 q=>kL (TT.mk ((rdL p0.fTracks f.2).fID) ((rdL p0.fTracks f.2).fFrom) ((rdL p0.fTracks f.2).fTo) ((rdL p0.fTracks f.2).fLong) ((rdL p0.fTracks f.2).fToll) ((rdL p0.fTracks f.2).fK)) (rdL (rdL p3.fH ((rdL p0.fTracks f.2).fFrom)) Q.2) i rx W2 ((rdL F f.2).1.1) ((rdL p0.fTracks f.2).fK.length) ((rdL F f.2).1.2.2) E ((NestL.rd (NestL.arg S) T.1 (ah T.2 E)) W2 q)) E) (qY E (yAI E) (bF (oN (eT (cS ?_)))))
        refine aS 13 bW (by kernel_rfl) (by kernel_rfl) ?_
        refine qY E (yFA dw E) (qY E (yL 1 km E E E) (qY E (yFA gD E) (qY E (yL 2 aK E E E) ?_)))
        obtain⟨Z,h⟩:=gOs h
        refine qY E (yI iu (by decide) Z.1 Z.2 (RdL.arg V) (eL ao (NestP.hn o.p E)) E E) ?_
        refine qY E (yR (A:=X) (j:=(Int.toNat ((rdL p0.fTracks f.2).fTo)*1)) (v:=.slice ((rdL g ((rdL p0.fTracks f.2).fTo)).1.1) ((rdL p3.fH ((rdL p0.fTracks f.2).fTo)).length) ((rdL g ((rdL p0.fTracks f.2).fTo)).1.2.2)) gM (RdL.arg V) E (ay ao Z.1 (ah Z.2 (NestP.hn o.p E)) (congrArg (fun n:Nat=>some (Value.slice (rdL g ((rdL p0.fTracks f.2).fTo)).1.1 n (rdL g ((rdL p0.fTracks f.2).fTo)).1.2.2)) (NestP.len o.p Z.1 (ah Z.2 E))))) (qY E (yMI E) (qY E (yFA gb E) (qY E (yL 2 aK E E E) (qY E (aL E E) ?_))))
        obtain⟨fr,h⟩:=gOs h
        refine qY E (yI bS (by decide) fr.1 fr.2 (NestL.rd (NestL.arg o) Z.1 (ah Z.2 E)) (eL aB E) E E) ?_
        refine qY E (yR (A:=((rdL g ((rdL p0.fTracks f.2).fTo)).1.1)) (j:=(Int.toNat (w64 (Q.2+((rdL p0.fTracks f.2).fToll)))*1)) (v:=vI (rdL (rdL p3.fH ((rdL p0.fTracks f.2).fTo)) (w64 (Q.2+((rdL p0.fTracks f.2).fToll))))) aK (NestL.rd (NestL.arg o) Z.1 (ah Z.2 E)) E (ay aB fr.1 (ah fr.2 E) E)) (qY E (yAI E) (bF (oN (eT (cS (cR (oY E (yMI E) (oY E (lu E E) (oY E (yMB E) ?_)))))))))
        refine oJ 8 (fun w=>(upd (upd (upd (upd (upd (upd (upd (upd (upd (upd (upd w 4 (.pointer (some ⟨t,0,none⟩))) 7 (.pointer (some ⟨a,0,none⟩))) 8 (.bool Q.1)) 13 (vI f.2)) 108 (.bool (decide (f.2<(p0.fTracks.length:Int))))) 14 (.pointer (some ⟨g1,0,none⟩))) 15 (vI Q.2)) 120 (.bool (decide (w64 (Q.2+((rdL p0.fTracks f.2).fToll))≤60)))) 16 (vI i)) 17 (vI (rdL (rdL p3.fH ((rdL p0.fTracks f.2).fTo)) (w64 (Q.2+((rdL p0.fTracks f.2).fToll)))))) 156 (.bool ((decide (0≤i))&&((decide ((rdL (rdL p3.fH ((rdL p0.fTracks f.2).fTo)) (w64 (Q.2+((rdL p0.fTracks f.2).fToll))))<0))||(decide (i<(rdL (rdL p3.fH ((rdL p0.fTracks f.2).fTo)) (w64 (Q.2+((rdL p0.fTracks f.2).fToll))))))))))) (fun w=>?_) (fun key=>?_)
        ·refine oN (eT ?_)
         rcases iOs h with⟨fl,h⟩|⟨fl,h⟩
         ·refine cT (vB fl) (cS (cR (oY E (yAB E) (oN (eT (ap (ae (ab ?_))))))))
          obtain rfl:=sI h
          exact av ⟨E,_,E,(kp4 (kp (kp (kp E))))⟩
         ·refine cF (vB fl) (cK (aw (eT (cR (oY E (yMI E) (oY E (aL E E) (oY E (yAI E) (oN ?_))))))))
          obtain rfl:=sI h
          exact eN ⟨_,E,(kp4 (kp (kp (kp E))))⟩
        ·rcases ar (decide (0≤i))with O|O
         ·refine oY (sT E E E E O) (yMI E) (oY (sT E E E E O) (be E E) (oY (sT E E E E O) (yMB E) ?_))
          refine oJ 4 (fun w=>(upd (upd (upd (upd (upd (upd (upd (upd (upd (upd (upd (upd w 4 (.pointer (some ⟨t,0,none⟩))) 7 (.pointer (some ⟨a,0,none⟩))) 8 (.bool Q.1)) 13 (vI f.2)) 108 (.bool (decide (f.2<(p0.fTracks.length:Int))))) 14 (.pointer (some ⟨g1,0,none⟩))) 15 (vI Q.2)) 120 (.bool (decide (w64 (Q.2+((rdL p0.fTracks f.2).fToll))≤60)))) 16 (vI i)) 17 (vI (rdL (rdL p3.fH ((rdL p0.fTracks f.2).fTo)) (w64 (Q.2+((rdL p0.fTracks f.2).fToll)))))) 148 (.bool (decide (0≤i)))) 155 (.bool ((decide ((rdL (rdL p3.fH ((rdL p0.fTracks f.2).fTo)) (w64 (Q.2+((rdL p0.fTracks f.2).fToll))))<0))||(decide (i<(rdL (rdL p3.fH ((rdL p0.fTracks f.2).fTo)) (w64 (Q.2+((rdL p0.fTracks f.2).fToll)))))))))) (fun w=>?_) (fun key=>?_)
          ·refine oY E (ad (vB O) E) ?_
           exact key _ _ (keep (keep (keep (keep (keep (keep (keep (keep (keep (keep (keep E E) E) E) E) E) E) E) E) E) E) (vB (fF O)))
          ·rcases ar (decide ((rdL (rdL p3.fH ((rdL p0.fTracks f.2).fTo)) (w64 (Q.2+((rdL p0.fTracks f.2).fToll))))<0))with U|U
           ·refine oSk (sF E E E E U) (oSk (sF E E E E U) (oSk (sF E E E E U) (oY (sT E E E E O) (ad (vB U) E) ?_)))
            exact key _ _ (keep (keep (keep (keep (keep (keep (keep (keep (keep (keep (keep (keep E E) E) E) E) E) E) E) E) E) E) E) (vB (iQ U)))
           ·refine oY (sT E E E E U) (yMI E) (oY (sT E E E E U) (yMI E) (oY (sT E E E E U) (eu E E) (oY (sT E E E E O) (ag (vB U) E) ?_)))
            exact key _ _ (keep (keep (keep (keep (keep (keep (keep (keep (keep (keep (keep (keep E E) E) E) E) E) E) E) E) E) E) E) (vB (iR U)))
         ·refine oSk (sF E E E E O) (oSk (sF E E E E O) (oSk (sF E E E E O) (oSk E (oSk E (oSk E (oSk (sF E E E E O) (oY E (ag (vB O) E) ?_)))))))
          exact key _ _ (keep (keep (keep (keep (keep (keep (keep (keep (keep (keep (keep E E) E) E) E) E) E) E) E) E) E) (vB (fy O)))
       ·refine cF (vB fn) (aD (ai ?_))
        obtain rfl:=sI h
        exact av ⟨E,_,E,(kp4 (kp (kp (kp E))))⟩
      ·intro e L tm hJ
       rcases uu with uG|uH
       ·dsimp only at h hJ
        obtain⟨rfl,u0,rfl,rfl⟩:=hJ
        refine⟨(by intro hc;cases hc),?_⟩
        refine ae (ae (ab (aQ 2 ?_)))
        obtain rfl:=sI h
        exact av ⟨E,_,E,(kp4 E)⟩
       ·dsimp only at h hJ
        obtain⟨rfl,u1,rfl,rfl⟩:=hJ
        refine⟨(by intro hc;cases hc),?_⟩
        refine ac (aw (eT (cR (oY E (yMI E) (oY E (aL E E) (oY E (yAI E) (oN (aQ 2 ?_))))))))
        obtain rfl:=sI h
        exact eN ⟨_,E,(kp4 E)⟩
     ·refine cF (vB fR) (aD (ai ?_))
      obtain rfl:=sI h
      exact av ⟨E,_,E,(kp4 E)⟩
    ·intro e L tm hJ
     rcases ur with ud|uI
     ·dsimp only at h hJ
      obtain⟨rfl,u2,rfl,rfl⟩:=hJ
      refine⟨(by intro hc;cases hc),?_⟩
      refine ae (ab ?_)
      obtain rfl:=sI h
      exact am (.inl E) E (rVt (v:=.bool ud.1) E) (fun W2 q=>⟨E,q.none⟩)
     ·dsimp only at h hJ
      obtain⟨rfl,u3,rfl,rfl⟩:=hJ
      refine⟨(by intro hc;cases hc),?_⟩
      refine ac (eT (cS (cR (oY E (yAB E) (oN (eT (ap ?_)))))))
      obtain rfl:=sI h
      exact am (.inl E) E (rVt (v:=.bool true) E) (fun W2 q=>⟨E,q.none⟩)
end Go.Proofs.YthndghnkebboaaaGreat
