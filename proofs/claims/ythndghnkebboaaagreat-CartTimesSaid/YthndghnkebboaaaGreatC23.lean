import Derived.Test.YthndghnkebboaaaGreatF
import Derived.Test.YthndghnkebboaaaGreatGy
import Derived.Test.YthndghnkebboaaaGreatGF
import Derived.Test.YthndghnkebboaaaGreatC6
import Derived.Test.YthndghnkebboaaaGreatC0
import Derived.Test.YthndghnkebboaaaGreatC11
set_option maxHeartbeats 4000000
set_option maxRecDepth 100000
set_option linter.unusedVariables false
namespace Go.Proofs.YthndghnkebboaaaGreat
open Go.RowKit (Below)
attribute [local irreducible] OX QX CX EX OpY Calls CallsIn
theorem nV (p0:(List TSpan)) (res:Bool) (h:gV p0=some res) (W:World) (Aa:Option Addr) (M ca:Nat) (U:M=p0.length) (o:Rd W Aa M ca (encL TSpan_cells p0)) :
  Calls Tryz.prog 184 [.slice Aa M ca].toArray W fun e W2=>e=.returned (.bool res)∧Ext W W2 []:=by
 subst U
 unfold gV at h
 refine ag (m:=66) Tryz.func184 E E (nB E) (cS (cR (oY E (yAB E) (oN (eT (cS (cS (cR (oY E (yMS E) (oY E (bg (us:=[]) lW E) (oY E (eW E E) (oN (eT ?_)))))))))))))
 rcases iOs h with⟨X,h⟩|⟨X,h⟩
 ·refine cT (vB X) (cS (cR (oY E (yAB E) (oN (eT (am (aa ?_)))))))
  obtain rfl:=sI h
  exact ak (.inl E) E (rVt (v:=.bool false) E) (fun W2 D=>⟨E,D.none⟩)
 ·refine cF (vB X) (cK (eT (cS (cS (cR (oY E (yAI E) (oN (eT (cB ?_)))))))))
  obtain⟨x,V,h⟩:=bOs h
  refine ba (fun(s:(Bool × Int)) L tm=>∃(w:Nat→Value),L=[]∧tm=(upd (upd (upd w 0 (.slice Aa p0.length ca)) 2 (.bool s.1)) 3 (vI s.2))) 0 V ⟨_,E,(kp (kp (kp E)))⟩ ?_ ?_
  ·rintro u L tm st ⟨t,rfl,rfl⟩ h
   unfold dC at h
   refine cS (cS (cR (oY E (yMI E) (oY E (yMS E) (oY E (bg (us:=[]) lW E) (oY E (a6 E E) (oN (eT ?_))))))))
   rcases iOs h with⟨Y,h⟩|⟨Y,h⟩
   ·refine cT (vB Y) (cK (eT (cS (cB (cS (cR (oY E (yMS E) (oY E (yMI E) ?_))))))))
    obtain⟨O,h⟩:=gOs h
    refine oY E (yI jx (by decide) O.1 O.2 (RdL.arg o) (eL aE E) E E) ?_
    refine oY E (yFR (A:=Aa) (j:=(Int.toNat u.2*2)) gt E) (oY E (yR (A:=Aa) (j:=((Int.toNat u.2*2)+0)) (v:=vI ((rdL p0 u.2).fLo)) aN (RdL.arg o) E (eG aE O.1 (ai O.2 E) E)) ?_)
    obtain⟨Z,a,h⟩:=bOs h
    refine oY E (yC [vI ((rdL p0 u.2).fLo)] qX E (fun W2 D=>db ((rdL p0 u.2).fLo) Z a W2 ) E) (oY E (yAB E) (oN (eT (cS (cR (oY E (yMS E) (oY E (yMI E) ?_)))))))
    obtain⟨Q,h⟩:=gOs h
    refine oY E (yI jx (by decide) Q.1 Q.2 (RdL.arg o) (eL aE E) E E) ?_
    refine oY E (yFR (A:=Aa) (j:=(Int.toNat u.2*2)) eH E) (oY E (yR (A:=Aa) (j:=((Int.toNat u.2*2)+1)) (v:=vI ((rdL p0 u.2).fHi)) aN (RdL.arg o) E (eG aE Q.1 (ai Q.2 E) E)) ?_)
    obtain⟨K,T,h⟩:=bOs h
    refine oY E (yC [vI ((rdL p0 u.2).fHi)] qX E (fun W2 D=>db ((rdL p0 u.2).fHi) K T W2 ) E) (oY E (yAB E) (oN (eT (cS ?_))))
    refine aX 39 bZ (by kernel_rfl) (by kernel_rfl) ?_
    refine qY E (yMB E) (qY E (bw E) (qY E (yMB E) ?_))
    refine qJ 3 (fun w=>(upd (upd (upd (upd (upd (upd (upd w 0 (.slice Aa p0.length ca)) 2 (.bool u.1)) 3 (vI u.2)) 12 (.bool (decide (u.2<(p0.length:Int))))) 4 (.bool Z)) 5 (.bool K)) 32 (.bool ((!Z)||(!K))))) (fun w=>?_) (fun key=>?_)
    ·refine qY E (yMB E) ?_
     obtain⟨S,R,h⟩:=bOs h
     refine qJ 12 (fun w=>(upd (upd (upd (upd (upd (upd (upd w 0 (.slice Aa p0.length ca)) 2 (.bool u.1)) 3 (vI u.2)) 12 (.bool (decide (u.2<(p0.length:Int))))) 4 (.bool Z)) 5 (.bool K)) 45 (.bool S))) (fun w=>?_) (fun key=>?_)
     ·refine qY E (yMB E) ?_
      obtain⟨z,q,h⟩:=bOs h
      refine qJ 19 (fun w=>(upd (upd (upd (upd (upd (upd (upd w 0 (.slice Aa p0.length ca)) 2 (.bool u.1)) 3 (vI u.2)) 12 (.bool (decide (u.2<(p0.length:Int))))) 4 (.bool Z)) 5 (.bool K)) 65 (.bool z))) (fun w=>?_) (fun key=>?_)
      ·refine bF (oN (eT ?_))
       rcases iOs h with⟨N,h⟩|⟨N,h⟩
       ·refine cT (vB N) (cS (cR (oY E (yAB E) (oN (eT (am (ah (aa ?_))))))))
        obtain rfl:=sI h
        exact au ⟨E,_,E,(kp (kp (kp E)))⟩
       ·refine cF (vB N) (cK (aw (eT (cR (oY E (yMI E) (oY E (aM E E) (oY E (yAI E) (oN ?_))))))))
        obtain rfl:=sI h
        exact eN ⟨_,E,(kp (kp (kp E)))⟩
      ·clear h;rcases iOs q with⟨r,h⟩|⟨r,h⟩
       ·refine ab (sF E E E E r) (ab (sF E E E E r) (ab (sF E E E E r) (ab E (ab E (ab E (ab E (ab E (ab E (ab E (ab E (ab E (ab E (ab E (ab E (ab E (ab E (ab (sF E E E E r) (qY E (ac (vB r) E) ?_))))))))))))))))))
        obtain rfl:=sI h
        exact key _ _ (kp4 (kp (kp (kp E))))
       ·refine qY (sT E E E E r) (yMI E) (qY (sT E E E E r) (eW E E) (qY (sT E E E E r) (yMB E) ?_))
        obtain⟨i,p,h⟩:=bOs h
        refine qJ 15 (fun w=>(upd (upd (upd (upd (upd (upd (upd (upd w 0 (.slice Aa p0.length ca)) 2 (.bool u.1)) 3 (vI u.2)) 12 (.bool (decide (u.2<(p0.length:Int))))) 4 (.bool Z)) 5 (.bool K)) 46 (.bool S)) 64 (.bool i))) (fun w=>?_) (fun key=>?_)
        ·refine qY E (ad (vB r) E) ?_
         obtain rfl:=sI h
         exact key _ _ (kp4 (kp (kp (kp E))))
        ·clear h;rcases iOs p with⟨f,h⟩|⟨f,h⟩
         ·refine qY (sT E E E E f) (yMS E) (qY (sT E E E E f) (yMI E) ?_)
          obtain⟨F,h⟩:=gOs h
          refine qY (sT E E E E f) (yI jx (by decide) F.1 F.2 (RdL.arg o) (eL aE E) E E) ?_
          refine qY (sT E E E E f) (yFR (A:=Aa) (j:=(Int.toNat u.2*2)) gt E) (qY (sT E E E E f) (yR (A:=Aa) (j:=((Int.toNat u.2*2)+0)) (v:=vI ((rdL p0 u.2).fLo)) aN (RdL.arg o) E (eG aE F.1 (ai F.2 E) E)) (qY (sT E E E E f) (yMS E) (qY (sT E E E E f) (yMI E) (qY (sT E E E E f) (fe E E) (qY (sT E E E E f) (y_max E E) ?_)))))
          obtain⟨G,h⟩:=gOs h
          refine qY (sT E E E E f) (yI jx (by decide) G.1 G.2 (RdL.arg o) (eL aE E) E E) ?_
          refine qY (sT E E E E f) (yFR (A:=Aa) (j:=(Int.toNat (max 0 (w64 (u.2-1)))*2)) eH E) (qY (sT E E E E f) (yR (A:=Aa) (j:=((Int.toNat (max 0 (w64 (u.2-1)))*2)+1)) (v:=vI ((rdL p0 (max 0 (w64 (u.2-1)))).fHi)) aN (RdL.arg o) E (eG aE G.1 (ai G.2 E) E)) (qY (sT E E E E f) (aM E E) (qY (sT E E E E f) (a6 E E) (qY (sT E E E E r) (ac (vB f) E) ?_))))
          obtain rfl:=sI h
          exact key _ _ (kp4 (kp4 E))
         ·refine ab (sF E E E E f) (ab (sF E E E E f) (ab (sF E E E E f) (ab (sF E E E E f) (ab (sF E E E E f) (ab (sF E E E E f) (ab (sF E E E E f) (ab (sF E E E E f) (ab (sF E E E E f) (ab (sF E E E E f) (ab (sF E E E E f) (ab (sF E E E E f) (ab (sF E E E E f) (ab (sF E E E E f) (qY (sT E E E E r) (ad (vB f) E) ?_))))))))))))))
          obtain rfl:=sI h
          exact key _ _ (kp4 (kp4 E))
     ·clear h;rcases iOs R with⟨g,h⟩|⟨g,h⟩
      ·refine ab (sF E E E E g) (ab (sF E E E E g) (ab (sF E E E E g) (ab (sF E E E E g) (ab (sF E E E E g) (ab (sF E E E E g) (ab (sF E E E E g) (ab (sF E E E E g) (ab (sF E E E E g) (ab (sF E E E E g) (ab (sF E E E E g) (qY E (ac (vB g) E) ?_)))))))))))
       obtain rfl:=sI h
       exact key _ _ (kp4 (kp (kp (kp E))))
      ·refine qY (sT E E E E g) (yMS E) (qY (sT E E E E g) (yMI E) ?_)
       obtain⟨H,h⟩:=gOs h
       refine qY (sT E E E E g) (yI jx (by decide) H.1 H.2 (RdL.arg o) (eL aE E) E E) ?_
       refine qY (sT E E E E g) (yFR (A:=Aa) (j:=(Int.toNat u.2*2)) gt E) (qY (sT E E E E g) (yR (A:=Aa) (j:=((Int.toNat u.2*2)+0)) (v:=vI ((rdL p0 u.2).fLo)) aN (RdL.arg o) E (eG aE H.1 (ai H.2 E) E)) (qY (sT E E E E g) (yMS E) (qY (sT E E E E g) (yMI E) ?_)))
       obtain⟨I,h⟩:=gOs h
       refine qY (sT E E E E g) (yI jx (by decide) I.1 I.2 (RdL.arg o) (eL aE E) E E) ?_
       refine qY (sT E E E E g) (yFR (A:=Aa) (j:=(Int.toNat u.2*2)) eH E) (qY (sT E E E E g) (yR (A:=Aa) (j:=((Int.toNat u.2*2)+1)) (v:=vI ((rdL p0 u.2).fHi)) aN (RdL.arg o) E (eG aE I.1 (ai I.2 E) E)) (qY (sT E E E E g) (eW E E) (qY E (ad (vB g) E) ?_)))
       obtain rfl:=sI h
       exact key _ _ (kp4 (kp (kp (kp E))))
    ·rcases aq (!Z)with d|d
     ·refine ab (sF E E E E d) (ab (sF E E E E d) (qY E (ac (vB d) E) ?_))
      exact key _ _ (keep (keep (keep (keep (keep (keep (keep E E) E) E) E) E) E) (vB (iy d)))
     ·refine qY (sT E E E E d) (yMB E) (qY (sT E E E E d) (bw E) (qY E (ad (vB d) E) ?_))
      exact key _ _ (keep (keep (keep (keep (keep (keep (keep E E) E) E) E) E) E) (vB (iw d)))
   ·refine cF (vB Y) (aD (aj ?_))
    obtain rfl:=sI h
    exact au ⟨E,_,E,(kp (kp (kp E)))⟩
  ·intro e L tm hJ
   rcases x with k|y
   ·dsimp only at h hJ
    obtain⟨rfl,n,rfl,rfl⟩:=hJ
    refine⟨(by intro hc;cases hc),?_⟩
    refine ah (aa ?_)
    obtain rfl:=sI h
    exact ak (.inl E) E (rVt (v:=.bool k.1) E) (fun W2 D=>⟨E,D.none⟩)
   ·dsimp only at h hJ
    obtain⟨rfl,l,rfl,rfl⟩:=hJ
    refine⟨(by intro hc;cases hc),?_⟩
    refine ae (eT (cS (cR (oY E (yAB E) (oN (eT (am ?_)))))))
    obtain rfl:=sI h
    exact ak (.inl E) E (rVt (v:=.bool true) E) (fun W2 D=>⟨E,D.none⟩)
theorem o6 (p0:TR) (p1:TT) (res:Bool) (h:iK p0 p1=some res) (W:World) (Ab:Option Addr) (O cb:Nat) (Q:List (Hd × TT)) (Y:O=p0.fTracks.length) (q:Rd W Ab O cb (encL TTrack_cells2 Q)) (p:NestW W (fun z:TT=>z.fK) TSpan_cells Q p0.fTracks) (F:Option Addr) (U G:Nat) (Z:U=p1.fK.length) (V:Rd W F U G (encL TSpan_cells p1.fK)) :
  Calls Tryz.prog 160 [.agg #[vI p0.fPlaces,.slice Ab O cb],.agg #[vI p1.fID,vI p1.fFrom,vI p1.fTo,vI p1.fLong,vI p1.fToll,.slice F U G]].toArray W fun e W2=>e=.returned (.bool res)∧Ext W W2 []:=by
 subst Y
 subst Z
 unfold iK at h
 refine ag (m:=58) Tryz.func160 E E (nB E) (cS (cR ?_))
 refine aI [vI p0.fPlaces,.slice Ab p0.fTracks.length cb] E E E (fun i=>?_)
 refine aI [vI p1.fID,vI p1.fFrom,vI p1.fTo,vI p1.fLong,vI p1.fToll,.slice F p1.fK.length G] E E E (fun a=>?_)
 refine oY E (yAB E) (oN (eT (cS (cR (oY E (yFA im E) (oY E (yL 1 aN E E E) ?_))))))
 obtain⟨K,n,h⟩:=bOs h
 refine oY E (yC [vI p1.fID,vI 1,vI 1099511627776] gk E (fun W2 H=>aO p1.fID 1 1099511627776 K n W2 ) E) (oY E (yAB E) (oN (eT (cS (cR (oY E (yFA gO E) (oY E (yL 1 aN E E E) (oY E (yFA dE E) (oY E (yL 0 aN E E E) (oY E (fe E E) ?_))))))))))
 obtain⟨M,l,h⟩:=bOs h
 refine oY E (yC [vI p1.fFrom,vI 0,vI (w64 (p0.fPlaces-1))] gk E (fun W2 H=>aO p1.fFrom 0 (w64 (p0.fPlaces-1)) M l W2 ) E) (oY E (yAB E) (oN (eT (cS (cR (oY E (yFA gg E) (oY E (yL 1 aN E E E) (oY E (yFA dE E) (oY E (yL 0 aN E E E) (oY E (fe E E) ?_))))))))))
 obtain⟨N,t,h⟩:=bOs h
 refine oY E (yC [vI p1.fTo,vI 0,vI (w64 (p0.fPlaces-1))] gk E (fun W2 H=>aO p1.fTo 0 (w64 (p0.fPlaces-1)) N t W2 ) E) (oY E (yAB E) (oN (eT (cS (cR (oY E (yFA fy E) (oY E (yL 1 aN E E E) ?_)))))))
 obtain⟨X,T,h⟩:=bOs h
 refine oY E (yC [vI p1.fLong,vI 1,vI 72] gk E (fun W2 H=>aO p1.fLong 1 72 X T W2 ) E) (oY E (yAB E) (oN (eT (cS (cR (oY E (yFA fw E) (oY E (yL 1 aN E E E) ?_)))))))
 obtain⟨D,S,h⟩:=bOs h
 refine oY E (yC [vI p1.fToll,vI 0,vI 40] gk E (fun W2 H=>aO p1.fToll 0 40 D S W2 ) E) (oY E (yAB E) (oN (eT (cS (cR (oY E (yFA fC E) (oY E (yL 1 j9 E E E) ?_)))))))
 obtain⟨I,R,h⟩:=bOs h
 refine oY E (yC [.slice F p1.fK.length G] go_184 E (fun W2 H=>nV p1.fK I R W2 F p1.fK.length G E ((RdL.arg V) W2 H)) E) (oY E (yAB E) (oN (eT (cS (cR (oY E (yMB E) (oY E (yMB E) ?_)))))))
 refine oJ 2 (fun g=>(upd (upd (upd (upd (upd (upd (upd g 3 (.pointer (some ⟨a,0,none⟩))) 4 (.bool false)) 7 (.bool N)) 8 (.bool X)) 9 (.bool D)) 10 (.bool I)) 38 (.bool (K&&M)))) (fun g=>?_) (fun key=>?_)
 ·refine oY E (yMB E) ?_
  refine oJ 2 (fun g=>(upd (upd (upd (upd (upd (upd g 3 (.pointer (some ⟨a,0,none⟩))) 4 (.bool false)) 8 (.bool X)) 9 (.bool D)) 10 (.bool I)) 41 (.bool ((K&&M)&&N)))) (fun g=>?_) (fun key=>?_)
  ·refine oY E (yMB E) ?_
   refine oJ 6 (fun g=>(upd (upd (upd (upd (upd g 4 (.bool false)) 8 (.bool X)) 9 (.bool D)) 10 (.bool I)) 48 (.bool (((K&&M)&&N)&&(p1.fFrom !=p1.fTo))))) (fun g=>?_) (fun key=>?_)
   ·refine oY E (yMB E) ?_
    refine oJ 2 (fun g=>(upd (upd (upd (upd g 4 (.bool false)) 9 (.bool D)) 10 (.bool I)) 51 (.bool ((((K&&M)&&N)&&(p1.fFrom !=p1.fTo))&&X)))) (fun g=>?_) (fun key=>?_)
    ·refine oY E (yMB E) ?_
     refine oJ 2 (fun g=>(upd (upd (upd g 4 (.bool false)) 10 (.bool I)) 54 (.bool (((((K&&M)&&N)&&(p1.fFrom !=p1.fTo))&&X)&&D)))) (fun g=>?_) (fun key=>?_)
     ·refine oY E (yMB E) ?_
      refine oJ 2 (fun g=>(upd (upd g 4 (.bool false)) 57 (.bool ((((((K&&M)&&N)&&(p1.fFrom !=p1.fTo))&&X)&&D)&&I)))) (fun g=>?_) (fun key=>?_)
      ·refine oY E (yAB E) (oN (eT (am ?_)))
       obtain rfl:=sI h
       exact ak (.inl E) E (rVt (v:=.bool ((((((K&&M)&&N)&&(p1.fFrom !=p1.fTo))&&X)&&D)&&I)) E) (fun W2 H=>⟨E,H.none⟩)
      ·rcases aq (((((K&&M)&&N)&&(p1.fFrom !=p1.fTo))&&X)&&D)with o|o
       ·refine oY (sT E E E E o) (yMB E) (oY E (ac (vB o) E) ?_)
        exact key _ _ (keep (keep E E) (vB (eU o)))
       ·refine oSk (sF E E E E o) (oY E (ad (vB o) E) ?_)
        exact key _ _ (keep (keep E E) (vB (eY o)))
     ·rcases aq ((((K&&M)&&N)&&(p1.fFrom !=p1.fTo))&&X)with r|r
      ·refine oY (sT E E E E r) (yMB E) (oY E (ac (vB r) E) ?_)
       exact key _ _ (keep (keep (keep E E) E) (vB (eU r)))
      ·refine oSk (sF E E E E r) (oY E (ad (vB r) E) ?_)
       exact key _ _ (keep (keep (keep E E) E) (vB (eY r)))
    ·rcases aq (((K&&M)&&N)&&(p1.fFrom !=p1.fTo))with u|u
     ·refine oY (sT E E E E u) (yMB E) (oY E (ac (vB u) E) ?_)
      exact key _ _ (keep (keep (keep (keep E E) E) E) (vB (eU u)))
     ·refine oSk (sF E E E E u) (oY E (ad (vB u) E) ?_)
      exact key _ _ (keep (keep (keep (keep E E) E) E) (vB (eY u)))
   ·rcases aq ((K&&M)&&N)with f|f
    ·refine oY (sT E E E E f) (yFA gO E) (oY (sT E E E E f) (yL 1 aN E E E) (oY (sT E E E E f) (yFA gg E) (oY (sT E E E E f) (yL 1 aN E E E) (oY (sT E E E E f) (cU E E) (oY E (ac (vB f) E) ?_)))))
     exact key _ _ (keep (keep (keep (keep (keep E E) E) E) E) (vB (eU f)))
    ·refine oSk (sF E E E E f) (oSk (sF E E E E f) (oSk (sF E E E E f) (oSk (sF E E E E f) (oSk (sF E E E E f) (oY E (ad (vB f) E) ?_)))))
     exact key _ _ (keep (keep (keep (keep (keep E E) E) E) E) (vB (eY f)))
  ·rcases aq (K&&M)with d|d
   ·refine oY (sT E E E E d) (yMB E) (oY E (ac (vB d) E) ?_)
    exact key _ _ (keep (keep (keep (keep (keep (keep E E) E) E) E) E) (vB (eU d)))
   ·refine oSk (sF E E E E d) (oY E (ad (vB d) E) ?_)
    exact key _ _ (keep (keep (keep (keep (keep (keep E E) E) E) E) E) (vB (eY d)))
 ·rcases aq K with w|w
  ·refine oY (sT E E E E w) (yMB E) (oY E (ac (vB w) E) ?_)
   exact key _ _ (keep (keep (keep (keep (keep (keep (keep E E) E) E) E) E) E) (vB (eU w)))
  ·refine oSk (sF E E E E w) (oY E (ad (vB w) E) ?_)
   exact key _ _ (keep (keep (keep (keep (keep (keep (keep E E) E) E) E) E) E) (vB (eY w)))
theorem pl (p0:TR) (res:Int) (h:iL p0=some res) (W:World) (Ab:Option Addr) (H cb:Nat) (g:List (Hd × TT)) (O:H=p0.fTracks.length) (r:Rd W Ab H cb (encL TTrack_cells2 g)) (f:NestW W (fun z:TT=>z.fK) TSpan_cells g p0.fTracks) :
  Calls Tryz.prog 125 [.agg #[vI p0.fPlaces,.slice Ab H cb]].toArray W fun e W2=>e=.returned (vI res)∧Ext W W2 []:=by
 subst O
 unfold iL at h
 refine ag (m:=52) Tryz.func125 E E (nB E) (cS (cR ?_))
 refine aI [vI p0.fPlaces,.slice Ab p0.fTracks.length cb] E E E (fun Z=>?_)
 refine oY E (yAI E) (oN (eT (cS (cS (cR (oY E (yFA dE E) (oY E (yL 0 aN E E E) (oY E (a6 E E) (oY E (yMB E) ?_)))))))))
 refine oJ 4 (fun G=>(upd (upd (upd G 1 (.pointer (some ⟨Z,0,none⟩))) 2 (vI 0)) 13 (.bool ((decide (p0.fPlaces<1))||(decide (16<p0.fPlaces)))))) (fun G=>?_) (fun key=>?_)
 ·refine oN (eT ?_)
  rcases iOs h with⟨Q,h⟩|⟨Q,h⟩
  ·refine cT (vB Q) (cS (cR (oY E (yAI E) (oN (eT (am (aa ?_)))))))
   obtain rfl:=sI h
   exact ak (.inl E) E (rVt (v:=vI 1) E) (fun W2 u=>⟨E,u.none⟩)
  ·refine cF (vB Q) (cK (eT (cS (cS (cR (oY E (yFA bI E) (oY E (yL 0 f7 E E E) (oY E (bg (us:=[]) ij E) (oY E (eW E E) (oN (eT ?_)))))))))))
   rcases iOs h with⟨U,h⟩|⟨U,h⟩
   ·refine cT (vB U) (cS (cR (oY E (yAI E) (oN (eT (am (aa ?_)))))))
    obtain rfl:=sI h
    exact ak (.inl E) E (rVt (v:=vI 2) E) (fun W2 u=>⟨E,u.none⟩)
   ·refine cF (vB U) (cK (eT (cS (cS (cR (oY E (yAI E) (oN (eT (cB ?_)))))))))
    obtain⟨x,V,h⟩:=bOs h
    refine ba (fun(s:(Int × Int)) L tm=>∃(G:Nat→Value),L=[al Z 24 [vI p0.fPlaces,.slice Ab p0.fTracks.length cb]]∧tm=(upd (upd (upd G 1 (.pointer (some ⟨Z,0,none⟩))) 2 (vI s.1)) 3 (vI s.2))) 0 V ⟨_,E,(kp (kp (kp E)))⟩ ?_ ?_
    ·rintro o L tm st ⟨a,rfl,rfl⟩ h
     unfold fu at h
     refine cS (cS (cR (oY E (yMI E) (oY E (yFA bI E) (oY E (yL 0 f7 E E E) (oY E (bg (us:=[]) ij E) (oY E (a6 E E) (oN (eT ?_)))))))))
     rcases iOs h with⟨X,h⟩|⟨X,h⟩
     ·refine cT (vB X) (cK (eT (cS (cB (cS ?_)))))
      refine aX 8 bZ (by kernel_rfl) (by kernel_rfl) ?_
      refine qY E (yN 0 [vI p0.fPlaces,.slice Ab p0.fTracks.length cb] dh E E E) (qY E (yFA bI E) (qY E (yL 0 f7 E E E) (qY E (yMI E) ?_)))
      obtain⟨w,h⟩:=gOs h
      refine qY E (yI iI (by decide) w.1 w.2 (RdL.arg r) (eL ar (NestP.hn f.p E)) E E) ?_
      refine qY E (yM (A:=Ab) (j:=(Int.toNat o.2*6)) [vI ((rdL p0.fTracks o.2).fID),vI ((rdL p0.fTracks o.2).fFrom),vI ((rdL p0.fTracks o.2).fTo),vI ((rdL p0.fTracks o.2).fLong),vI ((rdL p0.fTracks o.2).fToll),.slice ((rdL g o.2).1.1) ((rdL p0.fTracks o.2).fK.length) ((rdL g o.2).1.2.2)] gl (Nat.succ_pos _) (RdL.arg r) E (iM (bB (NestP.snd f.p o.2) (NestP.len f.p w.1 (ai w.2 E))).symm (be ar w.1 (ai w.2 (NestP.hn f.p E))))) ?_
      obtain⟨Y,T,h⟩:=bOs h
      refine qY E (yC [.agg #[vI p0.fPlaces,.slice Ab p0.fTracks.length cb],.agg #[vI ((rdL p0.fTracks o.2).fID),vI ((rdL p0.fTracks o.2).fFrom),vI ((rdL p0.fTracks o.2).fTo),vI ((rdL p0.fTracks o.2).fLong),vI ((rdL p0.fTracks o.2).fToll),.slice ((rdL g o.2).1.1) ((rdL p0.fTracks o.2).fK.length) ((rdL g o.2).1.2.2)]] go_160 E (fun W2 u=>o6 p0 (TT.mk ((rdL p0.fTracks o.2).fID) ((rdL p0.fTracks o.2).fFrom) ((rdL p0.fTracks o.2).fTo) ((rdL p0.fTracks o.2).fLong) ((rdL p0.fTracks o.2).fToll) ((rdL p0.fTracks o.2).fK)) Y T W2 Ab p0.fTracks.length cb g E ((RdL.arg r) W2 u) (NestL.at (NestL.arg f) W2 u) ((rdL g o.2).1.1) ((rdL p0.fTracks o.2).fK.length) ((rdL g o.2).1.2.2) E ((NestL.rd (NestL.arg f) w.1 (ai w.2 E)) W2 u)) E) (qY E (yAB E) (bF (oN (eT (cS (cS (cR (oY E (yMB E) (oY E (bw E) (oN (eT ?_)))))))))))
      rcases iOs h with⟨I,h⟩|⟨I,h⟩
      ·refine cT (vB I) (cS (cR (oY E (yAI E) (oN (eT (am (aa (ah (aa ?_)))))))))
       obtain rfl:=sI h
       exact au ⟨E,_,E,(kp (kp (kp E)))⟩
      ·refine cF (vB I) (cK (eT (cS (cR (oY E (yAI E) (oN (eT (cB ?_))))))))
       obtain⟨i,S,h⟩:=bOs h
       refine ba (fun(s:(Int × Int)) L tm=>∃(G:Nat→Value),L=[al Z 24 [vI p0.fPlaces,.slice Ab p0.fTracks.length cb]]∧tm=(upd (upd (upd (upd (upd (upd (upd G 1 (.pointer (some ⟨Z,0,none⟩))) 2 (vI s.1)) 3 (vI o.2)) 22 (.bool (decide (o.2<(p0.fTracks.length:Int))))) 4 (.bool Y)) 33 (.bool (!Y))) 5 (vI s.2))) 2 S ⟨_,E,(kp4 (kp (kp (kp E))))⟩ ?_ ?_
       ·rintro N L tm st ⟨R,rfl,rfl⟩ h
        unfold fj at h
        refine cS (cS (cR (oY E (yMI E) (oY E (yMI E) (oY E (a6 E E) (oN (eT ?_)))))))
        rcases iOs h with⟨K,h⟩|⟨K,h⟩
        ·refine cT (vB K) (cK (eT (cS (cB (cS ?_)))))
         refine aX 13 bZ (by kernel_rfl) (by kernel_rfl) ?_
         refine qY E (yFA bI E) (qY E (yL 0 f7 E E E) (qY E (yMI E) ?_))
         obtain⟨D,h⟩:=gOs h
         refine qY E (yI iI (by decide) D.1 D.2 (RdL.arg r) (eL ar (NestP.hn f.p E)) E E) ?_
         refine qY E (yFR (A:=Ab) (j:=(Int.toNat N.2*6)) im E) (qY E (yR (A:=Ab) (j:=((Int.toNat N.2*6)+0)) (v:=vI ((rdL p0.fTracks N.2).fID)) aN (RdL.arg r) E (eG ar D.1 (ai D.2 (NestP.hn f.p E)) (congrArg (fun z:TT=>some (Value.int .i64 z.fID)) (NestP.snd f.p N.2)))) (qY E (yFA bI E) (qY E (yL 0 f7 E E E) (qY E (yMI E) ?_))))
         obtain⟨F,h⟩:=gOs h
         refine qY E (yI iI (by decide) F.1 F.2 (RdL.arg r) (eL ar (NestP.hn f.p E)) E E) ?_
         refine qY E (yFR (A:=Ab) (j:=(Int.toNat o.2*6)) im E) (qY E (yR (A:=Ab) (j:=((Int.toNat o.2*6)+0)) (v:=vI ((rdL p0.fTracks o.2).fID)) aN (RdL.arg r) E (eG ar F.1 (ai F.2 (NestP.hn f.p E)) (congrArg (fun z:TT=>some (Value.int .i64 z.fID)) (NestP.snd f.p o.2)))) (qY E (cL E E) (bF (oN (eT ?_)))))
         rcases iOs h with⟨M,h⟩|⟨M,h⟩
         ·refine cT (vB M) (cS (cR (oY E (yAI E) (oN (eT (am (ah (aa ?_))))))))
          obtain rfl:=sI h
          exact au ⟨E,_,E,(kp4 (kp (kp (kp E))))⟩
         ·refine cF (vB M) (cK (aw (eT (cR (oY E (yMI E) (oY E (aM E E) (oY E (yAI E) (oN ?_))))))))
          obtain rfl:=sI h
          exact eN ⟨_,E,(kp4 (kp (kp (kp E))))⟩
        ·refine cF (vB K) (aD (aj ?_))
         obtain rfl:=sI h
         exact au ⟨E,_,E,(kp4 (kp (kp (kp E))))⟩
       ·intro e L tm hJ
        rcases i with y|b
        ·dsimp only at h hJ
         obtain⟨rfl,q,rfl,rfl⟩:=hJ
         refine⟨(by intro hc;cases hc),?_⟩
         refine ah (ah (aa ?_))
         obtain rfl:=sI h
         exact au ⟨E,_,E,(kp (kp (kp E)))⟩
        ·dsimp only at h hJ
         obtain⟨rfl,n,rfl,rfl⟩:=hJ
         refine⟨(by intro hc;cases hc),?_⟩
         refine ae (aw (eT (cR (oY E (yMI E) (oY E (aM E E) (oY E (yAI E) (oN ?_)))))))
         obtain rfl:=sI h
         exact eN ⟨_,E,(kp (kp (kp E)))⟩
     ·refine cF (vB X) (aD (aj ?_))
      obtain rfl:=sI h
      exact au ⟨E,_,E,(kp (kp (kp E)))⟩
    ·intro e L tm hJ
     rcases x with k|c
     ·dsimp only at h hJ
      obtain⟨rfl,l,rfl,rfl⟩:=hJ
      refine⟨(by intro hc;cases hc),?_⟩
      refine ah (aa ?_)
      obtain rfl:=sI h
      exact ak (.inl E) E (rVt (v:=vI k.1) E) (fun W2 u=>⟨E,u.none⟩)
     ·dsimp only at h hJ
      obtain⟨rfl,t,rfl,rfl⟩:=hJ
      refine⟨(by intro hc;cases hc),?_⟩
      refine ae (eT (cS (cR (oY E (yAI E) (oN (eT (am ?_)))))))
      obtain rfl:=sI h
      exact ak (.inl E) E (rVt (v:=vI 0) E) (fun W2 u=>⟨E,u.none⟩)
 ·rcases aq (decide (p0.fPlaces<1))with d|d
  ·refine oSk (sF E E E E d) (oSk (sF E E E E d) (oSk (sF E E E E d) (oY E (ac (vB d) E) ?_)))
   exact key _ _ (keep (keep (keep E E) E) (vB (iy d)))
  ·refine oY (sT E E E E d) (yFA dE E) (oY (sT E E E E d) (yL 0 aN E E E) (oY (sT E E E E d) (eW E E) (oY E (ad (vB d) E) ?_)))
   exact key _ _ (keep (keep (keep E E) E) (vB (iw d)))
theorem jk (p0:TR) (p1:Int) (p2:Int) (p3:Int) (p4:Int) (res:Int) (h:fU p0 p1 p2 p3 p4=some res) (W:World) (Ab:Option Addr) (w cb:Nat) (d:List (Hd × TT)) (G:w=p0.fTracks.length) (H:Rd W Ab w cb (encL TTrack_cells2 d)) (I:NestW W (fun z:TT=>z.fK) TSpan_cells d p0.fTracks) :
  Calls Tryz.prog 73 [.agg #[vI p0.fPlaces,.slice Ab w cb],vI p1,vI p2,vI p3,vI p4].toArray W fun e W2=>e=.returned (vI res)∧Ext W W2 []:=by
 subst G
 unfold fU at h
 refine ag (m:=49) Tryz.func73 E E (nB E) (cS (cR ?_))
 refine aI [vI p0.fPlaces,.slice Ab p0.fTracks.length cb] E E E (fun T=>?_)
 refine oY E (yAI E) (oN (eT (cS (cR (oY E (yN 0 [vI p0.fPlaces,.slice Ab p0.fTracks.length cb] dh E E E) ?_)))))
 obtain⟨V,X,h⟩:=bOs h
 refine oY E (yC [.agg #[vI p0.fPlaces,.slice Ab p0.fTracks.length cb]] go_125 E (fun W2 r=>pl p0 V X W2 Ab p0.fTracks.length cb d E ((RdL.arg H) W2 r) (NestL.at (NestL.arg I) W2 r)) E) (oY E (yAI E) (oN (eT (cS (cS (cR (oY E (yMI E) (oY E (cU E E) (oN (eT ?_))))))))))
 rcases iOs h with⟨K,h⟩|⟨K,h⟩
 ·refine cT (vB K) (cS (cR (oY E (yMI E) (oY E (yAI E) (oN (eT (am (aa ?_))))))))
  obtain rfl:=sI h
  exact ak (.inl E) E (rVt (v:=vI V) E) (fun W2 r=>⟨E,r.none⟩)
 ·refine cF (vB K) (cK (eT (cS (cR (oY E (yMI E) (oY E (yFA dE E) (oY E (yL 0 aN E E E) (oY E (fe E E) ?_))))))))
  obtain⟨M,Y,h⟩:=bOs h
  refine oY E (yC [vI p1,vI 0,vI (w64 (p0.fPlaces-1))] gk E (fun W2 r=>aO p1 0 (w64 (p0.fPlaces-1)) M Y W2 ) E) (oY E (yAB E) (oN (eT (cS (cR (oY E (yMI E) (oY E (yFA dE E) (oY E (yL 0 aN E E E) (oY E (fe E E) ?_)))))))))
  obtain⟨N,Z,h⟩:=bOs h
  refine oY E (yC [vI p2,vI 0,vI (w64 (p0.fPlaces-1))] gk E (fun W2 r=>aO p2 0 (w64 (p0.fPlaces-1)) N Z W2 ) E) (oY E (yAB E) (oN (eT (cS (cR (oY E (yMI E) ?_))))))
  obtain⟨O,Q,h⟩:=bOs h
  refine oY E (yC [vI p3] qX E (fun W2 r=>db p3 O Q W2 ) E) (oY E (yAB E) (oN (eT (cS (cR (oY E (yMI E) ?_))))))
  obtain⟨F,U,h⟩:=bOs h
  refine oY E (yC [vI p4,vI 0,vI 60] gk E (fun W2 r=>aO p4 0 60 F U W2 ) E) (oY E (yAB E) (oN (eT (cS (cS (cR (oY E (yMB E) (oY E (bw E) (oY E (yMB E) ?_)))))))))
  refine oJ 3 (fun u=>(upd (upd (upd (upd u 10 (vI 0)) 14 (.bool O)) 15 (.bool F)) 40 (.bool ((!M)||(!N))))) (fun u=>?_) (fun key=>?_)
  ·refine oY E (yMB E) ?_
   refine oJ 3 (fun u=>(upd (upd (upd u 10 (vI 0)) 15 (.bool F)) 44 (.bool (((!M)||(!N))||(!O))))) (fun u=>?_) (fun key=>?_)
   ·refine oY E (yMB E) ?_
    refine oJ 3 (fun u=>(upd (upd u 10 (vI 0)) 48 (.bool ((((!M)||(!N))||(!O))||(!F))))) (fun u=>?_) (fun key=>?_)
    ·refine oN (eT ?_)
     rcases iOs h with⟨D,h⟩|⟨D,h⟩
     ·refine cT (vB D) (cS (cR (oY E (yAI E) (oN (eT (am (aa ?_)))))))
      obtain rfl:=sI h
      exact ak (.inl E) E (rVt (v:=vI 1) E) (fun W2 r=>⟨E,r.none⟩)
     ·refine cF (vB D) (cK (eT (cS (cR (oY E (yAI E) (oN (eT (am ?_))))))))
      obtain rfl:=sI h
      exact ak (.inl E) E (rVt (v:=vI 0) E) (fun W2 r=>⟨E,r.none⟩)
    ·rcases aq (((!M)||(!N))||(!O))with f|f
     ·refine oSk (sF E E E E f) (oSk (sF E E E E f) (oY E (ac (vB f) E) ?_))
      exact key _ _ (keep (keep E E) (vB (iy f)))
     ·refine oY (sT E E E E f) (yMB E) (oY (sT E E E E f) (bw E) (oY E (ad (vB f) E) ?_))
      exact key _ _ (keep (keep E E) (vB (iw f)))
   ·rcases aq ((!M)||(!N))with g|g
    ·refine oSk (sF E E E E g) (oSk (sF E E E E g) (oY E (ac (vB g) E) ?_))
     exact key _ _ (keep (keep (keep E E) E) (vB (iy g)))
    ·refine oY (sT E E E E g) (yMB E) (oY (sT E E E E g) (bw E) (oY E (ad (vB g) E) ?_))
     exact key _ _ (keep (keep (keep E E) E) (vB (iw g)))
  ·rcases aq (!M)with o|o
   ·refine oSk (sF E E E E o) (oSk (sF E E E E o) (oY E (ac (vB o) E) ?_))
    exact key _ _ (keep (keep (keep (keep E E) E) E) (vB (iy o)))
   ·refine oY (sT E E E E o) (yMB E) (oY (sT E E E E o) (bw E) (oY E (ad (vB o) E) ?_))
    exact key _ _ (keep (keep (keep (keep E E) E) E) (vB (iw o)))
theorem pj (p0:TT) (p1:Int) (res:Int) (h:iQ p0 p1=some res) (W:World) (f:Option Addr) (d r:Nat) (I:d=p0.fK.length) (g:Rd W f d r (encL TSpan_cells p0.fK)) :
  Calls Tryz.prog 161 [.agg #[vI p0.fID,vI p0.fFrom,vI p0.fTo,vI p0.fLong,vI p0.fToll,.slice f d r],vI p1].toArray W fun e W2=>e=.returned (vI res)∧Ext W W2 []:=by
 subst I
 unfold iQ at h
 refine ag (m:=44) Tryz.func161 E E (nB E) (cS (cR ?_))
 refine aI [vI p0.fID,vI p0.fFrom,vI p0.fTo,vI p0.fLong,vI p0.fToll,.slice f p0.fK.length r] E E E (fun V=>?_)
 refine oY E (yAI E) (oN (eT (cS (cR (oY E (yMI E) (oY E (yAI E) (oN (eT (cS (cS (cR (oY E (yAI E) (oN (eT (cB ?_)))))))))))))))
 obtain⟨U,M,h⟩:=bOs h
 refine bi (fun(s:(Int × Int)) L tm=>∃(X:Nat→Value),L=[al V 120 [vI p0.fID,vI p0.fFrom,vI p0.fTo,vI p0.fLong,vI p0.fToll,.slice f p0.fK.length r]]∧tm=(upd (upd (upd (upd X 2 (.pointer (some ⟨V,0,none⟩))) 4 (vI 0)) 5 (vI s.1)) 6 (vI s.2))) 0 M ⟨_,E,(kp4 E)⟩ ?_ ?_
 ·rintro o L tm st ⟨O,rfl,rfl⟩ h
  unfold dU at h
  refine cS (cS (cR (oY E (yMI E) (oY E (yFA fC E) (oY E (yL 0 j9 E E E) (oY E (bg (us:=[]) lW E) (oY E (a6 E E) (oN (eT ?_)))))))))
  rcases iOs h with⟨K,h⟩|⟨K,h⟩
  ·refine cT (vB K) (cK (eT (cS (cB (cS ?_)))))
   refine aX 15 bZ (by kernel_rfl) (by kernel_rfl) ?_
   refine qY E (yMI E) (qY E (yFA fC E) (qY E (yL 0 j9 E E E) (qY E (yMI E) ?_)))
   obtain⟨G,h⟩:=gOs h
   refine qY E (yI jx (by decide) G.1 G.2 (RdL.arg g) (eL aE E) E E) ?_
   refine qY E (yFR (A:=f) (j:=(Int.toNat o.2*2)) gt E) (qY E (yR (A:=f) (j:=((Int.toNat o.2*2)+0)) (v:=vI ((rdL p0.fK o.2).fLo)) aN (RdL.arg g) E (eG aE G.1 (ai G.2 E) E)) (qY E (yFA fC E) (qY E (yL 0 j9 E E E) (qY E (yMI E) ?_))))
   obtain⟨H,h⟩:=gOs h
   refine qY E (yI jx (by decide) H.1 H.2 (RdL.arg g) (eL aE E) E E) ?_
   refine qY E (yFR (A:=f) (j:=(Int.toNat o.2*2)) eH E) (qY E (yR (A:=f) (j:=((Int.toNat o.2*2)+1)) (v:=vI ((rdL p0.fK o.2).fHi)) aN (RdL.arg g) E (eG aE H.1 (ai H.2 E) E)) ?_)
   obtain⟨T,Y,h⟩:=bOs h
   refine qY E (yC [vI o.1,vI ((rdL p0.fK o.2).fLo),vI ((rdL p0.fK o.2).fHi)] gk E (fun W2 w=>aO o.1 ((rdL p0.fK o.2).fLo) ((rdL p0.fK o.2).fHi) T Y W2 ) E) (qY E (yAB E) (bF (oN (eT (cS (cR (oY E (yMB E) (oN (eT ?_)))))))))
   rcases iOs h with⟨D,h⟩|⟨D,h⟩
   ·refine cT (vB D) (cR (oY E (yFA fC E) (oY E (yL 0 j9 E E E) (oY E (yMI E) ?_))))
    obtain⟨u,h⟩:=gOs h
    refine oY E (yI jx (by decide) u.1 u.2 (RdL.arg g) (eL aE E) E E) ?_
    refine oY E (yFR (A:=f) (j:=(Int.toNat o.2*2)) eH E) (oY E (yR (A:=f) (j:=((Int.toNat o.2*2)+1)) (v:=vI ((rdL p0.fK o.2).fHi)) aN (RdL.arg g) E (eG aE u.1 (ai u.2 E) E)) (oY E (aM E E) (oY E (yAI E) (oN (aw (eT (cR (oY E (yMI E) (oY E (aM E E) (oY E (yAI E) (oN ?_)))))))))))
    obtain rfl:=sI h
    exact eN ⟨_,E,(kp4 E)⟩
   ·refine cF (vB D) (cK (aw (eT (cR (oY E (yMI E) (oY E (aM E E) (oY E (yAI E) (oN ?_))))))))
    obtain rfl:=sI h
    exact eN ⟨_,E,(kp4 E)⟩
  ·refine cF (vB K) (aD (aj ?_))
   obtain rfl:=sI h
   exact au ⟨E,_,E,(kp4 E)⟩
 ·intro e L tm hJ
  obtain⟨rfl,Q,rfl,rfl⟩:=hJ
  refine⟨(by intro hc;cases hc),?_⟩
  refine ae (eT (cS (cR (oY E (yMI E) ?_))))
  obtain⟨Z,N,h⟩:=bOs h
  refine oY E (yC [vI U.1] qX E (fun W2 w=>db U.1 Z N W2 ) E) (oY E (yAB E) (oN (eT (cS (cS (cR (oY E (yMB E) (oY E (bw E) (oN (eT ?_))))))))))
  rcases iOs h with⟨F,h⟩|⟨F,h⟩
  ·refine cT (vB F) (cS (cR (oY E (yAI E) (oN (eT (am (aa ?_)))))))
   obtain rfl:=sI h
   exact ak (.inl E) E (rVt (v:=vI (-1)) E) (fun W2 w=>⟨E,w.none⟩)
  ·refine cF (vB F) (cK (eT (cS (cR (oY E (yMI E) (oY E (yAI E) (oN (eT (am ?_)))))))))
   obtain rfl:=sI h
   exact ak (.inl E) E (rVt (v:=vI U.1) E) (fun W2 w=>⟨E,w.none⟩)
theorem j8 (p0:TT) (p1:Int) (res:Int) (h:eV p0 p1=some res) (W:World) (g:Option Addr) (u o:Nat) (d:u=p0.fK.length) (w:Rd W g u o (encL TSpan_cells p0.fK)) :
  Calls Tryz.prog 126 [.agg #[vI p0.fID,vI p0.fFrom,vI p0.fTo,vI p0.fLong,vI p0.fToll,.slice g u o],vI p1].toArray W fun e W2=>e=.returned (vI res)∧Ext W W2 []:=by
 subst d
 unfold eV at h
 refine ag (m:=24) Tryz.func126 E E (nB E) (cS (cR ?_))
 refine aI [vI p0.fID,vI p0.fFrom,vI p0.fTo,vI p0.fLong,vI p0.fToll,.slice g p0.fK.length o] E E E (fun K=>?_)
 refine oY E (yAI E) (oN (eT (cS (cS (cR (oY E (yMI E) (oY E (a6 E E) (oN (eT ?_)))))))))
 rcases iOs h with⟨D,h⟩|⟨D,h⟩
 ·refine cT (vB D) (cS (cR (oY E (yAI E) (oN (eT (am (aa ?_)))))))
  obtain rfl:=sI h
  exact ak (.inl E) E (rVt (v:=vI (-1)) E) (fun W2 r=>⟨E,r.none⟩)
 ·refine cF (vB D) (cK (eT (cS (cR (oY E (yN 0 [vI p0.fID,vI p0.fFrom,vI p0.fTo,vI p0.fLong,vI p0.fToll,.slice g p0.fK.length o] gl E E E) (oY E (yMI E) ?_))))))
  obtain⟨G,I,h⟩:=bOs h
  refine oY E (yC [.agg #[vI p0.fID,vI p0.fFrom,vI p0.fTo,vI p0.fLong,vI p0.fToll,.slice g p0.fK.length o],vI p1] go_161 E (fun W2 r=>pj p0 p1 G I W2 g p0.fK.length o E ((RdL.arg w) W2 r)) E) (oY E (yAI E) (oN (eT (cS (cS (cR (oY E (yMI E) (oY E (a6 E E) (oY E (yMB E) ?_)))))))))
  refine oJ 6 (fun H=>(upd (upd (upd (upd H 2 (.pointer (some ⟨K,0,none⟩))) 4 (vI 0)) 5 (vI G)) 19 (.bool ((decide (G<0))||(decide (16384<w64 (G+p0.fLong))))))) (fun H=>?_) (fun key=>?_)
  ·refine oN (eT ?_)
   rcases iOs h with⟨F,h⟩|⟨F,h⟩
   ·refine cT (vB F) (cS (cR (oY E (yAI E) (oN (eT (am (aa ?_)))))))
    obtain rfl:=sI h
    exact ak (.inl E) E (rVt (v:=vI (-1)) E) (fun W2 r=>⟨E,r.none⟩)
   ·refine cF (vB F) (cK (eT (cS (cR (oY E (yMI E) (oY E (yFA fy E) (oY E (yL 0 aN E E E) (oY E (aM E E) (oY E (yAI E) (oN (eT (am ?_))))))))))))
    obtain rfl:=sI h
    exact ak (.inl E) E (rVt (v:=vI (w64 (G+p0.fLong))) E) (fun W2 r=>⟨E,r.none⟩)
  ·rcases aq (decide (G<0))with f|f
   ·refine oSk (sF E E E E f) (oSk (sF E E E E f) (oSk (sF E E E E f) (oSk (sF E E E E f) (oSk (sF E E E E f) (oY E (ac (vB f) E) ?_)))))
    exact key _ _ (keep (keep (keep (keep E E) E) E) (vB (iy f)))
   ·refine oY (sT E E E E f) (yMI E) (oY (sT E E E E f) (yFA fy E) (oY (sT E E E E f) (yL 0 aN E E E) (oY (sT E E E E f) (aM E E) (oY (sT E E E E f) (eW E E) (oY E (ad (vB f) E) ?_)))))
    exact key _ _ (keep (keep (keep (keep E E) E) E) (vB (iw f)))
theorem kr (p0:Int) (p1:Int) (res:Bool) (h:fY p0 p1=some res) (W:World)  :
  Calls Tryz.prog 127 [vI p0,vI p1].toArray W fun e W2=>e=.returned (.bool res)∧Ext W W2 []:=by
 unfold fY at h
 refine ag (m:=16) Tryz.func127 E E (nB E) (cS (cR (oY E (yAB E) (oN (eT (cS (cR (oY E (yMI E) (oY E (mW E E) (oY E (yMB E) ?_))))))))))
 refine oJ 8 (fun o=>(upd (upd o 4 (.bool false)) 15 (.bool ((decide (0≤p0))&&((decide (p1<0))||(decide (p0<p1))))))) (fun o=>?_) (fun key=>?_)
 ·refine oY E (yAB E) (oN (eT (am ?_)))
  obtain rfl:=sI h
  exact ak (.inl E) E (rVt (v:=.bool ((decide (0≤p0))&&((decide (p1<0))||(decide (p0<p1))))) E) (fun W2 r=>⟨E,r.none⟩)
 ·rcases aq (decide (0≤p0))with f|f
  ·refine oY (sT E E E E f) (yMI E) (oY (sT E E E E f) (a6 E E) (oY (sT E E E E f) (yMB E) ?_))
   refine oJ 4 (fun o=>(upd (upd (upd o 4 (.bool false)) 7 (.bool (decide (0≤p0)))) 14 (.bool ((decide (p1<0))||(decide (p0<p1)))))) (fun o=>?_) (fun key=>?_)
   ·refine oY E (ac (vB f) E) ?_
    exact key _ _ (keep (keep E E) (vB (eU f)))
   ·rcases aq (decide (p1<0))with g|g
    ·refine oSk (sF E E E E g) (oSk (sF E E E E g) (oSk (sF E E E E g) (oY (sT E E E E f) (ac (vB g) E) ?_)))
     exact key _ _ (keep (keep (keep E E) E) (vB (iy g)))
    ·refine oY (sT E E E E g) (yMI E) (oY (sT E E E E g) (yMI E) (oY (sT E E E E g) (a6 E E) (oY (sT E E E E f) (ad (vB g) E) ?_)))
     exact key _ _ (keep (keep (keep E E) E) (vB (iw g)))
  ·refine oSk (sF E E E E f) (oSk (sF E E E E f) (oSk (sF E E E E f) (oSk E (oSk E (oSk E (oSk (sF E E E E f) (oY E (ad (vB f) E) ?_)))))))
   exact key _ _ (keep (keep E E) (vB (eY f)))
theorem mC (p0:TR) (p1:Int) (p2:Int) (res:(List (List Int))) (h:dZ p0 p1 p2=some res) (W:World) (Ab:Option Addr) (om cb:Nat) (N:List (Hd × TT)) (uI:om=p0.fTracks.length) (ot:Rd W Ab om cb (encL TTrack_cells2 N)) (f3:NestW W (fun z:TT=>z.fK) TSpan_cells N p0.fTracks) (wb:World) (Hb:World→Prop) (hB:∀W3,Below W.heap.size W W3→Below wb.heap.size wb W3∧Hb W3) :
  Calls Tryz.prog 75 [.agg #[vI p0.fPlaces,.slice Ab om cb],vI p1,vI p2].toArray W fun e W2=>∃x:((Option Addr × Nat × Nat) × (List (Hd × (List Int))) × Res),(x.1.2.1=res.length∧NestP (fun z:(List Int)=>z) x.2.1 res∧PvL (fun z:(List Int)=>z) cI wb (fun W4=>Hb W4∧Res.holds x.2.2 W4) x.2.1)∧e=.returned (.slice x.1.1 x.1.2.1 x.1.2.2)∧Ext W W2 [aP x.1.1 x.1.2.2 42 1 x.1.2.1 (encL SlInt_cells2 x.2.1),x.2.2]:=by
 subst uI
 unfold dZ at h
 refine ag (m:=149) Tryz.func75 E E (nB E) (cS (cR ?_))
 refine aI [vI p0.fPlaces,.slice Ab p0.fTracks.length cb] E E E (fun b1=>?_)
 refine oY E (yAS E) (oN (eT (cS (cR (oY E (yFA dE E) (oY E (yL 0 aN E E E) ?_))))))
 obtain⟨uM,h⟩:=gOs h
 refine rO (encL SlInt_cells2 (List.replicate (Int.toNat p0.fPlaces) nilY)) nq ze_42 by_42 uM.1 uM.2 E (qn _ _ _ E E) E (fun b2=>?_)
 refine ox_addIn (e:=3) (k:=Int.toNat p0.fPlaces) (oY E (yAS E) (oN (eT (cS (cS (cR (oY E (yAI E) (oN (eT (cB ?_))))))))))
 obtain⟨u7,uN,h⟩:=bOs h
 refine bi (fun(s:(Int × (List (List Int)))) L tm=>∃(b:Nat→Value) (H:List (Hd × (List Int))),Int.toNat p0.fPlaces=s.2.length∧NestP (fun z:(List Int)=>z) H s.2∧L=[al b1 24 [vI p0.fPlaces,.slice Ab p0.fTracks.length cb],aP (some ⟨b2,0,none⟩) (Int.toNat p0.fPlaces) 42 1 (Int.toNat p0.fPlaces) (encL SlInt_cells2 H),inR 3 H]∧tm=(upd (upd (upd (upd (upd (upd b 1 (vI p1)) 2 (vI p2)) 3 (.pointer (some ⟨b1,0,none⟩))) 6 (.slice none 0 0)) 7 (.slice (some ⟨b2,0,none⟩) (Int.toNat p0.fPlaces) (Int.toNat p0.fPlaces))) 8 (vI s.1))) 0 uN ⟨_,(List.replicate (Int.toNat p0.fPlaces) nilY),(List.length_replicate).symm,NestP.nils,E,(kp4 (kp (kp E)))⟩ ?_ ?_
 ·rintro O L tm st ⟨ub,f2,t,a,rfl,rfl⟩ h
  unfold dx at h
  refine cS (cS (cR (oY E (yMI E) (oY E (yFA dE E) (oY E (yL 0 aN E E E) (oY E (a6 E E) (oN (eT ?_))))))))
  rcases iOs h with⟨uK,h⟩|⟨uK,h⟩
  ·refine cT (vB uK) (cK (eT (cS (cB (cS (cR (oY E (yMS E) (oY E (yMI E) ?_))))))))
   obtain⟨uH,h⟩:=gOs h
   refine rO (encL cI (List.replicate (Int.toNat 61) 0)) cO mF pu uH.1 uH.2 E (qn _ _ _ E E) E (fun b9=>?_)
   obtain⟨fd,h⟩:=gOs h
   refine oY E (yI iq (by decide) fd.1 fd.2 (RdL.row 1 E) (eL ao (NestP.hn a t)) E E) ?_
   refine co E (gS 1 (xs:=f2) ao (((some ⟨b9,0,none⟩),Int.toNat 61,Int.toNat 61),(List.replicate (Int.toNat 61) 0)) sz_42 E fd.1 (ai fd.2 (NestP.hn a t)) E E E E) ?_
   refine ox_putIn 2 3 (by decide) (ys:=f2) (p:=O.1) E E fd.1 (ai fd.2 (NestP.hn a t)) ?_
   refine oN (eT (cS (cR (oY E (yAI E) (oN (eT (cB ?_)))))))
   obtain⟨d3,uO,h⟩:=bOs h
   refine bi (fun(s:(Int × (List (List Int)))) L tm=>∃(b:Nat→Value) (H:List (Hd × (List Int))),Int.toNat p0.fPlaces=s.2.length∧NestP (fun z:(List Int)=>z) H s.2∧L=[al b1 24 [vI p0.fPlaces,.slice Ab p0.fTracks.length cb],aP (some ⟨b2,0,none⟩) (Int.toNat p0.fPlaces) 42 1 (Int.toNat p0.fPlaces) (encL SlInt_cells2 H),inR 3 H,noR]∧tm=(upd (upd (upd (upd (upd (upd (upd (upd b 1 (vI p1)) 2 (vI p2)) 3 (.pointer (some ⟨b1,0,none⟩))) 6 (.slice none 0 0)) 7 (.slice (some ⟨b2,0,none⟩) (Int.toNat p0.fPlaces) (Int.toNat p0.fPlaces))) 8 (vI O.1)) 25 (.bool (decide (O.1<p0.fPlaces)))) 9 (vI s.1))) 2 uO ⟨_,(f2.set (Int.toNat O.1) (((some ⟨b9,0,none⟩),Int.toNat 61,Int.toNat 61),(List.replicate (Int.toNat 61) 0))),(cH t),(NestP.set _ a (List.length_replicate).symm E),E,(kp4 (kp4 E))⟩ ?_ ?_
   ·rintro l L tm st ⟨uQ,f,w,I,rfl,rfl⟩ h
    unfold dG at h
    refine cS (cS (cR (oY E (yMI E) (oY E (iA E E) (oN (eT ?_))))))
    rcases iOs h with⟨oa,h⟩|⟨oa,h⟩
    ·refine cT (vB oa) (cK (eT (cS (cB (cS (cR (oY E (yMS E) (oY E (yMI E) ?_))))))))
     obtain⟨M,h⟩:=gOs h
     refine oY E (yI iq (by decide) M.1 M.2 (RdL.row 1 E) (eL ao (NestP.hn I w)) E E) ?_
     refine oY E (yR (A:=(some ⟨b2,0,none⟩)) (j:=(Int.toNat O.1*1)) (v:=.slice ((rdL f O.1).1.1) ((rdL l.2 O.1).length) ((rdL f O.1).1.2.2)) gH (RdL.row 1 E) E (ax ao M.1 (ai M.2 (NestP.hn I w)) (congrArg (fun n:Nat=>some (Value.slice (rdL f O.1).1.1 n (rdL f O.1).1.2.2)) (NestP.len I M.1 (ai M.2 w))))) (oY E (yMI E) ?_)
     obtain⟨g2,h⟩:=gOs h
     refine oY E (yI bS (by decide) g2.1 g2.2 (NestL.rd (PvL.nestL I (PvL.inR (e:=3) (wb:=wb) (Hb:=Hb) (ys:=f)) (fun W2 D=>⟨(hB W2 D.below).1,(hB W2 D.below).2,D.mem (i:=2) E⟩)) M.1 (ai M.2 w)) (eL aB E) E E) ?_
     refine co E (mg 1 2 (by decide) (fun y z e=>by unfold SlInt_cells2;rw[e]) (ys:=f) (p:=O.1) qb E E M.1 (ai M.2 (NestP.hn I w)) g2.1 (NestP.ltIn I (ai g2.2 E)) E E) ?_
     refine oN (eT (cS (cR (oY E (yMI E) (oY E (yMI E) (oY E (cL E E) (oN (eT ?_))))))))
     rcases iOs h with⟨oi,h⟩|⟨oi,h⟩
     ·refine cT (vB oi) (cR (oY E (yMS E) (oY E (yMI E) ?_)))
      obtain⟨U,h⟩:=gOs h
      refine oY E (yI iq (by decide) U.1 U.2 (RdL.row 1 E) (eL ao (NestP.hn (NestP.setIn I M.1 (ai M.2 w)) (cH w))) E E) ?_
      refine oY E (yR (A:=(some ⟨b2,0,none⟩)) (j:=(Int.toNat O.1*1)) (v:=.slice ((rdL (f.set (Int.toNat O.1) ((rdL f O.1).1,(rdL f O.1).2.set (Int.toNat l.1) (-1))) O.1).1.1) ((rdL (l.2.set (Int.toNat O.1) ((rdL l.2 O.1).set (Int.toNat l.1) (-1))) O.1).length) ((rdL (f.set (Int.toNat O.1) ((rdL f O.1).1,(rdL f O.1).2.set (Int.toNat l.1) (-1))) O.1).1.2.2)) gH (RdL.row 1 E) E (ax ao U.1 (ai U.2 (NestP.hn (NestP.setIn I M.1 (ai M.2 w)) (cH w))) (congrArg (fun n:Nat=>some (Value.slice (rdL (f.set (Int.toNat O.1) ((rdL f O.1).1,(rdL f O.1).2.set (Int.toNat l.1) (-1))) O.1).1.1 n (rdL (f.set (Int.toNat O.1) ((rdL f O.1).1,(rdL f O.1).2.set (Int.toNat l.1) (-1))) O.1).1.2.2)) (NestP.len (NestP.setIn I M.1 (ai M.2 w)) U.1 (ai U.2 (cH w)))))) (oY E (yMI E) (oY E (yMI E) ?_))
      obtain⟨gf,h⟩:=gOs h
      refine oY E (yI bS (by decide) gf.1 gf.2 (NestL.rd (PvL.nestL (NestP.setIn I M.1 (ai M.2 w)) (PvL.inR (e:=3) (wb:=wb) (Hb:=Hb) (ys:=(f.set (Int.toNat O.1) ((rdL f O.1).1,(rdL f O.1).2.set (Int.toNat l.1) (-1))))) (fun W2 D=>⟨(hB W2 D.below).1,(hB W2 D.below).2,D.mem (i:=2) E⟩)) U.1 (ai U.2 (cH w))) (eL aB E) E E) ?_
      refine co E (mg 1 2 (by decide) (fun y z e=>by unfold SlInt_cells2;rw[e]) (ys:=(f.set (Int.toNat O.1) ((rdL f O.1).1,(rdL f O.1).2.set (Int.toNat l.1) (-1)))) (p:=O.1) qb E E U.1 (ai U.2 (NestP.hn (NestP.setIn I M.1 (ai M.2 w)) (cH w))) gf.1 (NestP.ltIn (NestP.setIn I M.1 (ai M.2 w)) (ai gf.2 E)) E E) ?_
      refine oN (aw (eT (cR (oY E (yMI E) (oY E (aM E E) (oY E (yAI E) (oN ?_)))))))
      obtain rfl:=sI h
      exact eN ⟨_,((f.set (Int.toNat O.1) ((rdL f O.1).1,(rdL f O.1).2.set (Int.toNat l.1) (-1))).set (Int.toNat O.1) ((rdL (f.set (Int.toNat O.1) ((rdL f O.1).1,(rdL f O.1).2.set (Int.toNat l.1) (-1))) O.1).1,(rdL (f.set (Int.toNat O.1) ((rdL f O.1).1,(rdL f O.1).2.set (Int.toNat l.1) (-1))) O.1).2.set (Int.toNat l.1) p2)),(cH (cH w)),(NestP.setIn (NestP.setIn I M.1 (ai M.2 w)) U.1 (ai U.2 (cH w))),E,(kp4 (kp4 E))⟩
     ·refine cF (vB oi) (cK (aw (eT (cR (oY E (yMI E) (oY E (aM E E) (oY E (yAI E) (oN ?_))))))))
      obtain rfl:=sI h
      exact eN ⟨_,(f.set (Int.toNat O.1) ((rdL f O.1).1,(rdL f O.1).2.set (Int.toNat l.1) (-1))),(cH w),(NestP.setIn I M.1 (ai M.2 w)),E,(kp4 (kp4 E))⟩
    ·refine cF (vB oa) (aD (aj ?_))
     obtain rfl:=sI h
     exact au ⟨E,_,f,w,I,E,(kp4 (kp4 E))⟩
   ·intro e L tm hJ
    obtain⟨rfl,uU,oj,ok,r0,rfl,rfl⟩:=hJ
    refine⟨(by intro hc;cases hc),?_⟩
    refine ae (aw (eT (cR (oY E (yMI E) (oY E (aM E E) (oY E (yAI E) (oN (aT 3 ?_))))))))
    obtain rfl:=sI h
    exact eN ⟨_,oj,ok,r0,E,(kp4 (kp (kp E)))⟩
  ·refine cF (vB uK) (aD (aj ?_))
   obtain rfl:=sI h
   exact au ⟨E,_,f2,t,a,E,(kp4 (kp (kp E)))⟩
 ·intro e L tm hJ
  obtain⟨rfl,uc,uw,uD,uE,rfl,rfl⟩:=hJ
  refine⟨(by intro hc;cases hc),?_⟩
  refine ae (eT (cS (cR (oY E (yAB E) (oN (eT (cS (cB ?_))))))))
  obtain⟨d4,uX,h⟩:=bOs h
  refine bi (fun(s:(Bool × (List (List Int)))) L tm=>∃(b:Nat→Value) (H:List (Hd × (List Int))),Int.toNat p0.fPlaces=s.2.length∧NestP (fun z:(List Int)=>z) H s.2∧L=[al b1 24 [vI p0.fPlaces,.slice Ab p0.fTracks.length cb],aP (some ⟨b2,0,none⟩) (Int.toNat p0.fPlaces) 42 1 (Int.toNat p0.fPlaces) (encL SlInt_cells2 H),inR 3 H]∧tm=(upd (upd (upd (upd b 3 (.pointer (some ⟨b1,0,none⟩))) 6 (.slice none 0 0)) 7 (.slice (some ⟨b2,0,none⟩) (Int.toNat p0.fPlaces) (Int.toNat p0.fPlaces))) 10 (.bool s.1))) 4 uX ⟨_,uw,uD,uE,E,(kp4 E)⟩ ?_ ?_
  ·rintro uF L tm st ⟨uY,fD,fE,fG,rfl,rfl⟩ h
   unfold dI at h
   refine cS (cS (cR (oY E (yMB E) (oN (eT ?_)))))
   rcases iOs h with⟨r1,h⟩|⟨r1,h⟩
   ·refine cT (vB r1) (cK (eT (cB (cS (cR (oY E (yAB E) (oN (eT (cS (cS (cR (oY E (yAI E) (oN (eT (cB ?_)))))))))))))))
    obtain⟨uZ,uV,h⟩:=bOs h
    refine bi (fun(s:(Bool × Int × (List (List Int)))) L tm=>∃(b:Nat→Value) (H:List (Hd × (List Int))),Int.toNat p0.fPlaces=s.2.2.length∧NestP (fun z:(List Int)=>z) H s.2.2∧L=[al b1 24 [vI p0.fPlaces,.slice Ab p0.fTracks.length cb],aP (some ⟨b2,0,none⟩) (Int.toNat p0.fPlaces) 42 1 (Int.toNat p0.fPlaces) (encL SlInt_cells2 H),inR 3 H]∧tm=(upd (upd (upd (upd (upd (upd b 3 (.pointer (some ⟨b1,0,none⟩))) 6 (.slice none 0 0)) 7 (.slice (some ⟨b2,0,none⟩) (Int.toNat p0.fPlaces) (Int.toNat p0.fPlaces))) 10 (.bool s.1)) 52 (.bool uF.1)) 11 (vI s.2.1))) 6 uV ⟨_,fD,fE,fG,E,(kp4 (kp (kp E)))⟩ ?_ ?_
    ·rintro o L tm st ⟨uT,fH,fT,fR,rfl,rfl⟩ h
     unfold dJ at h
     refine cS (cS (cR (oY E (yMI E) (oY E (yFA bI E) (oY E (yL 0 f7 E E E) (oY E (bg (us:=[]) ij E) (oY E (a6 E E) (oN (eT ?_)))))))))
     rcases iOs h with⟨r2,h⟩|⟨r2,h⟩
     ·refine cT (vB r2) (cK (eT (cS (cB (cS (cR (oY E (yFA bI E) (oY E (yL 0 f7 E E E) (oY E (yMI E) ?_)))))))))
      obtain⟨c,h⟩:=gOs h
      refine oY E (yI iI (by decide) c.1 c.2 (RdL.arg ot) (eL ar (NestP.hn f3.p E)) E E) ?_
      refine oY E (yM (A:=Ab) (j:=(Int.toNat o.2.1*6)) [vI ((rdL p0.fTracks o.2.1).fID),vI ((rdL p0.fTracks o.2.1).fFrom),vI ((rdL p0.fTracks o.2.1).fTo),vI ((rdL p0.fTracks o.2.1).fLong),vI ((rdL p0.fTracks o.2.1).fToll),.slice ((rdL N o.2.1).1.1) ((rdL p0.fTracks o.2.1).fK.length) ((rdL N o.2.1).1.2.2)] gl (Nat.succ_pos _) (RdL.arg ot) E (iM (bB (NestP.snd f3.p o.2.1) (NestP.len f3.p c.1 (ai c.2 E))).symm (be ar c.1 (ai c.2 (NestP.hn f3.p E))))) ?_
      refine aF g0 E (fun uS=>?_)
      refine co E (yS 3 [vI ((rdL p0.fTracks o.2.1).fID),vI ((rdL p0.fTracks o.2.1).fFrom),vI ((rdL p0.fTracks o.2.1).fTo),vI ((rdL p0.fTracks o.2.1).fLong),vI ((rdL p0.fTracks o.2.1).fToll),.slice ((rdL N o.2.1).1.1) ((rdL p0.fTracks o.2.1).fK.length) ((rdL N o.2.1).1.2.2)] nh E (nB E) E E E) (oN (eT (cS (cR (oY E (yAI E) (oN (eT (cB ?_))))))))
      obtain⟨d5,uR,h⟩:=bOs h
      refine bi (fun(s:(Bool × Int × (List (List Int)))) L tm=>∃(b:Nat→Value) (H:List (Hd × (List Int))),Int.toNat p0.fPlaces=s.2.2.length∧NestP (fun z:(List Int)=>z) H s.2.2∧L=[al b1 24 [vI p0.fPlaces,.slice Ab p0.fTracks.length cb],aP (some ⟨b2,0,none⟩) (Int.toNat p0.fPlaces) 42 1 (Int.toNat p0.fPlaces) (encL SlInt_cells2 H),inR 3 H,al uS 120 [vI ((rdL p0.fTracks o.2.1).fID),vI ((rdL p0.fTracks o.2.1).fFrom),vI ((rdL p0.fTracks o.2.1).fTo),vI ((rdL p0.fTracks o.2.1).fLong),vI ((rdL p0.fTracks o.2.1).fToll),.slice ((rdL N o.2.1).1.1) ((rdL p0.fTracks o.2.1).fK.length) ((rdL N o.2.1).1.2.2)]]∧tm=(upd (upd (upd (upd (upd (upd (upd (upd (upd b 3 (.pointer (some ⟨b1,0,none⟩))) 6 (.slice none 0 0)) 7 (.slice (some ⟨b2,0,none⟩) (Int.toNat p0.fPlaces) (Int.toNat p0.fPlaces))) 10 (.bool s.1)) 52 (.bool uF.1)) 11 (vI o.2.1)) 57 (.bool (decide (o.2.1<(p0.fTracks.length:Int))))) 12 (.pointer (some ⟨uS,0,none⟩))) 13 (vI s.2.1))) 8 uR ⟨_,fH,fT,fR,E,(kp4 (kp4 (kp E)))⟩ ?_ ?_
      ·rintro Z L tm st ⟨uq,r,F,G,rfl,rfl⟩ h
       unfold dK at h
       refine cS (cS (cR (oY E (yMI E) (oY E (yFA fw E) (oY E (yL 3 aN E E E) (oY E (aM E E) (oY E (iA E E) (oN (eT ?_)))))))))
       rcases iOs h with⟨r3,h⟩|⟨r3,h⟩
       ·refine cT (vB r3) (cK (eT (cS (cB (cS ?_)))))
        refine aX 11 bZ (by kernel_rfl) (by kernel_rfl) ?_
        refine qY E (yN 3 [vI ((rdL p0.fTracks o.2.1).fID),vI ((rdL p0.fTracks o.2.1).fFrom),vI ((rdL p0.fTracks o.2.1).fTo),vI ((rdL p0.fTracks o.2.1).fLong),vI ((rdL p0.fTracks o.2.1).fToll),.slice ((rdL N o.2.1).1.1) ((rdL p0.fTracks o.2.1).fK.length) ((rdL N o.2.1).1.2.2)] gl E E E) (qY E (yMS E) (qY E (yFA gO E) (qY E (yL 3 aN E E E) ?_)))
        obtain⟨V,h⟩:=gOs h
        refine qY E (yI iq (by decide) V.1 V.2 (RdL.row 1 E) (eL ao (NestP.hn G F)) E E) ?_
        refine qY E (yR (A:=(some ⟨b2,0,none⟩)) (j:=(Int.toNat ((rdL p0.fTracks o.2.1).fFrom)*1)) (v:=.slice ((rdL r ((rdL p0.fTracks o.2.1).fFrom)).1.1) ((rdL Z.2.2 ((rdL p0.fTracks o.2.1).fFrom)).length) ((rdL r ((rdL p0.fTracks o.2.1).fFrom)).1.2.2)) gH (RdL.row 1 E) E (ax ao V.1 (ai V.2 (NestP.hn G F)) (congrArg (fun n:Nat=>some (Value.slice (rdL r ((rdL p0.fTracks o.2.1).fFrom)).1.1 n (rdL r ((rdL p0.fTracks o.2.1).fFrom)).1.2.2)) (NestP.len G V.1 (ai V.2 F))))) (qY E (yMI E) ?_)
        obtain⟨go,h⟩:=gOs h
        refine qY E (yI bS (by decide) go.1 go.2 (NestL.rd (PvL.nestL G (PvL.inR (e:=3) (wb:=wb) (Hb:=Hb) (ys:=r)) (fun W2 D=>⟨(hB W2 D.below).1,(hB W2 D.below).2,D.mem (i:=2) E⟩)) V.1 (ai V.2 F)) (eL aB E) E E) ?_
        refine qY E (yR (A:=((rdL r ((rdL p0.fTracks o.2.1).fFrom)).1.1)) (j:=(Int.toNat Z.2.1*1)) (v:=vI (rdL (rdL Z.2.2 ((rdL p0.fTracks o.2.1).fFrom)) Z.2.1)) aN (NestL.rd (PvL.nestL G (PvL.inR (e:=3) (wb:=wb) (Hb:=Hb) (ys:=r)) (fun W2 D=>⟨(hB W2 D.below).1,(hB W2 D.below).2,D.mem (i:=2) E⟩)) V.1 (ai V.2 F)) E (ax aB go.1 (ai go.2 E) E)) ?_
        obtain⟨uG,up,h⟩:=bOs h
        refine qY E (yC [.agg #[vI ((rdL p0.fTracks o.2.1).fID),vI ((rdL p0.fTracks o.2.1).fFrom),vI ((rdL p0.fTracks o.2.1).fTo),vI ((rdL p0.fTracks o.2.1).fLong),vI ((rdL p0.fTracks o.2.1).fToll),.slice ((rdL N o.2.1).1.1) ((rdL p0.fTracks o.2.1).fK.length) ((rdL N o.2.1).1.2.2)],vI (rdL (rdL Z.2.2 ((rdL p0.fTracks o.2.1).fFrom)) Z.2.1)] go_126 E (fun W2 D=>j8 (TT.mk ((rdL p0.fTracks o.2.1).fID) ((rdL p0.fTracks o.2.1).fFrom) ((rdL p0.fTracks o.2.1).fTo) ((rdL p0.fTracks o.2.1).fLong) ((rdL p0.fTracks o.2.1).fToll) ((rdL p0.fTracks o.2.1).fK)) (rdL (rdL Z.2.2 ((rdL p0.fTracks o.2.1).fFrom)) Z.2.1) uG up W2 ((rdL N o.2.1).1.1) ((rdL p0.fTracks o.2.1).fK.length) ((rdL N o.2.1).1.2.2) E ((NestL.rd (NestL.arg f3) c.1 (ai c.2 E)) W2 D)) E) (qY E (yAI E) (bF (oN (eT (cS ?_)))))
        refine aX 14 bZ (by kernel_rfl) (by kernel_rfl) ?_
        refine qY E (yMI E) (qY E (yMS E) (qY E (yFA gg E) (qY E (yL 3 aN E E E) ?_)))
        obtain⟨T,h⟩:=gOs h
        refine qY E (yI iq (by decide) T.1 T.2 (RdL.row 1 E) (eL ao (NestP.hn G F)) E E) ?_
        refine qY E (yR (A:=(some ⟨b2,0,none⟩)) (j:=(Int.toNat ((rdL p0.fTracks o.2.1).fTo)*1)) (v:=.slice ((rdL r ((rdL p0.fTracks o.2.1).fTo)).1.1) ((rdL Z.2.2 ((rdL p0.fTracks o.2.1).fTo)).length) ((rdL r ((rdL p0.fTracks o.2.1).fTo)).1.2.2)) gH (RdL.row 1 E) E (ax ao T.1 (ai T.2 (NestP.hn G F)) (congrArg (fun n:Nat=>some (Value.slice (rdL r ((rdL p0.fTracks o.2.1).fTo)).1.1 n (rdL r ((rdL p0.fTracks o.2.1).fTo)).1.2.2)) (NestP.len G T.1 (ai T.2 F))))) (qY E (yMI E) (qY E (yFA fw E) (qY E (yL 3 aN E E E) (qY E (aM E E) ?_))))
        obtain⟨o0,h⟩:=gOs h
        refine qY E (yI bS (by decide) o0.1 o0.2 (NestL.rd (PvL.nestL G (PvL.inR (e:=3) (wb:=wb) (Hb:=Hb) (ys:=r)) (fun W2 D=>⟨(hB W2 D.below).1,(hB W2 D.below).2,D.mem (i:=2) E⟩)) T.1 (ai T.2 F)) (eL aB E) E E) ?_
        refine qY E (yR (A:=((rdL r ((rdL p0.fTracks o.2.1).fTo)).1.1)) (j:=(Int.toNat (w64 (Z.2.1+((rdL p0.fTracks o.2.1).fToll)))*1)) (v:=vI (rdL (rdL Z.2.2 ((rdL p0.fTracks o.2.1).fTo)) (w64 (Z.2.1+((rdL p0.fTracks o.2.1).fToll))))) aN (NestL.rd (PvL.nestL G (PvL.inR (e:=3) (wb:=wb) (Hb:=Hb) (ys:=r)) (fun W2 D=>⟨(hB W2 D.below).1,(hB W2 D.below).2,D.mem (i:=2) E⟩)) T.1 (ai T.2 F)) E (ax aB o0.1 (ai o0.2 E) E)) ?_
        obtain⟨d0,un,h⟩:=bOs h
        refine qY E (yC [vI uG,vI (rdL (rdL Z.2.2 ((rdL p0.fTracks o.2.1).fTo)) (w64 (Z.2.1+((rdL p0.fTracks o.2.1).fToll))))] go_127 E (fun W2 D=>kr uG (rdL (rdL Z.2.2 ((rdL p0.fTracks o.2.1).fTo)) (w64 (Z.2.1+((rdL p0.fTracks o.2.1).fToll)))) d0 un W2 ) E) (qY E (yAB E) (bF (oN (eT (cS (cR (oY E (yMB E) (oN (eT ?_)))))))))
        rcases iOs h with⟨r4,h⟩|⟨r4,h⟩
        ·refine cT (vB r4) (cS ?_)
         refine aX 11 bZ (by kernel_rfl) (by kernel_rfl) ?_
         refine qY E (yMS E) (qY E (yFA gg E) (qY E (yL 3 aN E E E) ?_))
         obtain⟨X,h⟩:=gOs h
         refine qY E (yI iq (by decide) X.1 X.2 (RdL.row 1 E) (eL ao (NestP.hn G F)) E E) ?_
         refine qY E (yR (A:=(some ⟨b2,0,none⟩)) (j:=(Int.toNat ((rdL p0.fTracks o.2.1).fTo)*1)) (v:=.slice ((rdL r ((rdL p0.fTracks o.2.1).fTo)).1.1) ((rdL Z.2.2 ((rdL p0.fTracks o.2.1).fTo)).length) ((rdL r ((rdL p0.fTracks o.2.1).fTo)).1.2.2)) gH (RdL.row 1 E) E (ax ao X.1 (ai X.2 (NestP.hn G F)) (congrArg (fun n:Nat=>some (Value.slice (rdL r ((rdL p0.fTracks o.2.1).fTo)).1.1 n (rdL r ((rdL p0.fTracks o.2.1).fTo)).1.2.2)) (NestP.len G X.1 (ai X.2 F))))) (qY E (yMI E) (qY E (yFA fw E) (qY E (yL 3 aN E E E) (qY E (aM E E) (qY E (yMI E) ?_)))))
         obtain⟨o1,h⟩:=gOs h
         refine qY E (yI bS (by decide) o1.1 o1.2 (NestL.rd (PvL.nestL G (PvL.inR (e:=3) (wb:=wb) (Hb:=Hb) (ys:=r)) (fun W2 D=>⟨(hB W2 D.below).1,(hB W2 D.below).2,D.mem (i:=2) E⟩)) X.1 (ai X.2 F)) (eL aB E) E E) ?_
         refine bF ?_
         refine co E (mg 1 2 (by decide) (fun y z e=>by unfold SlInt_cells2;rw[e]) (ys:=r) (p:=((rdL p0.fTracks o.2.1).fTo)) qb E E X.1 (ai X.2 (NestP.hn G F)) o1.1 (NestP.ltIn G (ai o1.2 E)) E E) ?_
         refine oN (eT (cR (oY E (yAB E) (oN (aw (eT (cR (oY E (yMI E) (oY E (aM E E) (oY E (yAI E) (oN ?_)))))))))))
         obtain rfl:=sI h
         exact eN ⟨_,(r.set (Int.toNat ((rdL p0.fTracks o.2.1).fTo)) ((rdL r ((rdL p0.fTracks o.2.1).fTo)).1,(rdL r ((rdL p0.fTracks o.2.1).fTo)).2.set (Int.toNat (w64 (Z.2.1+((rdL p0.fTracks o.2.1).fToll)))) uG)),(cH F),(NestP.setIn G X.1 (ai X.2 F)),E,(kp4 (kp4 (kp E)))⟩
        ·refine cF (vB r4) (cK (aw (eT (cR (oY E (yMI E) (oY E (aM E E) (oY E (yAI E) (oN ?_))))))))
         obtain rfl:=sI h
         exact eN ⟨_,r,F,G,E,(kp4 (kp4 (kp E)))⟩
       ·refine cF (vB r3) (aD (aj ?_))
        obtain rfl:=sI h
        exact au ⟨E,_,r,F,G,E,(kp4 (kp4 (kp E)))⟩
      ·intro e L tm hJ
       obtain⟨rfl,um,r5,rx,u0,rfl,rfl⟩:=hJ
       refine⟨(by intro hc;cases hc),?_⟩
       refine ae (aw (eT (cR (oY E (yMI E) (oY E (aM E E) (oY E (yAI E) (oN (aT 3 ?_))))))))
       obtain rfl:=sI h
       exact eN ⟨_,r5,rx,u0,E,(kp4 (kp (kp E)))⟩
     ·refine cF (vB r2) (aD (aj ?_))
      obtain rfl:=sI h
      exact au ⟨E,_,fH,fT,fR,E,(kp4 (kp (kp E)))⟩
    ·intro e L tm hJ
     obtain⟨rfl,ul,u1,u2,u3,rfl,rfl⟩:=hJ
     refine⟨(by intro hc;cases hc),?_⟩
     refine ae (eT (cS (cR (oY E (yAI E) (oN (eT (cB ?_)))))))
     obtain⟨dd,ut,h⟩:=bOs h
     refine bi (fun(s:(Bool × Int × (List (List Int)))) L tm=>∃(b:Nat→Value) (H:List (Hd × (List Int))),Int.toNat p0.fPlaces=s.2.2.length∧NestP (fun z:(List Int)=>z) H s.2.2∧L=[al b1 24 [vI p0.fPlaces,.slice Ab p0.fTracks.length cb],aP (some ⟨b2,0,none⟩) (Int.toNat p0.fPlaces) 42 1 (Int.toNat p0.fPlaces) (encL SlInt_cells2 H),inR 3 H]∧tm=(upd (upd (upd (upd (upd (upd (upd b 3 (.pointer (some ⟨b1,0,none⟩))) 6 (.slice none 0 0)) 7 (.slice (some ⟨b2,0,none⟩) (Int.toNat p0.fPlaces) (Int.toNat p0.fPlaces))) 10 (.bool s.1)) 52 (.bool uF.1)) 11 (vI uZ.2.1)) 16 (vI s.2.1))) 10 ut ⟨_,u1,u2,u3,E,(kp4 (kp (kp (kp E))))⟩ ?_ ?_
     ·rintro K L tm st ⟨ua,fn,fl,ft,rfl,rfl⟩ h
      unfold dz at h
      refine cS (cS (cR (oY E (yMI E) (oY E (yFA dE E) (oY E (yL 0 aN E E E) (oY E (a6 E E) (oN (eT ?_))))))))
      rcases iOs h with⟨u4,h⟩|⟨u4,h⟩
      ·refine cT (vB u4) (cK (eT (cS (cB (cS (cR (oY E (yAI E) (oN (eT (cB ?_))))))))))
       obtain⟨dn,uz,h⟩:=bOs h
       refine bi (fun(s:(Bool × Int × (List (List Int)))) L tm=>∃(b:Nat→Value) (H:List (Hd × (List Int))),Int.toNat p0.fPlaces=s.2.2.length∧NestP (fun z:(List Int)=>z) H s.2.2∧L=[al b1 24 [vI p0.fPlaces,.slice Ab p0.fTracks.length cb],aP (some ⟨b2,0,none⟩) (Int.toNat p0.fPlaces) 42 1 (Int.toNat p0.fPlaces) (encL SlInt_cells2 H),inR 3 H]∧tm=(upd (upd (upd (upd (upd (upd (upd (upd (upd b 3 (.pointer (some ⟨b1,0,none⟩))) 6 (.slice none 0 0)) 7 (.slice (some ⟨b2,0,none⟩) (Int.toNat p0.fPlaces) (Int.toNat p0.fPlaces))) 10 (.bool s.1)) 52 (.bool uF.1)) 11 (vI uZ.2.1)) 16 (vI K.2.1)) 110 (.bool (decide (K.2.1<p0.fPlaces)))) 17 (vI s.2.1))) 12 uz ⟨_,fn,fl,ft,E,(kp4 (kp4 (kp E)))⟩ ?_ ?_
       ·rintro Q L tm st ⟨ui,g,u,d,rfl,rfl⟩ h
        unfold dt at h
        refine cS (cS (cR (oY E (yMI E) (oY E (iA E E) (oN (eT ?_))))))
        rcases iOs h with⟨u5,h⟩|⟨u5,h⟩
        ·refine cT (vB u5) (cK (eT (cS (cB (cS ?_)))))
         refine aX 17 bZ (by kernel_rfl) (by kernel_rfl) ?_
         refine qY E (yMS E) (qY E (yMI E) ?_)
         obtain⟨S,h⟩:=gOs h
         refine qY E (yI iq (by decide) S.1 S.2 (RdL.row 1 E) (eL ao (NestP.hn d u)) E E) ?_
         refine qY E (yR (A:=(some ⟨b2,0,none⟩)) (j:=(Int.toNat K.2.1*1)) (v:=.slice ((rdL g K.2.1).1.1) ((rdL Q.2.2 K.2.1).length) ((rdL g K.2.1).1.2.2)) gH (RdL.row 1 E) E (ax ao S.1 (ai S.2 (NestP.hn d u)) (congrArg (fun n:Nat=>some (Value.slice (rdL g K.2.1).1.1 n (rdL g K.2.1).1.2.2)) (NestP.len d S.1 (ai S.2 u))))) (qY E (yMI E) (qY E (fe E E) ?_))
         obtain⟨o2,h⟩:=gOs h
         refine qY E (yI bS (by decide) o2.1 o2.2 (NestL.rd (PvL.nestL d (PvL.inR (e:=3) (wb:=wb) (Hb:=Hb) (ys:=g)) (fun W2 D=>⟨(hB W2 D.below).1,(hB W2 D.below).2,D.mem (i:=2) E⟩)) S.1 (ai S.2 u)) (eL aB E) E E) ?_
         refine qY E (yR (A:=((rdL g K.2.1).1.1)) (j:=(Int.toNat (w64 (Q.2.1-1))*1)) (v:=vI (rdL (rdL Q.2.2 K.2.1) (w64 (Q.2.1-1)))) aN (NestL.rd (PvL.nestL d (PvL.inR (e:=3) (wb:=wb) (Hb:=Hb) (ys:=g)) (fun W2 D=>⟨(hB W2 D.below).1,(hB W2 D.below).2,D.mem (i:=2) E⟩)) S.1 (ai S.2 u)) E (ax aB o2.1 (ai o2.2 E) E)) (qY E (yMS E) (qY E (yMI E) ?_))
         obtain⟨R,h⟩:=gOs h
         refine qY E (yI iq (by decide) R.1 R.2 (RdL.row 1 E) (eL ao (NestP.hn d u)) E E) ?_
         refine qY E (yR (A:=(some ⟨b2,0,none⟩)) (j:=(Int.toNat K.2.1*1)) (v:=.slice ((rdL g K.2.1).1.1) ((rdL Q.2.2 K.2.1).length) ((rdL g K.2.1).1.2.2)) gH (RdL.row 1 E) E (ax ao R.1 (ai R.2 (NestP.hn d u)) (congrArg (fun n:Nat=>some (Value.slice (rdL g K.2.1).1.1 n (rdL g K.2.1).1.2.2)) (NestP.len d R.1 (ai R.2 u))))) (qY E (yMI E) ?_)
         obtain⟨oX,h⟩:=gOs h
         refine qY E (yI bS (by decide) oX.1 oX.2 (NestL.rd (PvL.nestL d (PvL.inR (e:=3) (wb:=wb) (Hb:=Hb) (ys:=g)) (fun W2 D=>⟨(hB W2 D.below).1,(hB W2 D.below).2,D.mem (i:=2) E⟩)) R.1 (ai R.2 u)) (eL aB E) E E) ?_
         refine qY E (yR (A:=((rdL g K.2.1).1.1)) (j:=(Int.toNat Q.2.1*1)) (v:=vI (rdL (rdL Q.2.2 K.2.1) Q.2.1)) aN (NestL.rd (PvL.nestL d (PvL.inR (e:=3) (wb:=wb) (Hb:=Hb) (ys:=g)) (fun W2 D=>⟨(hB W2 D.below).1,(hB W2 D.below).2,D.mem (i:=2) E⟩)) R.1 (ai R.2 u)) E (ax aB oX.1 (ai oX.2 E) E)) ?_
         obtain⟨d1,uj,h⟩:=bOs h
         refine qY E (yC [vI (rdL (rdL Q.2.2 K.2.1) (w64 (Q.2.1-1))),vI (rdL (rdL Q.2.2 K.2.1) Q.2.1)] go_127 E (fun W2 D=>kr (rdL (rdL Q.2.2 K.2.1) (w64 (Q.2.1-1))) (rdL (rdL Q.2.2 K.2.1) Q.2.1) d1 uj W2 ) E) (qY E (yAB E) (bF (oN (eT (cS (cR (oY E (yMB E) (oN (eT ?_)))))))))
         rcases iOs h with⟨u6,h⟩|⟨u6,h⟩
         ·refine cT (vB u6) (cS ?_)
          refine aX 14 bZ (by kernel_rfl) (by kernel_rfl) ?_
          refine qY E (yMS E) (qY E (yMI E) ?_)
          obtain⟨Y,h⟩:=gOs h
          refine qY E (yI iq (by decide) Y.1 Y.2 (RdL.row 1 E) (eL ao (NestP.hn d u)) E E) ?_
          refine qY E (yR (A:=(some ⟨b2,0,none⟩)) (j:=(Int.toNat K.2.1*1)) (v:=.slice ((rdL g K.2.1).1.1) ((rdL Q.2.2 K.2.1).length) ((rdL g K.2.1).1.2.2)) gH (RdL.row 1 E) E (ax ao Y.1 (ai Y.2 (NestP.hn d u)) (congrArg (fun n:Nat=>some (Value.slice (rdL g K.2.1).1.1 n (rdL g K.2.1).1.2.2)) (NestP.len d Y.1 (ai Y.2 u))))) (qY E (yMI E) (qY E (yMS E) (qY E (yMI E) ?_)))
          obtain⟨q,h⟩:=gOs h
          refine qY E (yI iq (by decide) q.1 q.2 (RdL.row 1 E) (eL ao (NestP.hn d u)) E E) ?_
          refine qY E (yR (A:=(some ⟨b2,0,none⟩)) (j:=(Int.toNat K.2.1*1)) (v:=.slice ((rdL g K.2.1).1.1) ((rdL Q.2.2 K.2.1).length) ((rdL g K.2.1).1.2.2)) gH (RdL.row 1 E) E (ax ao q.1 (ai q.2 (NestP.hn d u)) (congrArg (fun n:Nat=>some (Value.slice (rdL g K.2.1).1.1 n (rdL g K.2.1).1.2.2)) (NestP.len d q.1 (ai q.2 u))))) (qY E (yMI E) (qY E (fe E E) ?_))
          obtain⟨oq,h⟩:=gOs h
          refine qY E (yI bS (by decide) oq.1 oq.2 (NestL.rd (PvL.nestL d (PvL.inR (e:=3) (wb:=wb) (Hb:=Hb) (ys:=g)) (fun W2 D=>⟨(hB W2 D.below).1,(hB W2 D.below).2,D.mem (i:=2) E⟩)) q.1 (ai q.2 u)) (eL aB E) E E) ?_
          refine qY E (yR (A:=((rdL g K.2.1).1.1)) (j:=(Int.toNat (w64 (Q.2.1-1))*1)) (v:=vI (rdL (rdL Q.2.2 K.2.1) (w64 (Q.2.1-1)))) aN (NestL.rd (PvL.nestL d (PvL.inR (e:=3) (wb:=wb) (Hb:=Hb) (ys:=g)) (fun W2 D=>⟨(hB W2 D.below).1,(hB W2 D.below).2,D.mem (i:=2) E⟩)) q.1 (ai q.2 u)) E (ax aB oq.1 (ai oq.2 E) E)) ?_
          obtain⟨op,h⟩:=gOs h
          refine qY E (yI bS (by decide) op.1 op.2 (NestL.rd (PvL.nestL d (PvL.inR (e:=3) (wb:=wb) (Hb:=Hb) (ys:=g)) (fun W2 D=>⟨(hB W2 D.below).1,(hB W2 D.below).2,D.mem (i:=2) E⟩)) Y.1 (ai Y.2 u)) (eL aB E) E E) ?_
          refine bF ?_
          refine co E (mg 1 2 (by decide) (fun y z e=>by unfold SlInt_cells2;rw[e]) (ys:=g) (p:=K.2.1) qb E E Y.1 (ai Y.2 (NestP.hn d u)) op.1 (NestP.ltIn d (ai op.2 E)) E E) ?_
          refine oN (eT (cR (oY E (yAB E) (oN (aw (eT (cR (oY E (yMI E) (oY E (aM E E) (oY E (yAI E) (oN ?_)))))))))))
          obtain rfl:=sI h
          exact eN ⟨_,(g.set (Int.toNat K.2.1) ((rdL g K.2.1).1,(rdL g K.2.1).2.set (Int.toNat Q.2.1) (rdL (rdL Q.2.2 K.2.1) (w64 (Q.2.1-1))))),(cH u),(NestP.setIn d Y.1 (ai Y.2 u)),E,(kp4 (kp4 (kp E)))⟩
         ·refine cF (vB u6) (cK (aw (eT (cR (oY E (yMI E) (oY E (aM E E) (oY E (yAI E) (oN ?_))))))))
          obtain rfl:=sI h
          exact eN ⟨_,g,u,d,E,(kp4 (kp4 (kp E)))⟩
        ·refine cF (vB u5) (aD (aj ?_))
         obtain rfl:=sI h
         exact au ⟨E,_,g,u,d,E,(kp4 (kp4 (kp E)))⟩
       ·intro e L tm hJ
        obtain⟨rfl,uk,u8,u9,uf,rfl,rfl⟩:=hJ
        refine⟨(by intro hc;cases hc),?_⟩
        refine ae (aw (eT (cR (oY E (yMI E) (oY E (aM E E) (oY E (yAI E) (oN ?_)))))))
        obtain rfl:=sI h
        exact eN ⟨_,u8,u9,uf,E,(kp4 (kp (kp (kp E))))⟩
      ·refine cF (vB u4) (aD (aj ?_))
       obtain rfl:=sI h
       exact au ⟨E,_,fn,fl,ft,E,(kp4 (kp (kp (kp E))))⟩
     ·intro e L tm hJ
      obtain⟨rfl,ux,ug,uo,ur,rfl,rfl⟩:=hJ
      refine⟨(by intro hc;cases hc),?_⟩
      refine ae (aw ?_)
      obtain rfl:=sI h
      exact eN ⟨_,ug,uo,ur,E,(kp4 E)⟩
   ·refine cF (vB r1) (aD (aj ?_))
    obtain rfl:=sI h
    exact au ⟨E,_,fD,fE,fG,E,(kp4 E)⟩
  ·intro e L tm hJ
   obtain⟨rfl,uy,fr,uu,ud,rfl,rfl⟩:=hJ
   refine⟨(by intro hc;cases hc),?_⟩
   refine ae (eT (cS (cR (oY E (yMS E) (oY E (yAS E) (oN (eT (am ?_))))))))
   obtain rfl:=sI h
   exact ak (.inl E) E (rVt (v:=.slice (some ⟨b2,0,none⟩) (Int.toNat p0.fPlaces) (Int.toNat p0.fPlaces)) E) (fun W2 D=>⟨(((some ⟨b2,0,none⟩),Int.toNat p0.fPlaces,Int.toNat p0.fPlaces),fr,inR 3 fr),⟨uu,ud,(PvL.inR (e:=3) (wb:=wb) (Hb:=Hb) (ys:=fr))⟩,E,D.pickL [1,2] (by decide) E⟩)
end Go.Proofs.YthndghnkebboaaaGreat
set_option maxHeartbeats 4000000
set_option maxRecDepth 100000
namespace Go.Proofs.YthndghnkebboaaaGreat
open Go.RowKit (Below)
attribute [local irreducible] OX QX CX EX OpY Calls CallsIn
theorem pm (p0:TR) (p1:Int) (res:Int) (h:i7 p0 p1=some res) (W:World) (Ab:Option Addr) (g cb:Nat) (o:List (Hd × TT)) (d:g=p0.fTracks.length) (r:Rd W Ab g cb (encL TTrack_cells2 o)) (f:NestW W (fun z:TT=>z.fK) TSpan_cells o p0.fTracks) :
  Calls Tryz.prog 76 [.agg #[vI p0.fPlaces,.slice Ab g cb],vI p1].toArray W fun e W2=>e=.returned (vI res)∧Ext W W2 []:=by
 subst d
 unfold i7 at h
 refine ag (m:=22) Tryz.func76 E E (nB E) (cS (cR ?_))
 refine aI [vI p0.fPlaces,.slice Ab p0.fTracks.length cb] E E E (fun O=>?_)
 refine oY E (yAI E) (oN (eT (cS (cS (cR (oY E (yAI E) (oN (eT (cB ?_)))))))))
 obtain⟨Q,M,h⟩:=bOs h
 refine ba (fun(s:(Int × Int)) L tm=>∃(N:Nat→Value),L=[al O 24 [vI p0.fPlaces,.slice Ab p0.fTracks.length cb]]∧tm=(upd (upd (upd (upd N 1 (vI p1)) 2 (.pointer (some ⟨O,0,none⟩))) 4 (vI s.1)) 5 (vI s.2))) 0 M ⟨_,E,(kp4 E)⟩ ?_ ?_
 ·rintro H L tm st ⟨I,rfl,rfl⟩ h
  unfold dX at h
  refine cS (cS (cR (oY E (yMI E) (oY E (yFA bI E) (oY E (yL 0 f7 E E E) (oY E (bg (us:=[]) ij E) (oY E (a6 E E) (oN (eT ?_)))))))))
  rcases iOs h with⟨w,h⟩|⟨w,h⟩
  ·refine cT (vB w) (cK (eT (cS (cB (cS (cR (oY E (yFA bI E) (oY E (yL 0 f7 E E E) (oY E (yMI E) ?_)))))))))
   obtain⟨u,h⟩:=gOs h
   refine oY E (yI iI (by decide) u.1 u.2 (RdL.arg r) (eL ar (NestP.hn f.p E)) E E) ?_
   refine oY E (yFR (A:=Ab) (j:=(Int.toNat H.2*6)) im E) (oY E (yR (A:=Ab) (j:=((Int.toNat H.2*6)+0)) (v:=vI ((rdL p0.fTracks H.2).fID)) aN (RdL.arg r) E (eG ar u.1 (ai u.2 (NestP.hn f.p E)) (congrArg (fun z:TT=>some (Value.int .i64 z.fID)) (NestP.snd f.p H.2)))) (oY E (yMI E) (oY E (cL E E) (oN (eT ?_)))))
   rcases iOs h with⟨D,h⟩|⟨D,h⟩
   ·refine cT (vB D) (cS (cR (oY E (yMI E) (oY E (yAI E) (oN (eT (am (ah (aa ?_)))))))))
    obtain rfl:=sI h
    exact au ⟨E,_,E,(kp4 E)⟩
   ·refine cF (vB D) (cK (aw (eT (cR (oY E (yMI E) (oY E (aM E E) (oY E (yAI E) (oN ?_))))))))
    obtain rfl:=sI h
    exact eN ⟨_,E,(kp4 E)⟩
  ·refine cF (vB w) (aD (aj ?_))
   obtain rfl:=sI h
   exact au ⟨E,_,E,(kp4 E)⟩
 ·intro e L tm hJ
  rcases Q with U|X
  ·dsimp only at h hJ
   obtain⟨rfl,K,rfl,rfl⟩:=hJ
   refine⟨(by intro hc;cases hc),?_⟩
   refine ah (aa ?_)
   obtain rfl:=sI h
   exact ak (.inl E) E (rVt (v:=vI U.1) E) (fun W2 F=>⟨E,F.none⟩)
  ·dsimp only at h hJ
   obtain⟨rfl,G,rfl,rfl⟩:=hJ
   refine⟨(by intro hc;cases hc),?_⟩
   refine ae (eT (cS (cR (oY E (yAI E) (oN (eT (am ?_)))))))
   obtain rfl:=sI h
   exact ak (.inl E) E (rVt (v:=vI (-1)) E) (fun W2 F=>⟨E,F.none⟩)
theorem qh (p0:TT) (p1:Int) (res:Bool) (h:jC p0 p1=some res) (W:World) (f:Option Addr) (r o:Nat) (G:r=p0.fK.length) (g:Rd W f r o (encL TSpan_cells p0.fK)) :
  Calls Tryz.prog 78 [.agg #[vI p0.fID,vI p0.fFrom,vI p0.fTo,vI p0.fLong,vI p0.fToll,.slice f r o],vI p1].toArray W fun e W2=>e=.returned (.bool res)∧Ext W W2 []:=by
 subst G
 unfold jC at h
 refine ag (m:=29) Tryz.func78 E E (nB E) (cS (cR ?_))
 refine aI [vI p0.fID,vI p0.fFrom,vI p0.fTo,vI p0.fLong,vI p0.fToll,.slice f p0.fK.length o] E E E (fun X=>?_)
 refine oY E (yAB E) (oN (eT (cS (cS (cR (oY E (yAI E) (oN (eT (cB ?_)))))))))
 obtain⟨Y,I,h⟩:=bOs h
 refine ba (fun(s:(Bool × Int)) L tm=>∃(O:Nat→Value),L=[al X 120 [vI p0.fID,vI p0.fFrom,vI p0.fTo,vI p0.fLong,vI p0.fToll,.slice f p0.fK.length o]]∧tm=(upd (upd (upd (upd O 1 (vI p1)) 2 (.pointer (some ⟨X,0,none⟩))) 4 (.bool s.1)) 5 (vI s.2))) 0 I ⟨_,E,(kp4 E)⟩ ?_ ?_
 ·rintro d L tm st ⟨N,rfl,rfl⟩ h
  unfold ir at h
  refine cS (cS (cR (oY E (yMI E) (oY E (yFA fC E) (oY E (yL 0 j9 E E E) (oY E (bg (us:=[]) lW E) (oY E (a6 E E) (oN (eT ?_)))))))))
  rcases iOs h with⟨H,h⟩|⟨H,h⟩
  ·refine cT (vB H) (cK (eT (cS (cB (cS ?_)))))
   refine aX 15 bZ (by kernel_rfl) (by kernel_rfl) ?_
   refine qY E (yMI E) (qY E (yFA fC E) (qY E (yL 0 j9 E E E) (qY E (yMI E) ?_)))
   obtain⟨w,h⟩:=gOs h
   refine qY E (yI jx (by decide) w.1 w.2 (RdL.arg g) (eL aE E) E E) ?_
   refine qY E (yFR (A:=f) (j:=(Int.toNat d.2*2)) gt E) (qY E (yR (A:=f) (j:=((Int.toNat d.2*2)+0)) (v:=vI ((rdL p0.fK d.2).fLo)) aN (RdL.arg g) E (eG aE w.1 (ai w.2 E) E)) (qY E (yFA fC E) (qY E (yL 0 j9 E E E) (qY E (yMI E) ?_))))
   obtain⟨D,h⟩:=gOs h
   refine qY E (yI jx (by decide) D.1 D.2 (RdL.arg g) (eL aE E) E E) ?_
   refine qY E (yFR (A:=f) (j:=(Int.toNat d.2*2)) eH E) (qY E (yR (A:=f) (j:=((Int.toNat d.2*2)+1)) (v:=vI ((rdL p0.fK d.2).fHi)) aN (RdL.arg g) E (eG aE D.1 (ai D.2 E) E)) ?_)
   obtain⟨Z,Q,h⟩:=bOs h
   refine qY E (yC [vI p1,vI ((rdL p0.fK d.2).fLo),vI ((rdL p0.fK d.2).fHi)] gk E (fun W2 F=>aO p1 ((rdL p0.fK d.2).fLo) ((rdL p0.fK d.2).fHi) Z Q W2 ) E) (qY E (yAB E) (bF (oN (eT (cS (cR (oY E (yMB E) (oN (eT ?_)))))))))
   rcases iOs h with⟨u,h⟩|⟨u,h⟩
   ·refine cT (vB u) (cS (cR (oY E (yAB E) (oN (eT (am (ah (aa ?_))))))))
    obtain rfl:=sI h
    exact au ⟨E,_,E,(kp4 E)⟩
   ·refine cF (vB u) (cK (aw (eT (cR (oY E (yMI E) (oY E (aM E E) (oY E (yAI E) (oN ?_))))))))
    obtain rfl:=sI h
    exact eN ⟨_,E,(kp4 E)⟩
  ·refine cF (vB H) (aD (aj ?_))
   obtain rfl:=sI h
   exact au ⟨E,_,E,(kp4 E)⟩
 ·intro e L tm hJ
  rcases Y with U|V
  ·dsimp only at h hJ
   obtain⟨rfl,K,rfl,rfl⟩:=hJ
   refine⟨(by intro hc;cases hc),?_⟩
   refine ah (aa ?_)
   obtain rfl:=sI h
   exact ak (.inl E) E (rVt (v:=.bool U.1) E) (fun W2 F=>⟨E,F.none⟩)
  ·dsimp only at h hJ
   obtain⟨rfl,M,rfl,rfl⟩:=hJ
   refine⟨(by intro hc;cases hc),?_⟩
   refine ae (eT (cS (cR (oY E (yAB E) (oN (eT (am ?_)))))))
   obtain rfl:=sI h
   exact ak (.inl E) E (rVt (v:=.bool true) E) (fun W2 F=>⟨E,F.none⟩)
theorem nt (p0:TR) (p1:Int) (p2:Int) (p3:Int) (p4:TJ) (res:Bool) (h:fa p0 p1 p2 p3 p4=some res) (W:World) (Ab:Option Addr) (T cb:Nat) (o:List (Hd × TT)) (l:T=p0.fTracks.length) (X:Rd W Ab T cb (encL TTrack_cells2 o)) (K:NestW W (fun z:TT=>z.fK) TSpan_cells o p0.fTracks) (M:Option Addr) (S Z:Nat) (t:S=p4.fLegs.length) (O:Rd W M S Z (encL TLeg_cells p4.fLegs)) :
  Calls Tryz.prog 21 [.agg #[vI p0.fPlaces,.slice Ab T cb],vI p1,vI p2,vI p3,.agg #[.slice M S Z,vI p4.fA,vI p4.fToll]].toArray W fun e W2=>e=.returned (.bool res)∧Ext W W2 []:=by
 subst l
 subst t
 unfold fa at h
 refine ag (m:=106) Tryz.func21 E E (nB E) (cS (cR ?_))
 refine aI [vI p0.fPlaces,.slice Ab p0.fTracks.length cb] E E E (fun x=>?_)
 refine aI [.slice M p4.fLegs.length Z,vI p4.fA,vI p4.fToll] E E E (fun a=>?_)
 refine oY E (yAB E) (oN (eT (cS (cR (oY E (yMI E) (oY E (yAI E) (oN (eT (cS (cR (oY E (yMI E) (oY E (yAI E) (oN (eT (cS (cR (oY E (yAI E) (oN (eT (cS (cS (cR (oY E (yAI E) (oN (eT (cB ?_))))))))))))))))))))))))))
 obtain⟨u5,y,h⟩:=bOs h
 refine ba (fun(s:(Bool × Int × Int × Int × Int)) L tm=>∃(r:Nat→Value),L=[al x 24 [vI p0.fPlaces,.slice Ab p0.fTracks.length cb],al a 29 [.slice M p4.fLegs.length Z,vI p4.fA,vI p4.fToll]]∧tm=(upd (upd (upd (upd (upd (upd (upd (upd r 2 (vI p2)) 5 (.pointer (some ⟨x,0,none⟩))) 9 (.pointer (some ⟨a,0,none⟩))) 10 (.bool s.1)) 11 (vI s.2.1)) 12 (vI s.2.2.1)) 13 (vI s.2.2.2.1)) 14 (vI s.2.2.2.2))) 0 y ⟨_,E,(kp4 (kp4 E))⟩ ?_ ?_
 ·rintro u L tm st ⟨f3,rfl,rfl⟩ h
  unfold fF at h
  refine cS (cS (cR (oY E (yMI E) (oY E (yFA kJ E) (oY E (yL 1 rK E E E) (oY E (bg (us:=[]) th E) (oY E (a6 E E) (oN (eT ?_)))))))))
  rcases iOs h with⟨i,h⟩|⟨i,h⟩
  ·refine cT (vB i) (cK (eT (cS (cB (cS ?_)))))
   refine aX 9 bZ (by kernel_rfl) (by kernel_rfl) ?_
   refine qY E (yN 0 [vI p0.fPlaces,.slice Ab p0.fTracks.length cb] dh E E E) (qY E (yFA kJ E) (qY E (yL 1 rK E E E) (qY E (yMI E) ?_)))
   obtain⟨n,h⟩:=gOs h
   refine qY E (yI rz (by decide) n.1 n.2 (RdL.arg O) (eL bd E) E E) ?_
   refine qY E (yFR (A:=M) (j:=(Int.toNat u.2.2.2.2*2)) sQ E) (qY E (yR (A:=M) (j:=((Int.toNat u.2.2.2.2*2)+0)) (v:=vI ((rdL p4.fLegs u.2.2.2.2).fTrack)) aN (RdL.arg O) E (eG bd n.1 (ai n.2 E) E)) ?_)
   obtain⟨g,fr,h⟩:=bOs h
   refine qY E (yC [.agg #[vI p0.fPlaces,.slice Ab p0.fTracks.length cb],vI ((rdL p4.fLegs u.2.2.2.2).fTrack)] go_76 E (fun W2 Q=>pm p0 ((rdL p4.fLegs u.2.2.2.2).fTrack) g fr W2 Ab p0.fTracks.length cb o E ((RdL.arg X) W2 Q) (NestL.at (NestL.arg K) W2 Q)) E) (qY E (yAI E) (bF (oN (eT (cS (cS (cR (oY E (yMI E) (oY E (a6 E E) (oN (eT ?_)))))))))))
   rcases iOs h with⟨R,h⟩|⟨R,h⟩
   ·refine cT (vB R) (cS (cR (oY E (yAB E) (oN (eT (am (aa (ah (aa ?_)))))))))
    obtain rfl:=sI h
    exact au ⟨E,_,E,(kp4 (kp4 E))⟩
   ·refine cF (vB R) (cK (eT (cS (cR (oY E (yFA bI E) (oY E (yL 0 f7 E E E) (oY E (yMI E) ?_)))))))
    obtain⟨N,h⟩:=gOs h
    refine oY E (yI iI (by decide) N.1 N.2 (RdL.arg X) (eL ar (NestP.hn K.p E)) E E) ?_
    refine oY E (yM (A:=Ab) (j:=(Int.toNat g*6)) [vI ((rdL p0.fTracks g).fID),vI ((rdL p0.fTracks g).fFrom),vI ((rdL p0.fTracks g).fTo),vI ((rdL p0.fTracks g).fLong),vI ((rdL p0.fTracks g).fToll),.slice ((rdL o g).1.1) ((rdL p0.fTracks g).fK.length) ((rdL o g).1.2.2)] gl (Nat.succ_pos _) (RdL.arg X) E (iM (bB (NestP.snd K.p g) (NestP.len K.p N.1 (ai N.2 E))).symm (be ar N.1 (ai N.2 (NestP.hn K.p E))))) ?_
    refine aF g0 E (fun k=>?_)
    refine co E (yS 2 [vI ((rdL p0.fTracks g).fID),vI ((rdL p0.fTracks g).fFrom),vI ((rdL p0.fTracks g).fTo),vI ((rdL p0.fTracks g).fLong),vI ((rdL p0.fTracks g).fToll),.slice ((rdL o g).1.1) ((rdL p0.fTracks g).fK.length) ((rdL o g).1.2.2)] nh E (nB E) E E E) (oN (eT (cS (cR (oY E (yFA kJ E) (oY E (yL 1 rK E E E) (oY E (yMI E) ?_)))))))
    obtain⟨V,h⟩:=gOs h
    refine oY E (yI rz (by decide) V.1 V.2 (RdL.arg O) (eL bd E) E E) ?_
    refine oY E (yFR (A:=M) (j:=(Int.toNat u.2.2.2.2*2)) kT E) (oY E (yR (A:=M) (j:=((Int.toNat u.2.2.2.2*2)+1)) (v:=vI ((rdL p4.fLegs u.2.2.2.2).fHour)) aN (RdL.arg O) E (eG bd V.1 (ai V.2 E) E)) (oY E (yAI E) (oN (eT (cS (cR (oY E (yMI E) ?_)))))))
    obtain⟨U,b,h⟩:=bOs h
    refine oY E (yC [vI ((rdL p4.fLegs u.2.2.2.2).fHour)] qX E (fun W2 Q=>db ((rdL p4.fLegs u.2.2.2.2).fHour) U b W2 ) E) (oY E (yAB E) (oN (eT (cS (cR (oY E (yN 2 [vI ((rdL p0.fTracks g).fID),vI ((rdL p0.fTracks g).fFrom),vI ((rdL p0.fTracks g).fTo),vI ((rdL p0.fTracks g).fLong),vI ((rdL p0.fTracks g).fToll),.slice ((rdL o g).1.1) ((rdL p0.fTracks g).fK.length) ((rdL o g).1.2.2)] gl E E E) (oY E (yMI E) ?_)))))))
    obtain⟨Y,c,h⟩:=bOs h
    refine oY E (yC [.agg #[vI ((rdL p0.fTracks g).fID),vI ((rdL p0.fTracks g).fFrom),vI ((rdL p0.fTracks g).fTo),vI ((rdL p0.fTracks g).fLong),vI ((rdL p0.fTracks g).fToll),.slice ((rdL o g).1.1) ((rdL p0.fTracks g).fK.length) ((rdL o g).1.2.2)],vI ((rdL p4.fLegs u.2.2.2.2).fHour)] go_78 E (fun W2 Q=>qh (TT.mk ((rdL p0.fTracks g).fID) ((rdL p0.fTracks g).fFrom) ((rdL p0.fTracks g).fTo) ((rdL p0.fTracks g).fLong) ((rdL p0.fTracks g).fToll) ((rdL p0.fTracks g).fK)) ((rdL p4.fLegs u.2.2.2.2).fHour) Y c W2 ((rdL o g).1.1) ((rdL p0.fTracks g).fK.length) ((rdL o g).1.2.2) E ((NestL.rd (NestL.arg K) N.1 (ai N.2 E)) W2 Q)) E) (oY E (yAB E) (oN (eT (cS (cS (cR (oY E (yFA gO E) (oY E (yL 2 aN E E E) (oY E (yMI E) (oY E (cU E E) (oY E (yMB E) ?_)))))))))))
    refine oJ 3 (fun r=>(upd (upd (upd (upd (upd (upd (upd (upd (upd (upd (upd (upd (upd (upd (upd (upd r 2 (vI p2)) 5 (.pointer (some ⟨x,0,none⟩))) 9 (.pointer (some ⟨a,0,none⟩))) 10 (.bool u.1)) 11 (vI u.2.1)) 12 (vI u.2.2.1)) 13 (vI u.2.2.2.1)) 14 (vI u.2.2.2.2)) 26 (.bool (decide (u.2.2.2.2<(p4.fLegs.length:Int))))) 15 (vI g)) 38 (.bool (decide (g<0)))) 16 (.pointer (some ⟨k,0,none⟩))) 17 (vI ((rdL p4.fLegs u.2.2.2.2).fHour))) 18 (.bool U)) 19 (.bool Y)) 62 (.bool ((((rdL p0.fTracks g).fFrom) !=u.2.1)||(!U))))) (fun r=>?_) (fun key=>?_)
    ·refine oY E (yMB E) ?_
     refine oJ 3 (fun r=>(upd (upd (upd (upd (upd (upd (upd (upd (upd (upd (upd (upd (upd (upd (upd (upd r 2 (vI p2)) 5 (.pointer (some ⟨x,0,none⟩))) 9 (.pointer (some ⟨a,0,none⟩))) 10 (.bool u.1)) 11 (vI u.2.1)) 12 (vI u.2.2.1)) 13 (vI u.2.2.2.1)) 14 (vI u.2.2.2.2)) 26 (.bool (decide (u.2.2.2.2<(p4.fLegs.length:Int))))) 15 (vI g)) 38 (.bool (decide (g<0)))) 16 (.pointer (some ⟨k,0,none⟩))) 17 (vI ((rdL p4.fLegs u.2.2.2.2).fHour))) 18 (.bool U)) 19 (.bool Y)) 66 (.bool (((((rdL p0.fTracks g).fFrom) !=u.2.1)||(!U))||(!Y))))) (fun r=>?_) (fun key=>?_)
     ·refine oY E (yMB E) ?_
      refine oJ 4 (fun r=>(upd (upd (upd (upd (upd (upd (upd (upd (upd (upd (upd (upd (upd (upd (upd (upd r 2 (vI p2)) 5 (.pointer (some ⟨x,0,none⟩))) 9 (.pointer (some ⟨a,0,none⟩))) 10 (.bool u.1)) 11 (vI u.2.1)) 12 (vI u.2.2.1)) 13 (vI u.2.2.2.1)) 14 (vI u.2.2.2.2)) 26 (.bool (decide (u.2.2.2.2<(p4.fLegs.length:Int))))) 15 (vI g)) 38 (.bool (decide (g<0)))) 16 (.pointer (some ⟨k,0,none⟩))) 17 (vI ((rdL p4.fLegs u.2.2.2.2).fHour))) 18 (.bool U)) 19 (.bool Y)) 71 (.bool ((((((rdL p0.fTracks g).fFrom) !=u.2.1)||(!U))||(!Y))||(decide ((rdL p4.fLegs u.2.2.2.2).fHour<u.2.2.1)))))) (fun r=>?_) (fun key=>?_)
      ·refine oN (eT ?_)
       rcases iOs h with⟨q,h⟩|⟨q,h⟩
       ·refine cT (vB q) (cS (cR (oY E (yAB E) (oN (eT (am (aa (ah (aa (aT 2 ?_))))))))))
        obtain rfl:=sI h
        exact au ⟨E,_,E,(kp4 (kp4 E))⟩
       ·refine cF (vB q) (cK (eT (cS (cR (oY E (yFA gg E) (oY E (yL 2 aN E E E) (oY E (yAI E) (oN (eT (cS (cR (oY E (yMI E) (oY E (yFA fy E) (oY E (yL 2 aN E E E) (oY E (aM E E) (oY E (yAI E) (oN (eT (cR (oY E (yMI E) (oY E (yFA fw E) (oY E (yL 2 aN E E E) (oY E (aM E E) (oY E (y_min E E) (oY E (yAI E) (oN (aw (eT (cR (oY E (yMI E) (oY E (aM E E) (oY E (yAI E) (oN (aT 2 ?_))))))))))))))))))))))))))))))))))
        obtain rfl:=sI h
        exact eN ⟨_,E,(kp4 (kp4 E))⟩
      ·rcases aq (((((rdL p0.fTracks g).fFrom) !=u.2.1)||(!U))||(!Y))with D|D
       ·refine oSk (sF E E E E D) (oSk (sF E E E E D) (oSk (sF E E E E D) (oY E (ac (vB D) E) ?_)))
        exact key _ _ (keep (keep (keep (keep (keep (keep (keep (keep (keep (keep (keep (keep (keep (keep (keep (keep E E) E) E) E) E) E) E) E) E) E) E) E) E) E) E) (vB (iy D)))
       ·refine oY (sT E E E E D) (yMI E) (oY (sT E E E E D) (yMI E) (oY (sT E E E E D) (a6 E E) (oY E (ad (vB D) E) ?_)))
        exact key _ _ (keep (keep (keep (keep (keep (keep (keep (keep (keep (keep (keep (keep (keep (keep (keep (keep E E) E) E) E) E) E) E) E) E) E) E) E) E) E) E) (vB (iw D)))
     ·rcases aq ((((rdL p0.fTracks g).fFrom) !=u.2.1)||(!U))with F|F
      ·refine oSk (sF E E E E F) (oSk (sF E E E E F) (oY E (ac (vB F) E) ?_))
       exact key _ _ (keep (keep (keep (keep (keep (keep (keep (keep (keep (keep (keep (keep (keep (keep (keep (keep E E) E) E) E) E) E) E) E) E) E) E) E) E) E) E) (vB (iy F)))
      ·refine oY (sT E E E E F) (yMB E) (oY (sT E E E E F) (bw E) (oY E (ad (vB F) E) ?_))
       exact key _ _ (keep (keep (keep (keep (keep (keep (keep (keep (keep (keep (keep (keep (keep (keep (keep (keep E E) E) E) E) E) E) E) E) E) E) E) E) E) E) E) (vB (iw F)))
    ·rcases aq (((rdL p0.fTracks g).fFrom) !=u.2.1)with G|G
     ·refine oSk (sF E E E E G) (oSk (sF E E E E G) (oY E (ac (vB G) E) ?_))
      exact key _ _ (keep (keep (keep (keep (keep (keep (keep (keep (keep (keep (keep (keep (keep (keep (keep (keep E E) E) E) E) E) E) E) E) E) E) E) E) E) E) E) (vB (iy G)))
     ·refine oY (sT E E E E G) (yMB E) (oY (sT E E E E G) (bw E) (oY E (ad (vB G) E) ?_))
      exact key _ _ (keep (keep (keep (keep (keep (keep (keep (keep (keep (keep (keep (keep (keep (keep (keep (keep E E) E) E) E) E) E) E) E) E) E) E) E) E) E) E) (vB (iw G)))
  ·refine cF (vB i) (aD (aj ?_))
   obtain rfl:=sI h
   exact au ⟨E,_,E,(kp4 (kp4 E))⟩
 ·intro e L tm hJ
  rcases u5 with fd|f
  ·dsimp only at h hJ
   obtain⟨rfl,f1,rfl,rfl⟩:=hJ
   refine⟨(by intro hc;cases hc),?_⟩
   refine ah (aa ?_)
   obtain rfl:=sI h
   exact ak (.inl E) E (rVt (v:=.bool fd.1) E) (fun W2 Q=>⟨E,Q.none⟩)
  ·dsimp only at h hJ
   obtain⟨rfl,f2,rfl,rfl⟩:=hJ
   refine⟨(by intro hc;cases hc),?_⟩
   refine ae (eT (cS (cR (oY E (yMI E) (oY E (yMI E) (oY E (cL E E) (oY E (yMB E) ?_)))))))
   refine oJ 5 (fun r=>(upd (upd (upd (upd (upd r 9 (.pointer (some ⟨a,0,none⟩))) 10 (.bool f.1)) 12 (vI f.2.2.1)) 13 (vI f.2.2.2.1)) 91 (.bool ((f.2.1==p2)&&(f.2.2.1==p4.fA))))) (fun r=>?_) (fun key=>?_)
   ·refine oY E (yMB E) ?_
    refine oJ 3 (fun r=>(upd (upd (upd (upd r 9 (.pointer (some ⟨a,0,none⟩))) 10 (.bool f.1)) 13 (vI f.2.2.2.1)) 95 (.bool (((f.2.1==p2)&&(f.2.2.1==p4.fA))&&(decide (f.2.2.1≤16384)))))) (fun r=>?_) (fun key=>?_)
    ·refine oY E (yMB E) ?_
     refine oJ 5 (fun r=>(upd (upd (upd r 10 (.bool f.1)) 13 (vI f.2.2.2.1)) 101 (.bool ((((f.2.1==p2)&&(f.2.2.1==p4.fA))&&(decide (f.2.2.1≤16384)))&&(f.2.2.2.1==p4.fToll))))) (fun r=>?_) (fun key=>?_)
     ·refine oY E (yMB E) ?_
      refine oJ 3 (fun r=>(upd (upd r 10 (.bool f.1)) 105 (.bool (((((f.2.1==p2)&&(f.2.2.1==p4.fA))&&(decide (f.2.2.1≤16384)))&&(f.2.2.2.1==p4.fToll))&&(decide (f.2.2.2.1≤60)))))) (fun r=>?_) (fun key=>?_)
      ·refine oY E (yAB E) (oN (eT (am ?_)))
       obtain rfl:=sI h
       exact ak (.inl E) E (rVt (v:=.bool (((((f.2.1==p2)&&(f.2.2.1==p4.fA))&&(decide (f.2.2.1≤16384)))&&(f.2.2.2.1==p4.fToll))&&(decide (f.2.2.2.1≤60)))) E) (fun W2 Q=>⟨E,Q.none⟩)
      ·rcases aq ((((f.2.1==p2)&&(f.2.2.1==p4.fA))&&(decide (f.2.2.1≤16384)))&&(f.2.2.2.1==p4.fToll))with H|H
       ·refine oY (sT E E E E H) (yMI E) (oY (sT E E E E H) (iA E E) (oY E (ac (vB H) E) ?_))
        exact key _ _ (keep (keep E E) (vB (eU H)))
       ·refine oSk (sF E E E E H) (oSk (sF E E E E H) (oY E (ad (vB H) E) ?_))
        exact key _ _ (keep (keep E E) (vB (eY H)))
     ·rcases aq (((f.2.1==p2)&&(f.2.2.1==p4.fA))&&(decide (f.2.2.1≤16384)))with d|d
      ·refine oY (sT E E E E d) (yMI E) (oY (sT E E E E d) (yFA n2 E) (oY (sT E E E E d) (yL 1 aN E E E) (oY (sT E E E E d) (cL E E) (oY E (ac (vB d) E) ?_))))
       exact key _ _ (keep (keep (keep E E) E) (vB (eU d)))
      ·refine oSk (sF E E E E d) (oSk (sF E E E E d) (oSk (sF E E E E d) (oSk (sF E E E E d) (oY E (ad (vB d) E) ?_))))
       exact key _ _ (keep (keep (keep E E) E) (vB (eY d)))
    ·rcases aq ((f.2.1==p2)&&(f.2.2.1==p4.fA))with I|I
     ·refine oY (sT E E E E I) (yMI E) (oY (sT E E E E I) (iA E E) (oY E (ac (vB I) E) ?_))
      exact key _ _ (keep (keep (keep (keep E E) E) E) (vB (eU I)))
     ·refine oSk (sF E E E E I) (oSk (sF E E E E I) (oY E (ad (vB I) E) ?_))
      exact key _ _ (keep (keep (keep (keep E E) E) E) (vB (eY I)))
   ·rcases aq (f.2.1==p2)with w|w
    ·refine oY (sT E E E E w) (yMI E) (oY (sT E E E E w) (yFA lv E) (oY (sT E E E E w) (yL 1 aN E E E) (oY (sT E E E E w) (cL E E) (oY E (ac (vB w) E) ?_))))
     exact key _ _ (keep (keep (keep (keep (keep E E) E) E) E) (vB (eU w)))
    ·refine oSk (sF E E E E w) (oSk (sF E E E E w) (oSk (sF E E E E w) (oSk (sF E E E E w) (oY E (ad (vB w) E) ?_))))
     exact key _ _ (keep (keep (keep (keep (keep E E) E) E) E) (vB (eY w)))
end Go.Proofs.YthndghnkebboaaaGreat
set_option maxHeartbeats 4000000
set_option maxRecDepth 100000
namespace Go.Proofs.YthndghnkebboaaaGreat
open Go.RowKit (Below)
attribute [local irreducible] OX QX CX EX OpY Calls CallsIn
theorem kY (p0:TR) (p1:Int) (p2:Int) (p3:Int) (p4:TJ) (res:Int) (h:bU p0 p1 p2 p3 p4=some res) (W:World) (Ab:Option Addr) (u cb:Nat) (r:List (Hd × TT)) (F:u=p0.fTracks.length) (d:Rd W Ab u cb (encL TTrack_cells2 r)) (w:NestW W (fun z:TT=>z.fK) TSpan_cells r p0.fTracks) (g:Option Addr) (D o:Nat) (G:D=p4.fLegs.length) (H:Rd W g D o (encL TLeg_cells p4.fLegs)) :
  Calls Tryz.prog 51 [.agg #[vI p0.fPlaces,.slice Ab u cb],vI p1,vI p2,vI p3,.agg #[.slice g D o,vI p4.fA,vI p4.fToll]].toArray W fun e W2=>e=.returned (vI res)∧Ext W W2 []:=by
 subst F
 subst G
 unfold bU at h
 refine ag (m:=27) Tryz.func51 E E (nB E) (cS (cR ?_))
 refine aI [vI p0.fPlaces,.slice Ab p0.fTracks.length cb] E E E (fun U=>?_)
 refine aI [.slice g p4.fLegs.length o,vI p4.fA,vI p4.fToll] E E E (fun X=>?_)
 refine oY E (yAI E) (oN (eT (cS (cS (cR (oY E (yN 0 [vI p0.fPlaces,.slice Ab p0.fTracks.length cb] dh E E E) (oY E (yMI E) (oY E (yMI E) (oY E (yMI E) ?_)))))))))
 obtain⟨O,M,h⟩:=bOs h
 refine oY E (yC [.agg #[vI p0.fPlaces,.slice Ab p0.fTracks.length cb],vI p1,vI p2,vI p3,vI 0] tj E (fun W2 f=>eR p0 p1 p2 p3 0 O M W2 Ab p0.fTracks.length cb r E ((RdL.arg d) W2 f) (NestL.at (NestL.arg w) W2 f)) E) (oY E (yAI E) (oN (eT (cS (cR (oY E (yMI E) (oY E (cU E E) (oN (eT ?_)))))))))
 rcases iOs h with⟨I,h⟩|⟨I,h⟩
 ·refine cT (vB I) (cS (cR (oY E (yMI E) (oY E (yAI E) (oN (eT (am (aa ?_))))))))
  obtain rfl:=sI h
  exact ak (.inl E) E (rVt (v:=vI O) E) (fun W2 f=>⟨E,f.none⟩)
 ·refine cF (vB I) (cK (eT (cS (cS (cR (oY E (yN 0 [vI p0.fPlaces,.slice Ab p0.fTracks.length cb] dh E E E) (oY E (yMI E) (oY E (yMI E) (oY E (yMI E) (oY E (yN 1 [.slice g p4.fLegs.length o,vI p4.fA,vI p4.fToll] lE E E E) ?_))))))))))
  obtain⟨Q,N,h⟩:=bOs h
  refine oY E (yC [.agg #[vI p0.fPlaces,.slice Ab p0.fTracks.length cb],vI p1,vI p2,vI p3,.agg #[.slice g p4.fLegs.length o,vI p4.fA,vI p4.fToll]] go_113 E (fun W2 f=>oH p0 p1 p2 p3 p4 Q N W2 Ab p0.fTracks.length cb r E ((RdL.arg d) W2 f) (NestL.at (NestL.arg w) W2 f) g p4.fLegs.length o E ((RdL.arg H) W2 f)) E) (oY E (bw E) (oN (eT ?_)))
  rcases iOs h with⟨K,h⟩|⟨K,h⟩
  ·refine cT (vB K) (cS (cR (oY E (yAI E) (oN (eT (am (aa ?_)))))))
   obtain rfl:=sI h
   exact ak (.inl E) E (rVt (v:=vI 8) E) (fun W2 f=>⟨E,f.none⟩)
  ·refine cF (vB K) (cK (eT (cS (cR (oY E (yAI E) (oN (eT (am ?_))))))))
   obtain rfl:=sI h
   exact ak (.inl E) E (rVt (v:=vI 0) E) (fun W2 f=>⟨E,f.none⟩)
end Go.Proofs.YthndghnkebboaaaGreat
set_option maxHeartbeats 4000000
set_option maxRecDepth 100000
namespace Go.Proofs.YthndghnkebboaaaGreat
open Go.RowKit (Below)
attribute [local irreducible] OX QX CX EX OpY Calls CallsIn
theorem lR (p0:TR) (p1:Int) (p2:Int) (p3:TTimes) (res:Int) (h:cG p0 p1 p2 p3=some res) (W:World) (Ab:Option Addr) (d cb:Nat) (r:List (Hd × TT)) (G:d=p0.fTracks.length) (w:Rd W Ab d cb (encL TTrack_cells2 r)) (D:NestW W (fun z:TT=>z.fK) TSpan_cells r p0.fTracks) (g:Option Addr) (F o:Nat) (u:List (Hd × (List Int))) (H:F=p3.fH.length) (I:Rd W g F o (encL SlInt_cells2 u)) (K:NestW W (fun z:(List Int)=>z) cI u p3.fH) :
  Calls Tryz.prog 50 [.agg #[vI p0.fPlaces,.slice Ab d cb],vI p1,vI p2,.agg #[.slice g F o]].toArray W fun e W2=>e=.returned (vI res)∧Ext W W2 []:=by
 subst G
 subst H
 unfold cG at h
 refine ag (m:=24) Tryz.func50 E E (nB E) (cS (cR ?_))
 refine aI [vI p0.fPlaces,.slice Ab p0.fTracks.length cb] E E E (fun Y=>?_)
 refine aI [.slice g p3.fH.length o] E E E (fun Z=>?_)
 refine oY E (yAI E) (oN (eT (cS (cS (cR (oY E (yN 0 [vI p0.fPlaces,.slice Ab p0.fTracks.length cb] dh E E E) (oY E (yMI E) (oY E (yMI E) (oY E (yMI E) ?_)))))))))
 obtain⟨U,O,h⟩:=bOs h
 refine oY E (yC [.agg #[vI p0.fPlaces,.slice Ab p0.fTracks.length cb],vI p1,vI p1,vI p2,vI 0] tj E (fun W2 f=>eR p0 p1 p1 p2 0 U O W2 Ab p0.fTracks.length cb r E ((RdL.arg w) W2 f) (NestL.at (NestL.arg D) W2 f)) E) (oY E (yAI E) (oN (eT (cS (cR (oY E (yMI E) (oY E (cU E E) (oN (eT ?_)))))))))
 rcases iOs h with⟨M,h⟩|⟨M,h⟩
 ·refine cT (vB M) (cS (cR (oY E (yMI E) (oY E (yAI E) (oN (eT (am (aa ?_))))))))
  obtain rfl:=sI h
  exact ak (.inl E) E (rVt (v:=vI U) E) (fun W2 f=>⟨E,f.none⟩)
 ·refine cF (vB M) (cK (eT (cS (cS (cR (oY E (yN 0 [vI p0.fPlaces,.slice Ab p0.fTracks.length cb] dh E E E) (oY E (yMI E) (oY E (yMI E) (oY E (yN 1 [.slice g p3.fH.length o] pd E E E) ?_)))))))))
  obtain⟨X,Q,h⟩:=bOs h
  refine oY E (yC [.agg #[vI p0.fPlaces,.slice Ab p0.fTracks.length cb],vI p1,vI p2,.agg #[.slice g p3.fH.length o]] go_112 E (fun W2 f=>oD p0 p1 p2 p3 X Q W2 Ab p0.fTracks.length cb r E ((RdL.arg w) W2 f) (NestL.at (NestL.arg D) W2 f) g p3.fH.length o u E ((RdL.arg I) W2 f) (NestL.at (NestL.arg K) W2 f)) E) (oY E (bw E) (oN (eT ?_)))
  rcases iOs h with⟨N,h⟩|⟨N,h⟩
  ·refine cT (vB N) (cS (cR (oY E (yAI E) (oN (eT (am (aa ?_)))))))
   obtain rfl:=sI h
   exact ak (.inl E) E (rVt (v:=vI 8) E) (fun W2 f=>⟨E,f.none⟩)
  ·refine cF (vB N) (cK (eT (cS (cR (oY E (yAI E) (oN (eT (am ?_))))))))
   obtain rfl:=sI h
   exact ak (.inl E) E (rVt (v:=vI 0) E) (fun W2 f=>⟨E,f.none⟩)
end Go.Proofs.YthndghnkebboaaaGreat
set_option maxHeartbeats 4000000
set_option maxRecDepth 100000
namespace Go.Proofs.YthndghnkebboaaaGreat
open Go.RowKit (Below)
attribute [local irreducible] OX QX CX EX OpY Calls CallsIn
theorem pp (p0:TR) (p1:Int) (p2:Int) (p3:TTimes) (res:Bool) (h:iH p0 p1 p2 p3=some res) (W:World) (Ab:Option Addr) (fd cb:Nat) (F:List (Hd × TT)) (g2:fd=p0.fTracks.length) (fD:Rd W Ab fd cb (encL TTrack_cells2 F)) (S:NestW W (fun z:TT=>z.fK) TSpan_cells F p0.fTracks) (X:Option Addr) (fE R:Nat) (g:List (Hd × (List Int))) (gf:fE=p3.fH.length) (V:Rd W X fE R (encL SlInt_cells2 g)) (o:NestW W (fun z:(List Int)=>z) cI g p3.fH) :
  Calls Tryz.prog 114 [.agg #[vI p0.fPlaces,.slice Ab fd cb],vI p1,vI p2,.agg #[.slice X fE R]].toArray W fun e W2=>e=.returned (.bool res)∧Ext W W2 []:=by
 subst g2
 subst gf
 unfold iH at h
 refine ag (m:=157) Tryz.func114 E E (nB E) (cS (cR ?_))
 refine aI [vI p0.fPlaces,.slice Ab p0.fTracks.length cb] E E E (fun t=>?_)
 refine aI [.slice X p3.fH.length R] E E E (fun a=>?_)
 refine oY E (yAB E) (oN (eT (cS (cS (cR (oY E (yFA cq E) (oY E (yL 1 iE E E E) (oY E (bg (us:=[]) nq E) (oY E (yFA dE E) (oY E (yL 0 aN E E E) (oY E (cU E E) (oN (eT ?_)))))))))))))
 rcases iOs h with⟨go,h⟩|⟨go,h⟩
 ·refine cT (vB go) (cS (cR (oY E (yAB E) (oN (eT (am (aa ?_)))))))
  obtain rfl:=sI h
  exact ak (.inl E) E (rVt (v:=.bool false) E) (fun W2 q=>⟨E,q.none⟩)
 ·refine cF (vB go) (cK (eT (cS (cS (cR (oY E (yAI E) (oN (eT (cB ?_)))))))))
  obtain⟨u6,o2,h⟩:=bOs h
  refine ba (fun(s:(Bool × Int)) L tm=>∃(w:Nat→Value),L=[al t 24 [vI p0.fPlaces,.slice Ab p0.fTracks.length cb],al a 87 [.slice X p3.fH.length R]]∧tm=(upd (upd (upd (upd (upd (upd w 1 (vI p1)) 2 (vI p2)) 4 (.pointer (some ⟨t,0,none⟩))) 7 (.pointer (some ⟨a,0,none⟩))) 8 (.bool s.1)) 9 (vI s.2))) 0 o2 ⟨_,E,(kp4 (kp (kp E)))⟩ ?_ ?_
  ·rintro r L tm st ⟨u9,rfl,rfl⟩ h
   unfold fp at h
   refine cS (cS (cR (oY E (yMI E) (oY E (yFA dE E) (oY E (yL 0 aN E E E) (oY E (a6 E E) (oN (eT ?_))))))))
   rcases iOs h with⟨o0,h⟩|⟨o0,h⟩
   ·refine cT (vB o0) (cK (eT (cS (cB (cS (cR (oY E (yFA cq E) (oY E (yL 1 iE E E E) (oY E (yMI E) ?_)))))))))
    obtain⟨D,h⟩:=gOs h
    refine oY E (yI iq (by decide) D.1 D.2 (RdL.arg V) (eL ao (NestP.hn o.p E)) E E) ?_
    refine oY E (yR (A:=X) (j:=(Int.toNat r.2*1)) (v:=.slice ((rdL g r.2).1.1) ((rdL p3.fH r.2).length) ((rdL g r.2).1.2.2)) gH (RdL.arg V) E (ax ao D.1 (ai D.2 (NestP.hn o.p E)) (congrArg (fun n:Nat=>some (Value.slice (rdL g r.2).1.1 n (rdL g r.2).1.2.2)) (NestP.len o.p D.1 (ai D.2 E))))) (oY E (yAS E) (oN (eT (cS (cS (cR (oY E (yMS E) (oY E (bg (us:=[]) cO E) (oY E (cU E E) (oN (eT ?_)))))))))))
    rcases iOs h with⟨o1,h⟩|⟨o1,h⟩
    ·refine cT (vB o1) (cS (cR (oY E (yAB E) (oN (eT (am (aa (ah (aa ?_)))))))))
     obtain rfl:=sI h
     exact au ⟨E,_,E,(kp4 (kp (kp E)))⟩
    ·refine cF (vB o1) (cK (eT (cS (cR (oY E (yAI E) (oN (eT (cB ?_))))))))
     obtain⟨uf,oX,h⟩:=bOs h
     refine ba (fun(s:(Bool × Int)) L tm=>∃(w:Nat→Value),L=[al t 24 [vI p0.fPlaces,.slice Ab p0.fTracks.length cb],al a 87 [.slice X p3.fH.length R]]∧tm=(upd (upd (upd (upd (upd (upd (upd (upd (upd (upd w 1 (vI p1)) 2 (vI p2)) 4 (.pointer (some ⟨t,0,none⟩))) 7 (.pointer (some ⟨a,0,none⟩))) 8 (.bool s.1)) 9 (vI r.2)) 27 (.bool (decide (r.2<p0.fPlaces)))) 10 (.slice ((rdL g r.2).1.1) ((rdL p3.fH r.2).length) ((rdL g r.2).1.2.2))) 37 (.bool ((((rdL p3.fH r.2).length:Nat):Int) !=61))) 11 (vI s.2))) 2 oX ⟨_,E,(kp4 (kp4 (kp (kp E))))⟩ ?_ ?_
     ·rintro d L tm st ⟨oq,rfl,rfl⟩ h
      unfold dj at h
      refine cS (cS (cR (oY E (yMI E) (oY E (yMS E) (oY E (bg (us:=[]) cO E) (oY E (a6 E E) (oN (eT ?_))))))))
      rcases iOs h with⟨fG,h⟩|⟨fG,h⟩
      ·refine cT (vB fG) (cK (eT (cS (cB (cS (cR (oY E (yMS E) (oY E (yMI E) ?_))))))))
       obtain⟨k,h⟩:=gOs h
       refine oY E (yI bS (by decide) k.1 k.2 (NestL.rd (NestL.arg o) D.1 (ai D.2 E)) (eL aB E) E E) ?_
       refine oY E (yR (A:=((rdL g r.2).1.1)) (j:=(Int.toNat d.2*1)) (v:=vI (rdL (rdL p3.fH r.2) d.2)) aN (NestL.rd (NestL.arg o) D.1 (ai D.2 E)) E (ax aB k.1 (ai k.2 E) E)) ?_
       obtain⟨l,op,h⟩:=bOs h
       refine oY E (yC [vI (rdL (rdL p3.fH r.2) d.2),vI (-1),vI 16384] gk E (fun W2 q=>aO (rdL (rdL p3.fH r.2) d.2) (-1) 16384 l op W2 ) E) (oY E (yAB E) (oN (eT (cS ?_))))
       refine aX 55 bZ (by kernel_rfl) (by kernel_rfl) ?_
       refine qY E (yMB E) (qY E (bw E) (qY E (yMB E) ?_))
       obtain⟨ft,om,h⟩:=bOs h
       refine qJ 19 (fun w=>(upd (upd (upd (upd (upd (upd (upd (upd (upd (upd (upd (upd (upd w 1 (vI p1)) 2 (vI p2)) 4 (.pointer (some ⟨t,0,none⟩))) 7 (.pointer (some ⟨a,0,none⟩))) 8 (.bool d.1)) 9 (vI r.2)) 27 (.bool (decide (r.2<p0.fPlaces)))) 10 (.slice ((rdL g r.2).1.1) ((rdL p3.fH r.2).length) ((rdL g r.2).1.2.2))) 37 (.bool ((((rdL p3.fH r.2).length:Nat):Int) !=61))) 11 (vI d.2)) 41 (.bool (decide (d.2<(((rdL p3.fH r.2).length:Nat):Int))))) 12 (.bool l)) 70 (.bool ft))) (fun w=>?_) (fun key=>?_)
       ·refine qY E (yMB E) ?_
        obtain⟨ug,ot,h⟩:=bOs h
        refine qJ 32 (fun w=>(upd (upd (upd (upd (upd (upd (upd (upd (upd (upd (upd (upd (upd w 1 (vI p1)) 2 (vI p2)) 4 (.pointer (some ⟨t,0,none⟩))) 7 (.pointer (some ⟨a,0,none⟩))) 8 (.bool d.1)) 9 (vI r.2)) 27 (.bool (decide (r.2<p0.fPlaces)))) 10 (.slice ((rdL g r.2).1.1) ((rdL p3.fH r.2).length) ((rdL g r.2).1.2.2))) 37 (.bool ((((rdL p3.fH r.2).length:Nat):Int) !=61))) 11 (vI d.2)) 41 (.bool (decide (d.2<(((rdL p3.fH r.2).length:Nat):Int))))) 12 (.bool l)) 103 (.bool ug))) (fun w=>?_) (fun key=>?_)
        ·refine bF (oN (eT ?_))
         rcases iOs h with⟨fT,h⟩|⟨fT,h⟩
         ·refine cT (vB fT) (cS (cR (oY E (yAB E) (oN (eT (am (ah (aa ?_))))))))
          obtain rfl:=sI h
          exact au ⟨E,_,E,(kp4 (kp4 (kp (kp E))))⟩
         ·refine cF (vB fT) (cK (aw (eT (cR (oY E (yMI E) (oY E (aM E E) (oY E (yAI E) (oN ?_))))))))
          obtain rfl:=sI h
          exact eN ⟨_,E,(kp4 (kp4 (kp (kp E))))⟩
        ·clear h;rcases iOs ot with⟨I,h⟩|⟨I,h⟩
         ·refine ab (sF E E E E I) (ab (sF E E E E I) (ab (sF E E E E I) (ab E (ab E (ab E (ab E (ab E (ab E (ab E (ab (sF E E E E I) (ab (sF E E E E I) (ab E (ab E (ab E (ab E (ab E (ab E (ab E (ab E (ab E (ab E (ab E (ab E (ab E (ab E (ab E (ab E (ab E (ab E (ab (sF E E E E I) (qY E (ac (vB I) E) ?_)))))))))))))))))))))))))))))))
          obtain rfl:=sI h
          exact key _ _ (kp4 (kp4 (kp4 (kp E))))
         ·refine qY (sT E E E E I) (yMI E) (qY (sT E E E E I) (eW E E) (qY (sT E E E E I) (yMB E) ?_))
          obtain⟨oa,oi,h⟩:=bOs h
          refine qJ 8 (fun w=>(upd (upd (upd (upd (upd (upd (upd (upd (upd (upd (upd (upd (upd (upd w 1 (vI p1)) 2 (vI p2)) 4 (.pointer (some ⟨t,0,none⟩))) 7 (.pointer (some ⟨a,0,none⟩))) 8 (.bool d.1)) 9 (vI r.2)) 27 (.bool (decide (r.2<p0.fPlaces)))) 10 (.slice ((rdL g r.2).1.1) ((rdL p3.fH r.2).length) ((rdL g r.2).1.2.2))) 37 (.bool ((((rdL p3.fH r.2).length:Nat):Int) !=61))) 11 (vI d.2)) 41 (.bool (decide (d.2<(((rdL p3.fH r.2).length:Nat):Int))))) 12 (.bool l)) 71 (.bool ft)) 82 (.bool oa))) (fun w=>?_) (fun key=>?_)
          ·refine qY (sT E E E E I) (yMB E) ?_
           obtain⟨uo,oj,h⟩:=bOs h
           refine qJ 19 (fun w=>(upd (upd (upd (upd (upd (upd (upd (upd (upd (upd (upd (upd (upd (upd w 1 (vI p1)) 2 (vI p2)) 4 (.pointer (some ⟨t,0,none⟩))) 7 (.pointer (some ⟨a,0,none⟩))) 8 (.bool d.1)) 9 (vI r.2)) 27 (.bool (decide (r.2<p0.fPlaces)))) 10 (.slice ((rdL g r.2).1.1) ((rdL p3.fH r.2).length) ((rdL g r.2).1.2.2))) 37 (.bool ((((rdL p3.fH r.2).length:Nat):Int) !=61))) 11 (vI d.2)) 41 (.bool (decide (d.2<(((rdL p3.fH r.2).length:Nat):Int))))) 12 (.bool l)) 71 (.bool ft)) 102 (.bool uo))) (fun w=>?_) (fun key=>?_)
           ·refine qY E (ad (vB I) E) ?_
            obtain rfl:=sI h
            exact key _ _ (kp4 (kp4 (kp4 (kp E))))
           ·clear h;rcases iOs oj with⟨G,h⟩|⟨G,h⟩
            ·refine qY (sT E E E E G) (yMS E) (qY (sT E E E E G) (yMI E) ?_)
             obtain⟨x,h⟩:=gOs h
             refine qY (sT E E E E G) (yI bS (by decide) x.1 x.2 (NestL.rd (NestL.arg o) D.1 (ai D.2 E)) (eL aB E) E E) ?_
             refine qY (sT E E E E G) (yR (A:=((rdL g r.2).1.1)) (j:=(Int.toNat d.2*1)) (v:=vI (rdL (rdL p3.fH r.2) d.2)) aN (NestL.rd (NestL.arg o) D.1 (ai D.2 E)) E (ax aB x.1 (ai x.2 E) E)) (qY (sT E E E E G) (a6 E E) (qY (sT E E E E G) (yMB E) ?_))
             obtain⟨ur,ok,h⟩:=bOs h
             refine qJ 12 (fun w=>(upd (upd (upd (upd (upd (upd (upd (upd (upd (upd (upd (upd (upd (upd (upd w 1 (vI p1)) 2 (vI p2)) 4 (.pointer (some ⟨t,0,none⟩))) 7 (.pointer (some ⟨a,0,none⟩))) 8 (.bool d.1)) 9 (vI r.2)) 27 (.bool (decide (r.2<p0.fPlaces)))) 10 (.slice ((rdL g r.2).1.1) ((rdL p3.fH r.2).length) ((rdL g r.2).1.2.2))) 37 (.bool ((((rdL p3.fH r.2).length:Nat):Int) !=61))) 11 (vI d.2)) 41 (.bool (decide (d.2<(((rdL p3.fH r.2).length:Nat):Int))))) 12 (.bool l)) 71 (.bool ft)) 83 (.bool oa)) 101 (.bool ur))) (fun w=>?_) (fun key=>?_)
             ·refine qY (sT E E E E I) (ac (vB G) E) ?_
              obtain rfl:=sI h
              exact key _ _ (kp4 (kp4 (kp4 (kp (kp E)))))
             ·clear h;rcases iOs ok with⟨u,h⟩|⟨u,h⟩
              ·refine ab (sF E E E E u) (ab (sF E E E E u) (ab (sF E E E E u) (ab (sF E E E E u) (ab (sF E E E E u) (ab (sF E E E E u) (ab (sF E E E E u) (ab (sF E E E E u) (ab (sF E E E E u) (ab (sF E E E E u) (ab (sF E E E E u) (qY (sT E E E E G) (ac (vB u) E) ?_)))))))))))
               obtain rfl:=sI h
               exact key _ _ (kp4 (kp4 (kp4 (kp (kp (kp E))))))
              ·refine qY (sT E E E E u) (yMS E) (qY (sT E E E E u) (yMI E) ?_)
               obtain⟨y,h⟩:=gOs h
               refine qY (sT E E E E u) (yI bS (by decide) y.1 y.2 (NestL.rd (NestL.arg o) D.1 (ai D.2 E)) (eL aB E) E E) ?_
               refine qY (sT E E E E u) (yR (A:=((rdL g r.2).1.1)) (j:=(Int.toNat d.2*1)) (v:=vI (rdL (rdL p3.fH r.2) d.2)) aN (NestL.rd (NestL.arg o) D.1 (ai D.2 E)) E (ax aB y.1 (ai y.2 E) E)) (qY (sT E E E E u) (yMS E) (qY (sT E E E E u) (yMI E) (qY (sT E E E E u) (fe E E) (qY (sT E E E E u) (y_max E E) ?_))))
               obtain⟨b,h⟩:=gOs h
               refine qY (sT E E E E u) (yI bS (by decide) b.1 b.2 (NestL.rd (NestL.arg o) D.1 (ai D.2 E)) (eL aB E) E E) ?_
               refine qY (sT E E E E u) (yR (A:=((rdL g r.2).1.1)) (j:=(Int.toNat (max 0 (w64 (d.2-1)))*1)) (v:=vI (rdL (rdL p3.fH r.2) (max 0 (w64 (d.2-1))))) aN (NestL.rd (NestL.arg o) D.1 (ai D.2 E)) E (ax aB b.1 (ai b.2 E) E)) (qY (sT E E E E u) (eW E E) (qY (sT E E E E G) (ad (vB u) E) ?_))
               obtain rfl:=sI h
               exact key _ _ (kp4 (kp4 (kp4 (kp (kp (kp E))))))
            ·refine ab (sF E E E E G) (ab (sF E E E E G) (ab (sF E E E E G) (ab (sF E E E E G) (ab (sF E E E E G) (ab (sF E E E E G) (ab E (ab E (ab E (ab E (ab E (ab E (ab E (ab E (ab E (ab E (ab E (ab (sF E E E E G) (qY (sT E E E E I) (ad (vB G) E) ?_))))))))))))))))))
             obtain rfl:=sI h
             exact key _ _ (kp4 (kp4 (kp4 (kp (kp E)))))
          ·clear h;rcases iOs oi with⟨K,h⟩|⟨K,h⟩
           ·refine qY (sT E E E E K) (yMS E) (qY (sT E E E E K) (yMI E) (qY (sT E E E E K) (fe E E) (qY (sT E E E E K) (y_max E E) ?_)))
            obtain⟨c,h⟩:=gOs h
            refine qY (sT E E E E K) (yI bS (by decide) c.1 c.2 (NestL.rd (NestL.arg o) D.1 (ai D.2 E)) (eL aB E) E E) ?_
            refine qY (sT E E E E K) (yR (A:=((rdL g r.2).1.1)) (j:=(Int.toNat (max 0 (w64 (d.2-1)))*1)) (v:=vI (rdL (rdL p3.fH r.2) (max 0 (w64 (d.2-1))))) aN (NestL.rd (NestL.arg o) D.1 (ai D.2 E)) E (ax aB c.1 (ai c.2 E) E)) (qY (sT E E E E K) (mW E E) (qY (sT E E E E I) (ac (vB K) E) ?_))
            obtain rfl:=sI h
            exact key _ _ (kp4 (kp4 (kp4 (kp (kp E)))))
           ·refine ab (sF E E E E K) (ab (sF E E E E K) (ab (sF E E E E K) (ab (sF E E E E K) (ab (sF E E E E K) (ab (sF E E E E K) (ab (sF E E E E K) (qY (sT E E E E I) (ad (vB K) E) ?_)))))))
            obtain rfl:=sI h
            exact key _ _ (kp4 (kp4 (kp4 (kp (kp E)))))
       ·clear h;rcases iOs om with⟨N,h⟩|⟨N,h⟩
        ·refine ab (sF E E E E N) (ab (sF E E E E N) (ab (sF E E E E N) (ab (sF E E E E N) (ab E (ab E (ab E (ab E (ab E (ab E (ab E (ab E (ab E (ab E (ab E (ab E (ab E (ab (sF E E E E N) (qY E (ac (vB N) E) ?_))))))))))))))))))
         obtain rfl:=sI h
         exact key _ _ (kp4 (kp4 (kp4 (kp E))))
        ·refine qY (sT E E E E N) (yMI E) (qY (sT E E E E N) (yMI E) (qY (sT E E E E N) (cL E E) (qY (sT E E E E N) (yMB E) ?_)))
         obtain⟨uu,r0,h⟩:=bOs h
         refine qJ 14 (fun w=>(upd (upd (upd (upd (upd (upd (upd (upd (upd (upd (upd (upd (upd (upd w 1 (vI p1)) 2 (vI p2)) 4 (.pointer (some ⟨t,0,none⟩))) 7 (.pointer (some ⟨a,0,none⟩))) 8 (.bool d.1)) 9 (vI r.2)) 27 (.bool (decide (r.2<p0.fPlaces)))) 10 (.slice ((rdL g r.2).1.1) ((rdL p3.fH r.2).length) ((rdL g r.2).1.2.2))) 37 (.bool ((((rdL p3.fH r.2).length:Nat):Int) !=61))) 11 (vI d.2)) 41 (.bool (decide (d.2<(((rdL p3.fH r.2).length:Nat):Int))))) 12 (.bool l)) 51 (.bool (!l))) 69 (.bool uu))) (fun w=>?_) (fun key=>?_)
         ·refine qY E (ad (vB N) E) ?_
          obtain rfl:=sI h
          exact key _ _ (kp4 (kp4 (kp4 (kp E))))
         ·clear h;rcases iOs r0 with⟨H,h⟩|⟨H,h⟩
          ·refine qY (sT E E E E H) (yMS E) (qY (sT E E E E H) (yMI E) ?_)
           obtain⟨f1,h⟩:=gOs h
           refine qY (sT E E E E H) (yI bS (by decide) f1.1 f1.2 (NestL.rd (NestL.arg o) D.1 (ai D.2 E)) (eL aB E) E E) ?_
           refine qY (sT E E E E H) (yR (A:=((rdL g r.2).1.1)) (j:=(Int.toNat d.2*1)) (v:=vI (rdL (rdL p3.fH r.2) d.2)) aN (NestL.rd (NestL.arg o) D.1 (ai D.2 E)) E (ax aB f1.1 (ai f1.2 E) E)) (qY (sT E E E E H) (a6 E E) (qY (sT E E E E H) (yMB E) ?_))
           obtain⟨ud,r1,h⟩:=bOs h
           refine qJ 7 (fun w=>(upd (upd (upd (upd (upd (upd (upd (upd (upd (upd (upd (upd (upd (upd (upd w 1 (vI p1)) 2 (vI p2)) 4 (.pointer (some ⟨t,0,none⟩))) 7 (.pointer (some ⟨a,0,none⟩))) 8 (.bool d.1)) 9 (vI r.2)) 27 (.bool (decide (r.2<p0.fPlaces)))) 10 (.slice ((rdL g r.2).1.1) ((rdL p3.fH r.2).length) ((rdL g r.2).1.2.2))) 37 (.bool ((((rdL p3.fH r.2).length:Nat):Int) !=61))) 11 (vI d.2)) 41 (.bool (decide (d.2<(((rdL p3.fH r.2).length:Nat):Int))))) 12 (.bool l)) 51 (.bool (!l))) 55 (.bool (r.2==p1))) 68 (.bool ud))) (fun w=>?_) (fun key=>?_)
           ·refine qY (sT E E E E N) (ac (vB H) E) ?_
            obtain rfl:=sI h
            exact key _ _ (kp4 (kp4 (kp4 (kp (kp E)))))
           ·clear h;rcases iOs r1 with⟨M,h⟩|⟨M,h⟩
            ·refine ab (sF E E E E M) (ab (sF E E E E M) (ab (sF E E E E M) (ab (sF E E E E M) (ab (sF E E E E M) (ab (sF E E E E M) (qY (sT E E E E H) (ac (vB M) E) ?_))))))
             obtain rfl:=sI h
             exact key _ _ (kp4 (kp4 (kp4 (kp (kp (kp E))))))
            ·refine qY (sT E E E E M) (yMS E) (qY (sT E E E E M) (yMI E) ?_)
             obtain⟨f2,h⟩:=gOs h
             refine qY (sT E E E E M) (yI bS (by decide) f2.1 f2.2 (NestL.rd (NestL.arg o) D.1 (ai D.2 E)) (eL aB E) E E) ?_
             refine qY (sT E E E E M) (yR (A:=((rdL g r.2).1.1)) (j:=(Int.toNat d.2*1)) (v:=vI (rdL (rdL p3.fH r.2) d.2)) aN (NestL.rd (NestL.arg o) D.1 (ai D.2 E)) E (ax aB f2.1 (ai f2.2 E) E)) (qY (sT E E E E M) (yMI E) (qY (sT E E E E M) (eW E E) (qY (sT E E E E H) (ad (vB M) E) ?_)))
             obtain rfl:=sI h
             exact key _ _ (kp4 (kp4 (kp4 (kp (kp (kp E))))))
          ·refine ab (sF E E E E H) (ab (sF E E E E H) (ab (sF E E E E H) (ab (sF E E E E H) (ab (sF E E E E H) (ab (sF E E E E H) (ab E (ab E (ab E (ab E (ab E (ab E (ab (sF E E E E H) (qY (sT E E E E N) (ad (vB H) E) ?_)))))))))))))
           obtain rfl:=sI h
           exact key _ _ (kp4 (kp4 (kp4 (kp (kp E)))))
      ·refine cF (vB fG) (aD (aj ?_))
       obtain rfl:=sI h
       exact au ⟨E,_,E,(kp4 (kp4 (kp (kp E))))⟩
     ·intro e L tm hJ
      rcases uf with uH|uI
      ·dsimp only at h hJ
       obtain⟨rfl,r2,rfl,rfl⟩:=hJ
       refine⟨(by intro hc;cases hc),?_⟩
       refine ah (ah (aa ?_))
       obtain rfl:=sI h
       exact au ⟨E,_,E,(kp4 (kp (kp E)))⟩
      ·dsimp only at h hJ
       obtain⟨rfl,r3,rfl,rfl⟩:=hJ
       refine⟨(by intro hc;cases hc),?_⟩
       refine ae (aw (eT (cR (oY E (yMI E) (oY E (aM E E) (oY E (yAI E) (oN ?_)))))))
       obtain rfl:=sI h
       exact eN ⟨_,E,(kp4 (kp (kp E)))⟩
   ·refine cF (vB o0) (aD (aj ?_))
    obtain rfl:=sI h
    exact au ⟨E,_,E,(kp4 (kp (kp E)))⟩
  ·intro e L tm hJ
   rcases u6 with uw|uK
   ·dsimp only at h hJ
    obtain⟨rfl,r4,rfl,rfl⟩:=hJ
    refine⟨(by intro hc;cases hc),?_⟩
    refine ah (aa ?_)
    obtain rfl:=sI h
    exact ak (.inl E) E (rVt (v:=.bool uw.1) E) (fun W2 q=>⟨E,q.none⟩)
   ·dsimp only at h hJ
    obtain⟨rfl,r5,rfl,rfl⟩:=hJ
    refine⟨(by intro hc;cases hc),?_⟩
    refine ae (eT (cS (cS (cR (oY E (yAI E) (oN (eT (cB ?_))))))))
    obtain⟨uD,rx,h⟩:=bOs h
    refine ba (fun(s:(Bool × Int)) L tm=>∃(w:Nat→Value),L=[al t 24 [vI p0.fPlaces,.slice Ab p0.fTracks.length cb],al a 87 [.slice X p3.fH.length R]]∧tm=(upd (upd (upd (upd w 4 (.pointer (some ⟨t,0,none⟩))) 7 (.pointer (some ⟨a,0,none⟩))) 8 (.bool s.1)) 13 (vI s.2))) 4 rx ⟨_,E,(kp4 E)⟩ ?_ ?_
    ·rintro f L tm st ⟨u0,rfl,rfl⟩ h
     unfold gJ at h
     refine cS (cS (cR (oY E (yMI E) (oY E (yFA bI E) (oY E (yL 0 f7 E E E) (oY E (bg (us:=[]) ij E) (oY E (a6 E E) (oN (eT ?_)))))))))
     rcases iOs h with⟨fR,h⟩|⟨fR,h⟩
     ·refine cT (vB fR) (cK (eT (cS (cB (cS (cR (oY E (yFA bI E) (oY E (yL 0 f7 E E E) (oY E (yMI E) ?_)))))))))
      obtain⟨T,h⟩:=gOs h
      refine oY E (yI iI (by decide) T.1 T.2 (RdL.arg fD) (eL ar (NestP.hn S.p E)) E E) ?_
      refine oY E (yM (A:=Ab) (j:=(Int.toNat f.2*6)) [vI ((rdL p0.fTracks f.2).fID),vI ((rdL p0.fTracks f.2).fFrom),vI ((rdL p0.fTracks f.2).fTo),vI ((rdL p0.fTracks f.2).fLong),vI ((rdL p0.fTracks f.2).fToll),.slice ((rdL F f.2).1.1) ((rdL p0.fTracks f.2).fK.length) ((rdL F f.2).1.2.2)] gl (Nat.succ_pos _) (RdL.arg fD) E (iM (bB (NestP.snd S.p f.2) (NestP.len S.p T.1 (ai T.2 E))).symm (be ar T.1 (ai T.2 (NestP.hn S.p E))))) ?_
      refine aF g0 E (fun g1=>?_)
      refine co E (yS 2 [vI ((rdL p0.fTracks f.2).fID),vI ((rdL p0.fTracks f.2).fFrom),vI ((rdL p0.fTracks f.2).fTo),vI ((rdL p0.fTracks f.2).fLong),vI ((rdL p0.fTracks f.2).fToll),.slice ((rdL F f.2).1.1) ((rdL p0.fTracks f.2).fK.length) ((rdL F f.2).1.2.2)] nh E (nB E) E E E) (oN (eT (cS (cR (oY E (yAI E) (oN (eT (cB ?_))))))))
      obtain⟨uE,u1,h⟩:=bOs h
      refine ba (fun(s:(Bool × Int)) L tm=>∃(w:Nat→Value),L=[al t 24 [vI p0.fPlaces,.slice Ab p0.fTracks.length cb],al a 87 [.slice X p3.fH.length R],al g1 120 [vI ((rdL p0.fTracks f.2).fID),vI ((rdL p0.fTracks f.2).fFrom),vI ((rdL p0.fTracks f.2).fTo),vI ((rdL p0.fTracks f.2).fLong),vI ((rdL p0.fTracks f.2).fToll),.slice ((rdL F f.2).1.1) ((rdL p0.fTracks f.2).fK.length) ((rdL F f.2).1.2.2)]]∧tm=(upd (upd (upd (upd (upd (upd (upd w 4 (.pointer (some ⟨t,0,none⟩))) 7 (.pointer (some ⟨a,0,none⟩))) 8 (.bool s.1)) 13 (vI f.2)) 108 (.bool (decide (f.2<(p0.fTracks.length:Int))))) 14 (.pointer (some ⟨g1,0,none⟩))) 15 (vI s.2))) 6 u1 ⟨_,E,(kp4 (kp (kp (kp E))))⟩ ?_ ?_
      ·rintro Q L tm st ⟨u2,rfl,rfl⟩ h
       unfold fo at h
       refine cS (cS (cR (oY E (yMI E) (oY E (yFA fw E) (oY E (yL 2 aN E E E) (oY E (aM E E) (oY E (iA E E) (oN (eT ?_)))))))))
       rcases iOs h with⟨fn,h⟩|⟨fn,h⟩
       ·refine cT (vB fn) (cK (eT (cS (cB (cS ?_)))))
        refine aX 12 bZ (by kernel_rfl) (by kernel_rfl) ?_
        refine qY E (yN 2 [vI ((rdL p0.fTracks f.2).fID),vI ((rdL p0.fTracks f.2).fFrom),vI ((rdL p0.fTracks f.2).fTo),vI ((rdL p0.fTracks f.2).fLong),vI ((rdL p0.fTracks f.2).fToll),.slice ((rdL F f.2).1.1) ((rdL p0.fTracks f.2).fK.length) ((rdL F f.2).1.2.2)] gl E E E) (qY E (yFA cq E) (qY E (yL 1 iE E E E) (qY E (yFA gO E) (qY E (yL 2 aN E E E) ?_))))
        obtain⟨Y,h⟩:=gOs h
        refine qY E (yI iq (by decide) Y.1 Y.2 (RdL.arg V) (eL ao (NestP.hn o.p E)) E E) ?_
        refine qY E (yR (A:=X) (j:=(Int.toNat ((rdL p0.fTracks f.2).fFrom)*1)) (v:=.slice ((rdL g ((rdL p0.fTracks f.2).fFrom)).1.1) ((rdL p3.fH ((rdL p0.fTracks f.2).fFrom)).length) ((rdL g ((rdL p0.fTracks f.2).fFrom)).1.2.2)) gH (RdL.arg V) E (ax ao Y.1 (ai Y.2 (NestP.hn o.p E)) (congrArg (fun n:Nat=>some (Value.slice (rdL g ((rdL p0.fTracks f.2).fFrom)).1.1 n (rdL g ((rdL p0.fTracks f.2).fFrom)).1.2.2)) (NestP.len o.p Y.1 (ai Y.2 E))))) (qY E (yMI E) ?_)
        obtain⟨f3,h⟩:=gOs h
        refine qY E (yI bS (by decide) f3.1 f3.2 (NestL.rd (NestL.arg o) Y.1 (ai Y.2 E)) (eL aB E) E E) ?_
        refine qY E (yR (A:=((rdL g ((rdL p0.fTracks f.2).fFrom)).1.1)) (j:=(Int.toNat Q.2*1)) (v:=vI (rdL (rdL p3.fH ((rdL p0.fTracks f.2).fFrom)) Q.2)) aN (NestL.rd (NestL.arg o) Y.1 (ai Y.2 E)) E (ax aB f3.1 (ai f3.2 E) E)) ?_
        obtain⟨i,u3,h⟩:=bOs h
        refine qY E (yC [.agg #[vI ((rdL p0.fTracks f.2).fID),vI ((rdL p0.fTracks f.2).fFrom),vI ((rdL p0.fTracks f.2).fTo),vI ((rdL p0.fTracks f.2).fLong),vI ((rdL p0.fTracks f.2).fToll),.slice ((rdL F f.2).1.1) ((rdL p0.fTracks f.2).fK.length) ((rdL F f.2).1.2.2)],vI (rdL (rdL p3.fH ((rdL p0.fTracks f.2).fFrom)) Q.2)] go_126 E (fun W2 q=>j8 (TT.mk ((rdL p0.fTracks f.2).fID) ((rdL p0.fTracks f.2).fFrom) ((rdL p0.fTracks f.2).fTo) ((rdL p0.fTracks f.2).fLong) ((rdL p0.fTracks f.2).fToll) ((rdL p0.fTracks f.2).fK)) (rdL (rdL p3.fH ((rdL p0.fTracks f.2).fFrom)) Q.2) i u3 W2 ((rdL F f.2).1.1) ((rdL p0.fTracks f.2).fK.length) ((rdL F f.2).1.2.2) E ((NestL.rd (NestL.arg S) T.1 (ai T.2 E)) W2 q)) E) (qY E (yAI E) (bF (oN (eT (cS ?_)))))
        refine aX 13 bZ (by kernel_rfl) (by kernel_rfl) ?_
        refine qY E (yFA cq E) (qY E (yL 1 iE E E E) (qY E (yFA gg E) (qY E (yL 2 aN E E E) ?_)))
        obtain⟨Z,h⟩:=gOs h
        refine qY E (yI iq (by decide) Z.1 Z.2 (RdL.arg V) (eL ao (NestP.hn o.p E)) E E) ?_
        refine qY E (yR (A:=X) (j:=(Int.toNat ((rdL p0.fTracks f.2).fTo)*1)) (v:=.slice ((rdL g ((rdL p0.fTracks f.2).fTo)).1.1) ((rdL p3.fH ((rdL p0.fTracks f.2).fTo)).length) ((rdL g ((rdL p0.fTracks f.2).fTo)).1.2.2)) gH (RdL.arg V) E (ax ao Z.1 (ai Z.2 (NestP.hn o.p E)) (congrArg (fun n:Nat=>some (Value.slice (rdL g ((rdL p0.fTracks f.2).fTo)).1.1 n (rdL g ((rdL p0.fTracks f.2).fTo)).1.2.2)) (NestP.len o.p Z.1 (ai Z.2 E))))) (qY E (yMI E) (qY E (yFA fw E) (qY E (yL 2 aN E E E) (qY E (aM E E) ?_))))
        obtain⟨fr,h⟩:=gOs h
        refine qY E (yI bS (by decide) fr.1 fr.2 (NestL.rd (NestL.arg o) Z.1 (ai Z.2 E)) (eL aB E) E E) ?_
        refine qY E (yR (A:=((rdL g ((rdL p0.fTracks f.2).fTo)).1.1)) (j:=(Int.toNat (w64 (Q.2+((rdL p0.fTracks f.2).fToll)))*1)) (v:=vI (rdL (rdL p3.fH ((rdL p0.fTracks f.2).fTo)) (w64 (Q.2+((rdL p0.fTracks f.2).fToll))))) aN (NestL.rd (NestL.arg o) Z.1 (ai Z.2 E)) E (ax aB fr.1 (ai fr.2 E) E)) (qY E (yAI E) (bF (oN (eT (cS (cR (oY E (yMI E) (oY E (mW E E) (oY E (yMB E) ?_)))))))))
        refine oJ 8 (fun w=>(upd (upd (upd (upd (upd (upd (upd (upd (upd (upd (upd w 4 (.pointer (some ⟨t,0,none⟩))) 7 (.pointer (some ⟨a,0,none⟩))) 8 (.bool Q.1)) 13 (vI f.2)) 108 (.bool (decide (f.2<(p0.fTracks.length:Int))))) 14 (.pointer (some ⟨g1,0,none⟩))) 15 (vI Q.2)) 120 (.bool (decide (w64 (Q.2+((rdL p0.fTracks f.2).fToll))≤60)))) 16 (vI i)) 17 (vI (rdL (rdL p3.fH ((rdL p0.fTracks f.2).fTo)) (w64 (Q.2+((rdL p0.fTracks f.2).fToll)))))) 156 (.bool ((decide (0≤i))&&((decide ((rdL (rdL p3.fH ((rdL p0.fTracks f.2).fTo)) (w64 (Q.2+((rdL p0.fTracks f.2).fToll))))<0))||(decide (i<(rdL (rdL p3.fH ((rdL p0.fTracks f.2).fTo)) (w64 (Q.2+((rdL p0.fTracks f.2).fToll))))))))))) (fun w=>?_) (fun key=>?_)
        ·refine oN (eT ?_)
         rcases iOs h with⟨fl,h⟩|⟨fl,h⟩
         ·refine cT (vB fl) (cS (cR (oY E (yAB E) (oN (eT (am (ah (aa ?_))))))))
          obtain rfl:=sI h
          exact au ⟨E,_,E,(kp4 (kp (kp (kp E))))⟩
         ·refine cF (vB fl) (cK (aw (eT (cR (oY E (yMI E) (oY E (aM E E) (oY E (yAI E) (oN ?_))))))))
          obtain rfl:=sI h
          exact eN ⟨_,E,(kp4 (kp (kp (kp E))))⟩
        ·rcases aq (decide (0≤i))with O|O
         ·refine oY (sT E E E E O) (yMI E) (oY (sT E E E E O) (a6 E E) (oY (sT E E E E O) (yMB E) ?_))
          refine oJ 4 (fun w=>(upd (upd (upd (upd (upd (upd (upd (upd (upd (upd (upd (upd w 4 (.pointer (some ⟨t,0,none⟩))) 7 (.pointer (some ⟨a,0,none⟩))) 8 (.bool Q.1)) 13 (vI f.2)) 108 (.bool (decide (f.2<(p0.fTracks.length:Int))))) 14 (.pointer (some ⟨g1,0,none⟩))) 15 (vI Q.2)) 120 (.bool (decide (w64 (Q.2+((rdL p0.fTracks f.2).fToll))≤60)))) 16 (vI i)) 17 (vI (rdL (rdL p3.fH ((rdL p0.fTracks f.2).fTo)) (w64 (Q.2+((rdL p0.fTracks f.2).fToll)))))) 148 (.bool (decide (0≤i)))) 155 (.bool ((decide ((rdL (rdL p3.fH ((rdL p0.fTracks f.2).fTo)) (w64 (Q.2+((rdL p0.fTracks f.2).fToll))))<0))||(decide (i<(rdL (rdL p3.fH ((rdL p0.fTracks f.2).fTo)) (w64 (Q.2+((rdL p0.fTracks f.2).fToll)))))))))) (fun w=>?_) (fun key=>?_)
          ·refine oY E (ac (vB O) E) ?_
           exact key _ _ (keep (keep (keep (keep (keep (keep (keep (keep (keep (keep (keep E E) E) E) E) E) E) E) E) E) E) (vB (eU O)))
          ·rcases aq (decide ((rdL (rdL p3.fH ((rdL p0.fTracks f.2).fTo)) (w64 (Q.2+((rdL p0.fTracks f.2).fToll))))<0))with U|U
           ·refine oSk (sF E E E E U) (oSk (sF E E E E U) (oSk (sF E E E E U) (oY (sT E E E E O) (ac (vB U) E) ?_)))
            exact key _ _ (keep (keep (keep (keep (keep (keep (keep (keep (keep (keep (keep (keep E E) E) E) E) E) E) E) E) E) E) E) (vB (iy U)))
           ·refine oY (sT E E E E U) (yMI E) (oY (sT E E E E U) (yMI E) (oY (sT E E E E U) (eW E E) (oY (sT E E E E O) (ad (vB U) E) ?_)))
            exact key _ _ (keep (keep (keep (keep (keep (keep (keep (keep (keep (keep (keep (keep E E) E) E) E) E) E) E) E) E) E) E) (vB (iw U)))
         ·refine oSk (sF E E E E O) (oSk (sF E E E E O) (oSk (sF E E E E O) (oSk E (oSk E (oSk E (oSk (sF E E E E O) (oY E (ad (vB O) E) ?_)))))))
          exact key _ _ (keep (keep (keep (keep (keep (keep (keep (keep (keep (keep (keep E E) E) E) E) E) E) E) E) E) E) (vB (eY O)))
       ·refine cF (vB fn) (aD (aj ?_))
        obtain rfl:=sI h
        exact au ⟨E,_,E,(kp4 (kp (kp (kp E))))⟩
      ·intro e L tm hJ
       rcases uE with uM|uN
       ·dsimp only at h hJ
        obtain⟨rfl,u4,rfl,rfl⟩:=hJ
        refine⟨(by intro hc;cases hc),?_⟩
        refine ah (ah (aa (aT 2 ?_)))
        obtain rfl:=sI h
        exact au ⟨E,_,E,(kp4 E)⟩
       ·dsimp only at h hJ
        obtain⟨rfl,u5,rfl,rfl⟩:=hJ
        refine⟨(by intro hc;cases hc),?_⟩
        refine ae (aw (eT (cR (oY E (yMI E) (oY E (aM E E) (oY E (yAI E) (oN (aT 2 ?_))))))))
        obtain rfl:=sI h
        exact eN ⟨_,E,(kp4 E)⟩
     ·refine cF (vB fR) (aD (aj ?_))
      obtain rfl:=sI h
      exact au ⟨E,_,E,(kp4 E)⟩
    ·intro e L tm hJ
     rcases uD with uF|uO
     ·dsimp only at h hJ
      obtain⟨rfl,u7,rfl,rfl⟩:=hJ
      refine⟨(by intro hc;cases hc),?_⟩
      refine ah (aa ?_)
      obtain rfl:=sI h
      exact ak (.inl E) E (rVt (v:=.bool uF.1) E) (fun W2 q=>⟨E,q.none⟩)
     ·dsimp only at h hJ
      obtain⟨rfl,u8,rfl,rfl⟩:=hJ
      refine⟨(by intro hc;cases hc),?_⟩
      refine ae (eT (cS (cR (oY E (yAB E) (oN (eT (am ?_)))))))
      obtain rfl:=sI h
      exact ak (.inl E) E (rVt (v:=.bool true) E) (fun W2 q=>⟨E,q.none⟩)
end Go.Proofs.YthndghnkebboaaaGreat
