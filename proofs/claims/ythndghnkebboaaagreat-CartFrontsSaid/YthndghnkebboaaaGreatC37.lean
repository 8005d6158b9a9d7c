import Derived.Test.YthndghnkebboaaaGreatF
import Derived.Test.YthndghnkebboaaaGreatGy
import Derived.Test.YthndghnkebboaaaGreatGF
import Derived.Test.YthndghnkebboaaaGreatC0
import Derived.Test.YthndghnkebboaaaGreatC11
import Derived.Test.YthndghnkebboaaaGreatC6
import Derived.Test.YthndghnkebboaaaGreatC23
set_option maxHeartbeats 4000000
set_option maxRecDepth 100000
set_option linter.unusedVariables false
namespace Go.Proofs.YthndghnkebboaaaGreat
open Go.RowKit (Below)
attribute [local irreducible] OX QX CX EX OpY Calls CallsIn
theorem gd (p0:(List TJ)) (p1:TJ→Option Bool) (res:Int) (h:bu p0 p1=some res) (W:World) (Aa:Option Addr) (d ca:Nat) (f:List (Hd × TJ)) (D:d=p0.length) (w:Rd W Aa d ca (encL TJourney_cells2 f)) (g:NestW W (fun z:TJ=>z.fLegs) TLeg_cells f p0) (fid1:Nat) (fst1 caps1:List Value) (H:bA Tryz.prog fid1=true) (I:∀W2,Below W.heap.size W W2→∀x,∀(hx:Hd),Rd W2 hx.1 x.fLegs.length hx.2.2 (encL TLeg_cells x.fLegs)→∀y,p1 x=some y→Calls Tryz.prog fid1 (fst1++(([.agg #[.slice hx.1 x.fLegs.length hx.2.2,vI x.fA,vI x.fToll]]:List Value)++caps1)).toArray W2 fun e W3=>e=.returned (.bool y)∧Ext W2 W3 []) :
  Calls Tryz.prog 158 [.slice Aa d ca,.func (.func fid1) fst1.toArray caps1.toArray].toArray W fun e W2=>e=.returned (vI res)∧Ext W W2 []:=by
 subst D
 unfold bu at h
 refine aj (m:=19) Tryz.func158 E E (nB E) (cS (cR (oY E (yAI E) (oN (eT (cS (cS (cR (oY E (yMS E) (oY E (bi (us:=[]) kg E) (oY E (yMI E) (oN (eT (cB ?_))))))))))))))
 obtain⟨Y,O,h⟩:=bOs h
 refine a8 (fun(s:(Int × Int)) L tm=>∃(Q:Nat→Value),L=[]∧tm=(upd (upd (upd (upd (upd Q 0 (.slice Aa p0.length ca)) 1 (.func (.func fid1) fst1.toArray caps1.toArray)) 4 (vI s.1)) 7 (vI (p0.length:Int))) 8 (vI s.2))) 0 O ⟨_,E,(kp4 (kp E))⟩ ?_ ?_
 ·rintro o L tm st ⟨N,rfl,rfl⟩ h
  unfold a7 at h
  refine cS (cR (oY E (be E E) (oN (eT (cS ?_)))))
  rcases iOs h with⟨F,h⟩|⟨F,h⟩
  ·refine cT (vB F) (cK (eT (cS (cB (cS (cR (oY E (yMI E) (oY E (yAI E) (oN (eT (cS (cR (oY E (bK (v:=.func (.func fid1) fst1.toArray caps1.toArray) E) (oY E (yMS E) (oY E (yMI E) ?_)))))))))))))))
   obtain⟨r,h⟩:=gOs h
   refine oY E (yI gH (by decide) r.1 r.2 (RdL.arg w) (eL aq (NestP.hn g.p E)) E E) ?_
   refine oY E (yM (A:=Aa) (j:=(Int.toNat o.2*3)) [.slice ((rdL f o.2).1.1) ((rdL p0 o.2).fLegs.length) ((rdL f o.2).1.2.2),vI ((rdL p0 o.2).fA),vI ((rdL p0 o.2).fToll)] lX (Nat.succ_pos _) (RdL.arg w) E (fN (cA (NestP.snd g.p o.2) (NestP.len g.p r.1 (ah r.2 E))).symm (bc aq r.1 (ah r.2 (NestP.hn g.p E))))) ?_
   obtain⟨Z,U,h⟩:=bOs h
   refine oY E (gx [.agg #[.slice ((rdL f o.2).1.1) ((rdL p0 o.2).fLegs.length) ((rdL f o.2).1.2.2),vI ((rdL p0 o.2).fA),vI ((rdL p0 o.2).fToll)]] H E E (fun W2 u=>I W2 u.below (TJ.mk ((rdL p0 o.2).fLegs) ((rdL p0 o.2).fA) ((rdL p0 o.2).fToll)) ((rdL f o.2).1.1,0,(rdL f o.2).1.2.2) ((NestL.rd (NestL.arg g) r.1 (ah r.2 E)) W2 u) Z U)) (oN (eT ?_))
   rcases iOs h with⟨G,h⟩|⟨G,h⟩
   ·refine cT (vB G) (cS (cR (oY E (yMI E) (oY E (yAI E) (oN (eT (ap (ae (ab ?_)))))))))
    obtain rfl:=sI h
    exact av ⟨E,_,E,(kp4 (kp E))⟩
   ·refine cF (vB G) (cK (aw (eT (cR (oY E (aL E E) (oY E (yMI E) (oN ?_)))))))
    obtain rfl:=sI h
    exact eN ⟨_,E,(kp4 (kp E))⟩
  ·refine cF (vB F) (aD (ai ?_))
   obtain rfl:=sI h
   exact av ⟨E,_,E,(kp4 (kp E))⟩
 ·intro e L tm hJ
  rcases Y with X|V
  ·dsimp only at h hJ
   obtain⟨rfl,K,rfl,rfl⟩:=hJ
   refine⟨(by intro hc;cases hc),?_⟩
   refine ae (ab ?_)
   obtain rfl:=sI h
   exact am (.inl E) E (rVt (v:=vI X.1) E) (fun W2 u=>⟨E,u.none⟩)
  ·dsimp only at h hJ
   obtain⟨rfl,M,rfl,rfl⟩:=hJ
   refine⟨(by intro hc;cases hc),?_⟩
   refine ac (eT (cS (cR (oY E (yAI E) (oN (eT (ap ?_)))))))
   obtain rfl:=sI h
   exact am (.inl E) E (rVt (v:=vI (-1)) E) (fun W2 u=>⟨E,u.none⟩)
theorem ir (p0:(List TJ)) (p1:TJ→Option Bool) (res:Int) (h:bX p0 p1=some res) (W:World) (Aa:Option Addr) (g ca:Nat) (f:List (Hd × TJ)) (r:g=p0.length) (u:Rd W Aa g ca (encL TJourney_cells2 f)) (d:NestW W (fun z:TJ=>z.fLegs) TLeg_cells f p0) (fid1:Nat) (fst1 caps1:List Value) (w:bA Tryz.prog fid1=true) (D:∀W2,Below W.heap.size W W2→∀x,∀(hx:Hd),Rd W2 hx.1 x.fLegs.length hx.2.2 (encL TLeg_cells x.fLegs)→∀y,p1 x=some y→Calls Tryz.prog fid1 (fst1++(([.agg #[.slice hx.1 x.fLegs.length hx.2.2,vI x.fA,vI x.fToll]]:List Value)++caps1)).toArray W2 fun e W3=>e=.returned (.bool y)∧Ext W2 W3 []) :
  Calls Tryz.prog 120 [.slice Aa g ca,.func (.func fid1) fst1.toArray caps1.toArray].toArray W fun e W2=>e=.returned (vI res)∧Ext W W2 []:=by
 subst r
 unfold bX at h
 refine aj (m:=8) Tryz.func120 E E (nB E) (cS (cR (oY E (yAI E) (oN (eT (cS (cR (oY E (yMS E) (oY E (bK (v:=.func (.func fid1) fst1.toArray caps1.toArray) E) ?_)))))))))
 obtain⟨G,F,h⟩:=bOs h
 refine oY E (yC [.slice Aa p0.length ca,.func (.func fid1) fst1.toArray caps1.toArray] go_158 E (fun W2 o=>gd p0 p1 G F W2 Aa p0.length ca f E ((RdL.arg u) W2 o) (NestL.at (NestL.arg d) W2 o) fid1 fst1 caps1 w (fun W3 hb=>D W3 (fY o.below hb))) E) (oY E (yAI E) (oN (eT (ap ?_))))
 obtain rfl:=sI h
 exact am (.inl E) E (rVt (v:=vI G) E) (fun W2 o=>⟨E,o.none⟩)
theorem lW (p0:TJ) (f:TR) (d:Int) (w:Int) (D:Int) (res:Bool) (h:cP p0 f d w D=some res) (W:World) (Aa:Option Addr) (F ca:Nat) (M:F=p0.fLegs.length) (N:Rd W Aa F ca (encL TLeg_cells p0.fLegs)) (O:Nat) (g:Option Addr) (u o:Nat) (r:List (Hd × TT)) (G:u=f.fTracks.length) (H:Rd W g u o (encL TTrack_cells2 r)) (I:NestW W (fun z:TT=>z.fK) TSpan_cells r f.fTracks) (Q:Rd W (some ⟨O,0,none⟩) 1 1 [vI f.fPlaces,.slice g u o]) (U:Nat) (X:Rd W (some ⟨U,0,none⟩) 1 1 (cI d)) (Y:Nat) (Z:Rd W (some ⟨Y,0,none⟩) 1 1 (cI w)) (V:Nat) (T:Rd W (some ⟨V,0,none⟩) 1 1 (cI D)) :
  Calls Tryz.prog 121 [.agg #[.slice Aa F ca,vI p0.fA,vI p0.fToll],.pointer (some ⟨O,0,none⟩),.pointer (some ⟨U,0,none⟩),.pointer (some ⟨Y,0,none⟩),.pointer (some ⟨V,0,none⟩)].toArray W fun e W2=>e=.returned (.bool res)∧Ext W W2 []:=by
 subst M
 subst G
 unfold cP at h
 refine aj (m:=14) Tryz.func121 E E (nB E) (cS (cR ?_))
 refine aN [.slice Aa p0.fLegs.length ca,vI p0.fA,vI p0.fToll] E E E (fun q=>?_)
 refine oY E (yAB E) (oN (eT (cS (cR (oY E (yM (A:=(some ⟨O,0,none⟩)) (j:=0) [vI f.fPlaces,.slice g f.fTracks.length o] dG (Nat.succ_pos _) (RdL.arg Q) E (oh E)) (oY E (yR (A:=(some ⟨U,0,none⟩)) (j:=0) (v:=vI d) aK (RdL.arg X) E E) (oY E (yR (A:=(some ⟨Y,0,none⟩)) (j:=0) (v:=vI w) aK (RdL.arg Z) E E) (oY E (yR (A:=(some ⟨V,0,none⟩)) (j:=0) (v:=vI D) aK (RdL.arg T) E E) (oY E (yN 0 [.slice Aa p0.fLegs.length ca,vI p0.fA,vI p0.fToll] lX E E E) ?_)))))))))
 obtain⟨R,S,h⟩:=bOs h
 refine oY E (yC [.agg #[vI f.fPlaces,.slice g f.fTracks.length o],vI d,vI w,vI D,.agg #[.slice Aa p0.fLegs.length ca,vI p0.fA,vI p0.fToll]] go_113 E (fun W2 K=>oM f d w D p0 R S W2 g f.fTracks.length o r E ((RdL.arg H) W2 K) (NestL.at (NestL.arg I) W2 K) Aa p0.fLegs.length ca E ((RdL.arg N) W2 K)) E) (oY E (bD E) (oY E (yAB E) (oN (eT (ap ?_)))))
 obtain rfl:=sI h
 exact am (.inl E) E (rVt (v:=.bool (!R)) E) (fun W2 K=>⟨E,K.none⟩)
theorem mC (p0:TR) (p1:Int) (p2:Int) (p3:Int) (p4:(List TJ)) (p5:TTimes) (res:Int) (h:bM p0 p1 p2 p3 p4 p5=some res) (W:World) (Ab:Option Addr) (c cb:Nat) (O:List (Hd × TT)) (g1:c=p0.fTracks.length) (R:Rd W Ab c cb (encL TTrack_cells2 O)) (q:NestW W (fun z:TT=>z.fK) TSpan_cells O p0.fTracks) (r:Option Addr) (f1 w:Nat) (D:List (Hd × TJ)) (g2:f1=p4.length) (H:Rd W r f1 w (encL TJourney_cells2 D)) (d:NestW W (fun z:TJ=>z.fLegs) TLeg_cells D p4) (G:Option Addr) (f2 K:Nat) (I:List (Hd × (List Int))) (g3:f2=p5.fH.length) (l:Rd W G f2 K (encL SlInt_cells2 I)) (Q:NestW W (fun z:(List Int)=>z) cI I p5.fH) :
  Calls Tryz.prog 64 [.agg #[vI p0.fPlaces,.slice Ab c cb],vI p1,vI p2,vI p3,.slice r f1 w,.agg #[.slice G f2 K]].toArray W fun e W2=>e=.returned (vI res)∧Ext W W2 []:=by
 subst g1
 subst g2
 subst g3
 unfold bM at h
 refine aj (m:=98) Tryz.func64 E E (nB E) (cS (cR ?_))
 refine aN [vI p0.fPlaces,.slice Ab p0.fTracks.length cb] E E E (fun b1=>?_)
 refine aN [vI p1] E E E (fun b2=>?_)
 refine aN [vI p2] E E E (fun b3=>?_)
 refine aN [vI p3] E E E (fun b4=>?_)
 refine aN [.slice G p5.fH.length K] E E E (fun b5=>?_)
 refine oY E (yAI E) (oN (eT (cS (cS (cR (oY E (yN 0 [vI p0.fPlaces,.slice Ab p0.fTracks.length cb] dG E E E) (oY E (yL 1 aK E E E) (oY E (yL 2 aK E E E) (oY E (yL 3 aK E E E) ?_)))))))))
 obtain⟨y6,u2,h⟩:=bOs h
 refine oY E (yC [.agg #[vI p0.fPlaces,.slice Ab p0.fTracks.length cb],vI p1,vI p2,vI p3,vI 0] go_70 E (fun W2 u=>gA p0 p1 p2 p3 0 y6 u2 W2 Ab p0.fTracks.length cb O E ((RdL.arg R) W2 u) (NestL.at (NestL.arg q) W2 u)) E) (oY E (yAI E) (oN (eT (cS (cR (oY E (yMI E) (oY E (cJ E E) (oN (eT ?_)))))))))
 rcases iOs h with⟨o0,h⟩|⟨o0,h⟩
 ·refine cT (vB o0) (cS (cR (oY E (yMI E) (oY E (yAI E) (oN (eT (ap (ab ?_))))))))
  obtain rfl:=sI h
  exact am (.inl E) E (rVt (v:=vI y6) E) (fun W2 u=>⟨E,u.none⟩)
 ·refine cF (vB o0) (cK (eT (cS (cS (cR (oY E (yN 0 [vI p0.fPlaces,.slice Ab p0.fTracks.length cb] dG E E E) (oY E (yL 1 aK E E E) (oY E (yL 3 aK E E E) (oY E (yN 4 [.slice G p5.fH.length K] r6 E E E) ?_)))))))))
  obtain⟨y9,o1,h⟩:=bOs h
  refine oY E (yC [.agg #[vI p0.fPlaces,.slice Ab p0.fTracks.length cb],vI p1,vI p3,.agg #[.slice G p5.fH.length K]] go_112 E (fun W2 u=>oR p0 p1 p3 p5 y9 o1 W2 Ab p0.fTracks.length cb O E ((RdL.arg R) W2 u) (NestL.at (NestL.arg q) W2 u) G p5.fH.length K I E ((RdL.arg l) W2 u) (NestL.at (NestL.arg Q) W2 u)) E) (oY E (bD E) (oY E (yMB E) ?_))
  obtain⟨u3,o2,h⟩:=bOs h
  refine oJ 5 (fun M=>(upd (upd (upd (upd (upd M 4 (.slice r p4.length w)) 8 (.pointer (some ⟨b3,0,none⟩))) 11 (.pointer (some ⟨b5,0,none⟩))) 12 (vI 0)) 39 (.bool u3))) (fun M=>?_) (fun key=>?_)
  ·refine oN (eT ?_)
   rcases iOs h with⟨f3,h⟩|⟨f3,h⟩
   ·refine cT (vB f3) (cS (cR (oY E (yAI E) (oN (eT (ap (ab ?_)))))))
    obtain rfl:=sI h
    exact am (.inl E) E (rVt (v:=vI 8) E) (fun W2 u=>⟨E,u.none⟩)
   ·refine cF (vB f3) (cK (eT (cS (cR ?_))))
    refine aF qe E (fun V=>?_)
    try dsimp only[lna,lca,lsz,lss]
    refine aF qe E (fun T=>?_)
    try dsimp only[lna,lca,lsz,lss]
    refine oN (eT (cS ?_))
    refine aS 6 bW (by kernel_rfl) (by kernel_rfl) ?_
    refine qY E (qt sS px E) (qY E (yFA dw E) (qY E (yL 4 km E E E) (qY E (yL 2 aK E E E) ?_)))
    obtain⟨N,h⟩:=gOs h
    refine qY E (yI iu (by decide) N.1 N.2 (RdL.arg l) (eL ao (NestP.hn Q.p E)) E E) ?_
    refine qY E (yR (A:=G) (j:=(Int.toNat p2*1)) (v:=.slice ((rdL I p2).1.1) ((rdL p5.fH p2).length) ((rdL I p2).1.2.2)) gM (RdL.arg l) E (ay ao N.1 (ah N.2 (NestP.hn Q.p E)) (congrArg (fun n:Nat=>some (Value.slice (rdL I p2).1.1 n (rdL I p2).1.2.2)) (NestP.len Q.p N.1 (ah N.2 E))))) (bF ?_)
    obtain⟨fr,h⟩:=gOs h
    refine oY E (y_copyA 5 (by decide) cQ px List.length_replicate E (NestL.rd (NestL.arg Q) N.1 (ah N.2 E)) E fr E E) ?_
    refine oN (eT (cS (cS (cR (oY E (yMI E) (oN (eT (cB ?_))))))))
    obtain⟨ug,oX,h⟩:=bOs h
    refine bj (fun(s:(Int × (List Int))) L tm=>∃(M:Nat→Value),s.2.length=61∧L=[ak b1 24 [vI p0.fPlaces,.slice Ab p0.fTracks.length cb],ak b2 3 [vI p1],ak b3 3 [vI p2],ak b4 3 [vI p3],ak b5 87 [.slice G p5.fH.length K],ak V 160 (encL cI (rdL p5.fH p2)),ak T 160 (encL cI s.2)]∧tm=(upd (upd (upd (upd (upd M 4 (.slice r p4.length w)) 12 (vI 0)) 14 (.pointer (some ⟨V,0,none⟩))) 15 (.pointer (some ⟨T,0,none⟩))) 47 (vI s.1))) 0 oX ⟨_,List.length_replicate,E,(kp4 (kp E))⟩ ?_ ?_
    ·rintro oq L tm st ⟨op,U,rfl,rfl⟩ h
     unfold eU at h
     refine cS (cR (oY E (be E E) (oN (eT (cS ?_)))))
     rcases iOs h with⟨fd,h⟩|⟨fd,h⟩
     ·refine cT (vB fd) (cK (eT (cS (cB (cS (cR (oY E (yMI E) (oY E (yAI E) (oN (eT (cR (oY E (yMI E) ?_))))))))))))
      obtain⟨t,h⟩:=gOs h
      refine oY E (lK tB t.1 t.2 E E) (cy E (mO 6 (encL cI (oq.2.set (Int.toNat oq.1) (-1))) px E (ltA U t.1 t.2) setA' E E E) (oN (aw (eT (cR (oY E (aL E E) (oY E (yMI E) (oN ?_))))))))
      obtain rfl:=sI h
      exact eN ⟨_,(rn U),E,(kp4 (kp E))⟩
     ·refine cF (vB fd) (aD (ai ?_))
      obtain rfl:=sI h
      exact av ⟨E,_,U,E,(kp4 (kp E))⟩
    ·intro e L tm hJ
     obtain⟨rfl,om,fD,rfl,rfl⟩:=hJ
     refine⟨(by intro hc;cases hc),?_⟩
     refine ac (eT (cS (cS (cR (oY E (yMS E) (oY E (bi (us:=[]) kg E) (oY E (yMI E) (oN (eT (cB ?_))))))))))
     obtain⟨u4,ot,h⟩:=bOs h
     refine a8 (fun(s:(Int × Int × (List Int))) L tm=>∃(M:Nat→Value),s.2.2.length=61∧L=[ak b1 24 [vI p0.fPlaces,.slice Ab p0.fTracks.length cb],ak b2 3 [vI p1],ak b3 3 [vI p2],ak b4 3 [vI p3],ak b5 87 [.slice G p5.fH.length K],ak V 160 (encL cI (rdL p5.fH p2)),ak T 160 (encL cI s.2.2)]∧tm=(upd (upd (upd (upd (upd (upd (upd M 4 (.slice r p4.length w)) 12 (vI s.1)) 14 (.pointer (some ⟨V,0,none⟩))) 15 (.pointer (some ⟨T,0,none⟩))) 53 (.slice r p4.length w)) 54 (vI (p4.length:Int))) 55 (vI s.2.1))) 2 ot ⟨_,fD,E,(kp4 (kp (kp (kp E))))⟩ ?_ ?_
     ·rintro g L tm st ⟨oa,X,rfl,rfl⟩ h
      unfold cz at h
      refine cS (cR (oY E (be E E) (oN (eT (cS ?_)))))
      rcases iOs h with⟨fE,h⟩|⟨fE,h⟩
      ·refine cT (vB fE) (cK (eT (cS (cB (cS (cR (oY E (yMI E) ?_)))))))
       obtain⟨Z,h⟩:=gOs h
       refine oY E (yI gH (by decide) Z.1 Z.2 (RdL.arg H) (eL aq (NestP.hn d.p E)) E E) ?_
       refine oY E (yM (A:=r) (j:=(Int.toNat g.2.1*3)) [.slice ((rdL D g.2.1).1.1) ((rdL p4 g.2.1).fLegs.length) ((rdL D g.2.1).1.2.2),vI ((rdL p4 g.2.1).fA),vI ((rdL p4 g.2.1).fToll)] lX (Nat.succ_pos _) (RdL.arg H) E (fN (cA (NestP.snd d.p g.2.1) (NestP.len d.p Z.1 (ah Z.2 E))).symm (bc aq Z.1 (ah Z.2 (NestP.hn d.p E))))) ?_
       refine aF lr E (fun fl=>?_)
       try dsimp only[lna,lca,lsz,lss]
       refine oY E (yAI E) (cy E (yS 7 [.slice ((rdL D g.2.1).1.1) ((rdL p4 g.2.1).fLegs.length) ((rdL D g.2.1).1.2.2),vI ((rdL p4 g.2.1).fA),vI ((rdL p4 g.2.1).fToll)] m6 E (nB E) E E E) (oN (eT (cS (cS ?_)))))
       refine aS 24 bW (by kernel_rfl) (by kernel_rfl) ?_
       refine qY E (yMI E) (qY E (eu E E) (qY E (yMB E) ?_))
       obtain⟨oi,oj,h⟩:=bOs h
       refine qJ 21 (fun M=>(upd (upd (upd (upd (upd (upd (upd (upd (upd (upd (upd M 4 (.slice r p4.length w)) 12 (vI g.1)) 14 (.pointer (some ⟨V,0,none⟩))) 15 (.pointer (some ⟨T,0,none⟩))) 53 (.slice r p4.length w)) 54 (vI (p4.length:Int))) 55 (vI g.2.1)) 56 (.bool (decide (g.2.1<(p4.length:Int))))) 18 (.pointer (some ⟨fl,0,none⟩))) 17 (vI g.2.1)) 83 (.bool oi))) (fun M=>?_) (fun key=>?_)
       ·refine bF (oN (eT ?_))
        rcases iOs h with⟨fG,h⟩|⟨fG,h⟩
        ·refine cT (vB fG) (cS (cR (oY E (yAI E) (oN (eT (ap (ab (ae (ab (aQ 7 ?_))))))))))
         obtain rfl:=sI h
         exact av ⟨E,_,X,E,(kp4 (kp (kp (kp E))))⟩
        ·refine cF (vB fG) (cK (eT (cS (cR (oY E (yFA iN E) (oY E (yL 7 aK E E E) (oY E (yAI E) (oN (eT (cB ?_))))))))))
         obtain⟨uo,ok,h⟩:=bOs h
         refine bj (fun(s:(Int × (List Int))) L tm=>∃(M:Nat→Value),s.2.length=61∧L=[ak b1 24 [vI p0.fPlaces,.slice Ab p0.fTracks.length cb],ak b2 3 [vI p1],ak b3 3 [vI p2],ak b4 3 [vI p3],ak b5 87 [.slice G p5.fH.length K],ak V 160 (encL cI (rdL p5.fH p2)),ak T 160 (encL cI s.2),ak fl 29 [.slice ((rdL D g.2.1).1.1) ((rdL p4 g.2.1).fLegs.length) ((rdL D g.2.1).1.2.2),vI ((rdL p4 g.2.1).fA),vI ((rdL p4 g.2.1).fToll)]]∧tm=(upd (upd (upd (upd (upd (upd (upd (upd (upd (upd (upd (upd M 4 (.slice r p4.length w)) 12 (vI g.1)) 14 (.pointer (some ⟨V,0,none⟩))) 15 (.pointer (some ⟨T,0,none⟩))) 53 (.slice r p4.length w)) 54 (vI (p4.length:Int))) 55 (vI g.2.1)) 56 (.bool (decide (g.2.1<(p4.length:Int))))) 18 (.pointer (some ⟨fl,0,none⟩))) 17 (vI g.2.1)) 83 (.bool oi)) 19 (vI s.1))) 4 ok ⟨_,X,E,(kp4 (kp4 (kp4 E)))⟩ ?_ ?_
         ·rintro r0 L tm st ⟨r1,Y,rfl,rfl⟩ h
          unfold dp at h
          refine cS (cS (cR (oY E (yMI E) (oY E (gV E E) (oN (eT ?_))))))
          rcases iOs h with⟨fT,h⟩|⟨fT,h⟩
          ·refine cT (vB fT) (cK (eT (cS (cB (cR (oY E (yMI E) (oY E (yFA gN E) (oY E (yL 7 aK E E E) ?_))))))))
           obtain⟨a,h⟩:=gOs h
           refine oY E (lK tB a.1 a.2 E E) (cy E (mO 6 (encL cI (r0.2.set (Int.toNat r0.1) ((rdL p4 g.2.1).fA))) px E (ltA Y a.1 a.2) setA' E E E) (oN (aw (eT (cR (oY E (yMI E) (oY E (aL E E) (oY E (yAI E) (oN ?_)))))))))
           obtain rfl:=sI h
           exact eN ⟨_,(rn Y),E,(kp4 (kp4 (kp4 E)))⟩
          ·refine cF (vB fT) (aD (ai ?_))
           obtain rfl:=sI h
           exact av ⟨E,_,Y,E,(kp4 (kp4 (kp4 E)))⟩
         ·intro e L tm hJ
          obtain⟨rfl,r2,fR,rfl,rfl⟩:=hJ
          refine⟨(by intro hc;cases hc),?_⟩
          refine ac (aw (eT (cR (oY E (aL E E) (oY E (yMI E) (oN (aQ 7 ?_)))))))
          obtain rfl:=sI h
          exact eN ⟨_,fR,E,(kp4 (kp (kp (kp E))))⟩
       ·clear h;rcases iOs oj with⟨f,h⟩|⟨f,h⟩
        ·refine qY (sT E E E E f) (yFA iN E) (qY (sT E E E E f) (yL 7 aK E E E) (qY (sT E E E E f) (yMS E) (qY (sT E E E E f) (yMI E) (qY (sT E E E E f) (ex E E) ?_))))
         obtain⟨i,h⟩:=gOs h
         refine qY (sT E E E E f) (yI gH (by decide) i.1 i.2 (RdL.arg H) (eL aq (NestP.hn d.p E)) E E) ?_
         refine qY (sT E E E E f) (yFR (A:=r) (j:=(Int.toNat (w64 (g.2.1-1))*3)) iN E) (qY (sT E E E E f) (yR (A:=r) (j:=((Int.toNat (w64 (g.2.1-1))*3)+2)) (v:=vI ((rdL p4 (w64 (g.2.1-1))).fToll)) aK (RdL.arg H) E (eG aq i.1 (ah i.2 (NestP.hn d.p E)) (congrArg (fun z:TJ=>some (Value.int .i64 z.fToll)) (NestP.snd d.p (w64 (g.2.1-1)))))) (qY (sT E E E E f) (gV E E) (qY (sT E E E E f) (yMB E) ?_)))
         obtain⟨u5,r3,h⟩:=bOs h
         refine qJ 10 (fun M=>(upd (upd (upd (upd (upd (upd (upd (upd (upd (upd (upd (upd M 4 (.slice r p4.length w)) 12 (vI g.1)) 14 (.pointer (some ⟨V,0,none⟩))) 15 (.pointer (some ⟨T,0,none⟩))) 53 (.slice r p4.length w)) 54 (vI (p4.length:Int))) 55 (vI g.2.1)) 56 (.bool (decide (g.2.1<(p4.length:Int))))) 18 (.pointer (some ⟨fl,0,none⟩))) 17 (vI g.2.1)) 62 (.bool (decide (0<g.2.1)))) 82 (.bool u5))) (fun M=>?_) (fun key=>?_)
         ·refine qY E (ad (vB f) E) ?_
          obtain rfl:=sI h
          exact key _ _ (kp4 (kp4 (kp (kp (kp E)))))
         ·clear h;rcases iOs r3 with⟨o,h⟩|⟨o,h⟩
          ·refine aa (sF E E E E o) (aa (sF E E E E o) (aa (sF E E E E o) (aa (sF E E E E o) (aa (sF E E E E o) (aa (sF E E E E o) (aa (sF E E E E o) (aa (sF E E E E o) (aa (sF E E E E o) (qY (sT E E E E f) (ad (vB o) E) ?_)))))))))
           obtain rfl:=sI h
           exact key _ _ (kp4 (kp4 (kp4 E)))
          ·refine qY (sT E E E E o) (yFA gN E) (qY (sT E E E E o) (yL 7 aK E E E) (qY (sT E E E E o) (yMS E) (qY (sT E E E E o) (yMI E) (qY (sT E E E E o) (ex E E) ?_))))
           obtain⟨k,h⟩:=gOs h
           refine qY (sT E E E E o) (yI gH (by decide) k.1 k.2 (RdL.arg H) (eL aq (NestP.hn d.p E)) E E) ?_
           refine qY (sT E E E E o) (yFR (A:=r) (j:=(Int.toNat (w64 (g.2.1-1))*3)) gN E) (qY (sT E E E E o) (yR (A:=r) (j:=((Int.toNat (w64 (g.2.1-1))*3)+1)) (v:=vI ((rdL p4 (w64 (g.2.1-1))).fA)) aK (RdL.arg H) E (eG aq k.1 (ah k.2 (NestP.hn d.p E)) (congrArg (fun z:TJ=>some (Value.int .i64 z.fA)) (NestP.snd d.p (w64 (g.2.1-1)))))) (qY (sT E E E E o) (lu E E) (qY (sT E E E E f) (ag (vB o) E) ?_)))
           obtain rfl:=sI h
           exact key _ _ (kp4 (kp4 (kp4 E)))
        ·refine aa (sF E E E E f) (aa (sF E E E E f) (aa (sF E E E E f) (aa (sF E E E E f) (aa (sF E E E E f) (aa (sF E E E E f) (aa (sF E E E E f) (aa (sF E E E E f) (aa (sF E E E E f) (aa (sF E E E E f) (aa E (aa E (aa E (aa E (aa E (aa E (aa E (aa E (aa E (aa (sF E E E E f) (qY E (ag (vB f) E) ?_))))))))))))))))))))
         obtain rfl:=sI h
         exact key _ _ (kp4 (kp4 (kp (kp (kp E)))))
      ·refine cF (vB fE) (aD (ai ?_))
       obtain rfl:=sI h
       exact av ⟨E,_,X,E,(kp4 (kp (kp (kp E))))⟩
     ·intro e L tm hJ
      rcases u4 with u6|r4
      ·dsimp only at h hJ
       obtain⟨rfl,r5,ri,rfl,rfl⟩:=hJ
       refine⟨(by intro hc;cases hc),?_⟩
       refine ae (ab ?_)
       obtain rfl:=sI h
       exact am (.inl E) E (rVt (v:=vI u6.1) E) (fun W2 u=>⟨E,u.none⟩)
      ·dsimp only at h hJ
       obtain⟨rfl,rj,S,rfl,rfl⟩:=hJ
       refine⟨(by intro hc;cases hc),?_⟩
       refine ac (eT (cS (cS (cR (oY E (yN 5 (encL cI (rdL p5.fH p2)) (aggA pF fr) E E (takeA _)) (oY E (yN 6 (encL cI r4.2.2) (aggA pF S) E E (takeA _)) (oY E (y_neqa (b:=decide ((rdL p5.fH p2)=r4.2.2)) eg_160 E E (fun _=>eqAN sS aK ui_3 fr S)) (oN (eT ?_)))))))))
       rcases iOs h with⟨fn,h⟩|⟨fn,h⟩
       ·refine cT (vB fn) (cS (cR (oY E (yAI E) (oN (eT (ap (ab ?_)))))))
        obtain rfl:=sI h
        exact am (.inl E) E (rVt (v:=vI 8) E) (fun W2 u=>⟨E,u.none⟩)
       ·refine cF (vB fn) (cK (eT (cS (cR (oY E (yAI E) (oN (eT (ap ?_))))))))
        obtain rfl:=sI h
        exact am (.inl E) E (rVt (v:=vI 0) E) (fun W2 u=>⟨E,u.none⟩)
  ·clear h;rcases iOs o2 with⟨F,h⟩|⟨F,h⟩
   ·refine oSk (sF E E E E F) (oSk (sF E E E E F) (oSk (sF E E E E F) (oSk (sF E E E E F) (oY E (ad (vB F) E) ?_))))
    obtain rfl:=sI h
    exact key _ _ (kp4 (kp E))
   ·refine oY (sT E E E E F) (yMS E) (oY (sT E E E E F) (bZ [.pointer (some ⟨b1,0,none⟩),.pointer (some ⟨b2,0,none⟩),.pointer (some ⟨b3,0,none⟩),.pointer (some ⟨b4,0,none⟩)] E E) ?_)
    obtain⟨u7,u0,h⟩:=bOs h
    refine oY (sT E E E E F) (yC [.slice r p4.length w,.func (.func 121) #[] #[.pointer (some ⟨b1,0,none⟩),.pointer (some ⟨b2,0,none⟩),.pointer (some ⟨b3,0,none⟩),.pointer (some ⟨b4,0,none⟩)]] go_120 E (fun W2 u=>ir p4 (fun u8=>cP u8 p0 p1 p2 p3) u7 u0 W2 r p4.length w D E ((RdL.arg H) W2 u) (NestL.at (NestL.arg d) W2 u) 121 [] [.pointer (some ⟨b1,0,none⟩),.pointer (some ⟨b2,0,none⟩),.pointer (some ⟨b3,0,none⟩),.pointer (some ⟨b4,0,none⟩)] go_121 (fun W3 hb x hx rx y hxy=>lW  x p0 p1 p2 p3 y hxy W3 hx.1 _ hx.2.2 E rx b1 Ab p0.fTracks.length cb O E (((RdL.arg R) W2 u).later hb) ((NestL.at (NestL.arg q) W2 u).later hb) (((RdL.cells 0 E) W2 u).later hb) b2 (((RdL.cells 1 E) W2 u).later hb) b3 (((RdL.cells 2 E) W2 u).later hb) b4 (((RdL.cells 3 E) W2 u).later hb))) E) (oY (sT E E E E F) (lu E E) (oY E (ag (vB F) E) ?_))
    obtain rfl:=sI h
    exact key _ _ (kp4 (kp E))
end Go.Proofs.YthndghnkebboaaaGreat
set_option maxHeartbeats 4000000
set_option maxRecDepth 100000
namespace Go.Proofs.YthndghnkebboaaaGreat
open Go.RowKit (Below)
attribute [local irreducible] OX QX CX EX OpY Calls CallsIn
theorem pP (p0:TR) (p1:Int) (p2:Int) (p3:Int) (res:TFronted) (h:gk p0 p1 p2 p3=some res) (W:World) (Ab:Option Addr) (w cb:Nat) (r:List (Hd × TT)) (M:w=p0.fTracks.length) (D:Rd W Ab w cb (encL TTrack_cells2 r)) (F:NestW W (fun z:TT=>z.fK) TSpan_cells r p0.fTracks) :
  Calls Tryz.prog 62 [.agg #[vI p0.fPlaces,.slice Ab w cb],vI p1,vI p2,vI p3].toArray W fun e W2=>∃x:Option Addr × Nat × Nat,x.2.1=res.fL.length∧e=.returned (.agg #[.slice x.1 x.2.1 x.2.2,vI res.fE])∧Ext W W2 [aR x.1 x.2.2 37 2 x.2.1 (encL fp res.fL)]:=by
 subst M
 unfold gk at h
 refine aj (m:=28) Tryz.func62 E E (nB E) (cS (cR ?_))
 refine aN [vI p0.fPlaces,.slice Ab p0.fTracks.length cb] E E E (fun q=>?_)
 refine aF tj E (fun p=>?_)
 refine oN (eT (cS (cR (oY E (yN 0 [vI p0.fPlaces,.slice Ab p0.fTracks.length cb] dG E E E) (oY E (yMI E) (oY E (yMI E) (oY E (yMI E) ?_)))))))
 obtain⟨X,Y,h⟩:=bOs h
 refine oY E (yC [.agg #[vI p0.fPlaces,.slice Ab p0.fTracks.length cb],vI p1,vI p2,vI p3,vI 0] go_73 E (fun W2 f=>l4 p0 p1 p2 p3 0 X Y W2 Ab p0.fTracks.length cb r E ((RdL.arg D) W2 f) (NestL.at (NestL.arg F) W2 f)) E) (oY E (yAI E) (oN (eT (cS (cS (cR (oY E (yMI E) (oY E (cJ E E) (oN (eT ?_))))))))))
 rcases iOs h with⟨N,h⟩|⟨N,h⟩
 ·refine cT (vB N) (cS (cR (oY E (yMI E) ?_)))
  refine oY E (bn [.slice none 0 0,vI X] [(0,1),(1,1)] ust_111 tj (by kernel_rfl)) ?_
  refine cy E (yS 1 [.slice none 0 0,vI X] sz_111 E (nB E) E E E) (oN (eT (ap (ab ?_))))
  obtain rfl:=sI h
  exact am (.inl E) E (cf 1 [.slice none 0 0,vI X] ag_111 E E E) (fun W2 f=>⟨(none,0,0),E,E,((f.nilrow 37 2).pick 2 E)⟩)
 ·refine cF (vB N) (cK (eT (cS (cR (oY E (yN 0 [vI p0.fPlaces,.slice Ab p0.fTracks.length cb] dG E E E) (oY E (yMI E) (oY E (yMI E) ?_)))))))
  obtain⟨O,Z,h⟩:=bOs h
  refine oC [.agg #[vI p0.fPlaces,.slice Ab p0.fTracks.length cb],vI p1,vI p3] _ _ _ E go_75 E (fun W2 f=>kf p0 p1 p3 O Z W2 Ab p0.fTracks.length cb r E ((RdL.arg D) W2 f) (NestL.at (NestL.arg F) W2 f) W (fun _=>True) (fun W3 hb=>⟨fY f.below hb,trivial⟩) ) ?_
  rintro⟨⟨V,T,R⟩,g,F16⟩ ⟨G,u,Q⟩
  replace G:T=O.length:=G;subst G
  refine oY E (yMI E) ?_
  obtain⟨o,h⟩:=gOs h
  refine oY E (yI iu (by decide) o.1 o.2 (RdL.row 2 E) (eL ao (NestP.hn u E)) E E) ?_
  refine oY E (yR (A:=V) (j:=(Int.toNat p2*1)) (v:=.slice ((rdL g p2).1.1) ((rdL O p2).length) ((rdL g p2).1.2.2)) gM (RdL.row 2 E) E (ay ao o.1 (ah o.2 (NestP.hn u E)) (congrArg (fun n:Nat=>some (Value.slice (rdL g p2).1.1 n (rdL g p2).1.2.2)) (NestP.len u o.1 (ah o.2 E))))) ?_
  obtain⟨d,U,h⟩:=bOs h
  refine oC [.slice ((rdL g p2).1.1) ((rdL O p2).length) ((rdL g p2).1.2.2)] _ _ _ E go_74 E (fun W2 f=>lq (rdL O p2) d U W2 ((rdL g p2).1.1) ((rdL O p2).length) ((rdL g p2).1.2.2) E ((NestL.rd (PvL.nestL u Q (fun W2 f=>⟨f.below,trivial,f.mem (i:=3) E⟩)) o.1 (ah o.2 E)) W2 f)) ?_
  rintro⟨I,S,K⟩ H
  replace H:S=d.length:=H;subst H
  refine oY E (bn [.slice I d.length K,vI 0] [(0,1),(1,1)] ust_111 tj (by kernel_rfl)) ?_
  refine cy E (yS 1 [.slice I d.length K,vI 0] sz_111 E (nB E) E E E) (oN (eT (ap ?_)))
  obtain rfl:=sI h
  exact am (.inl E) E (cf 1 [.slice I d.length K,vI 0] ag_111 E E E) (fun W2 f=>⟨(I,d.length,K),E,E,(f.pick 4 E)⟩)
theorem n2 (p0:TR) (p1:Int) (p2:Int) (p3:Int) (p4:(List TJ)) (res:Bool) (h:gC p0 p1 p2 p3 p4=some res) (W:World) (Ab:Option Addr) (V cb:Nat) (I:List (Hd × TT)) (x:V=p0.fTracks.length) (T:Rd W Ab V cb (encL TTrack_cells2 I)) (S:NestW W (fun z:TT=>z.fK) TSpan_cells I p0.fTracks) (w:Option Addr) (R M:Nat) (d:List (Hd × TJ)) (y:R=p4.length) (F:Rd W w R M (encL TJourney_cells2 d)) (r:NestW W (fun z:TJ=>z.fLegs) TLeg_cells d p4) :
  Calls Tryz.prog 63 [.agg #[vI p0.fPlaces,.slice Ab V cb],vI p1,vI p2,vI p3,.slice w R M].toArray W fun e W2=>e=.returned (.bool res)∧Ext W W2 []:=by
 subst x
 subst y
 unfold gC at h
 refine aj (m:=70) Tryz.func63 E E (nB E) (cS (cR ?_))
 refine aN [vI p0.fPlaces,.slice Ab p0.fTracks.length cb] E E E (fun b1=>?_)
 refine oY E (yAB E) (oN (eT (cS (cR (oY E (yN 0 [vI p0.fPlaces,.slice Ab p0.fTracks.length cb] dG E E E) (oY E (yMI E) (oY E (yMI E) ?_)))))))
 obtain⟨b,fn,h⟩:=bOs h
 refine oC [.agg #[vI p0.fPlaces,.slice Ab p0.fTracks.length cb],vI p1,vI p3] _ _ _ E go_75 E (fun W2 u=>kf p0 p1 p3 b fn W2 Ab p0.fTracks.length cb I E ((RdL.arg T) W2 u) (NestL.at (NestL.arg S) W2 u) W (fun _=>True) (fun W3 hb=>⟨fY u.below hb,trivial⟩) ) ?_
 rintro⟨⟨A6,n8,c7⟩,D,F12⟩ ⟨c,Q,f2⟩
 replace c:n8=b.length:=c;subst c
 refine oY E (yMI E) ?_
 obtain⟨G,h⟩:=gOs h
 refine oY E (yI iu (by decide) G.1 G.2 (RdL.row 1 E) (eL ao (NestP.hn Q E)) E E) ?_
 refine oY E (yR (A:=A6) (j:=(Int.toNat p2*1)) (v:=.slice ((rdL D p2).1.1) ((rdL b p2).length) ((rdL D p2).1.2.2)) gM (RdL.row 1 E) E (ay ao G.1 (ah G.2 (NestP.hn Q E)) (congrArg (fun n:Nat=>some (Value.slice (rdL D p2).1.1 n (rdL D p2).1.2.2)) (NestP.len Q G.1 (ah G.2 E))))) ?_
 obtain⟨K,f3,h⟩:=bOs h
 refine oC [.slice ((rdL D p2).1.1) ((rdL b p2).length) ((rdL D p2).1.2.2)] _ _ _ E go_74 E (fun W2 u=>lq (rdL b p2) K f3 W2 ((rdL D p2).1.1) ((rdL b p2).length) ((rdL D p2).1.2.2) E ((NestL.rd (PvL.nestL Q f2 (fun W2 u=>⟨u.below,trivial,u.mem (i:=2) E⟩)) G.1 (ah G.2 E)) W2 u)) ?_
 rintro⟨N,fl,k⟩ q
 replace q:fl=K.length:=q;subst q
 refine oY E (yAS E) (oN (eT (cS (cS (cR (oY E (yMS E) (oY E (bi (us:=[]) us_109 E) (oY E (yMS E) (oY E (bi (us:=[]) kg E) (oY E (cJ E E) (oN (eT ?_))))))))))))
 rcases iOs h with⟨l,h⟩|⟨l,h⟩
 ·refine cT (vB l) (cS (cR (oY E (yAB E) (oN (eT (ap (ab ?_)))))))
  obtain rfl:=sI h
  exact am (.inl E) E (rVt (v:=.bool false) E) (fun W2 u=>⟨E,u.none⟩)
 ·refine cF (vB l) (cK (eT (cS (cS (cR (oY E (yAI E) (oN (eT (cB ?_)))))))))
  obtain⟨ft,fr,h⟩:=bOs h
  refine a8 (fun(s:(Bool × Int)) L tm=>∃(O:Nat→Value),L=[ak b1 24 [vI p0.fPlaces,.slice Ab p0.fTracks.length cb],aR A6 c7 42 1 b.length (encL SlInt_cells2 D),F12,aR N k 37 2 K.length (encL fp K)]∧tm=(upd (upd (upd (upd (upd (upd (upd (upd O 1 (vI p1)) 2 (vI p2)) 3 (vI p3)) 4 (.slice w p4.length M)) 5 (.pointer (some ⟨b1,0,none⟩))) 10 (.bool s.1)) 11 (.slice N K.length k)) 12 (vI s.2))) 0 fr ⟨_,E,(kp4 (kp4 E))⟩ ?_ ?_
  ·rintro f L tm st ⟨fd,rfl,rfl⟩ h
   unfold dg at h
   refine cS (cS (cR (oY E (yMI E) (oY E (yMS E) (oY E (bi (us:=[]) kg E) (oY E (be E E) (oN (eT ?_))))))))
   rcases iOs h with⟨t,h⟩|⟨t,h⟩
   ·refine cT (vB t) (cK (eT (cS (cB (cS ?_)))))
    refine aS 10 bW (by kernel_rfl) (by kernel_rfl) ?_
    refine qY E (yN 0 [vI p0.fPlaces,.slice Ab p0.fTracks.length cb] dG E E E) (qY E (yMI E) (qY E (yMI E) (qY E (yMI E) (qY E (yMS E) (qY E (yMI E) ?_)))))
    obtain⟨H,h⟩:=gOs h
    refine qY E (yI gH (by decide) H.1 H.2 (RdL.arg F) (eL aq (NestP.hn r.p E)) E E) ?_
    refine qY E (yM (A:=w) (j:=(Int.toNat f.2*3)) [.slice ((rdL d f.2).1.1) ((rdL p4 f.2).fLegs.length) ((rdL d f.2).1.2.2),vI ((rdL p4 f.2).fA),vI ((rdL p4 f.2).fToll)] lX (Nat.succ_pos _) (RdL.arg F) E (fN (cA (NestP.snd r.p f.2) (NestP.len r.p H.1 (ah H.2 E))).symm (bc aq H.1 (ah H.2 (NestP.hn r.p E))))) ?_
    obtain⟨f1,fD,h⟩:=bOs h
    refine qY E (yC [.agg #[vI p0.fPlaces,.slice Ab p0.fTracks.length cb],vI p1,vI p2,vI p3,.agg #[.slice ((rdL d f.2).1.1) ((rdL p4 f.2).fLegs.length) ((rdL d f.2).1.2.2),vI ((rdL p4 f.2).fA),vI ((rdL p4 f.2).fToll)]] go_21 E (fun W2 u=>kK p0 p1 p2 p3 (TJ.mk ((rdL p4 f.2).fLegs) ((rdL p4 f.2).fA) ((rdL p4 f.2).fToll)) f1 fD W2 Ab p0.fTracks.length cb I E ((RdL.arg T) W2 u) (NestL.at (NestL.arg S) W2 u) ((rdL d f.2).1.1) ((rdL p4 f.2).fLegs.length) ((rdL d f.2).1.2.2) E ((NestL.rd (NestL.arg r) H.1 (ah H.2 E)) W2 u)) E) (qY E (yAB E) (bF (oN (eT (cS ?_)))))
    refine aS 28 bW (by kernel_rfl) (by kernel_rfl) ?_
    refine qY E (yMB E) (qY E (bD E) (qY E (yMB E) ?_))
    obtain⟨g1,fE,h⟩:=bOs h
    refine qJ 12 (fun O=>(upd (upd (upd (upd (upd (upd (upd (upd (upd (upd (upd O 1 (vI p1)) 2 (vI p2)) 3 (vI p3)) 4 (.slice w p4.length M)) 5 (.pointer (some ⟨b1,0,none⟩))) 10 (.bool f.1)) 11 (.slice N K.length k)) 12 (vI f.2)) 30 (.bool (decide (f.2<(p4.length:Int))))) 13 (.bool f1)) 56 (.bool g1))) (fun O=>?_) (fun key=>?_)
    ·refine qY E (yMB E) ?_
     obtain⟨g2,fG,h⟩:=bOs h
     refine qJ 12 (fun O=>(upd (upd (upd (upd (upd (upd (upd (upd (upd (upd (upd O 1 (vI p1)) 2 (vI p2)) 3 (vI p3)) 4 (.slice w p4.length M)) 5 (.pointer (some ⟨b1,0,none⟩))) 10 (.bool f.1)) 11 (.slice N K.length k)) 12 (vI f.2)) 30 (.bool (decide (f.2<(p4.length:Int))))) 13 (.bool f1)) 69 (.bool g2))) (fun O=>?_) (fun key=>?_)
     ·refine bF (oN (eT ?_))
      rcases iOs h with⟨a,h⟩|⟨a,h⟩
      ·refine cT (vB a) (cS (cR (oY E (yAB E) (oN (eT (ap (ae (ab ?_))))))))
       obtain rfl:=sI h
       exact av ⟨E,_,E,(kp4 (kp4 E))⟩
      ·refine cF (vB a) (cK (aw (eT (cR (oY E (yMI E) (oY E (aL E E) (oY E (yAI E) (oN ?_))))))))
       obtain rfl:=sI h
       exact eN ⟨_,E,(kp4 (kp4 E))⟩
     ·clear h;rcases iOs fG with⟨g,h⟩|⟨g,h⟩
      ·refine aa (sF E E E E g) (aa (sF E E E E g) (aa (sF E E E E g) (aa (sF E E E E g) (aa (sF E E E E g) (aa (sF E E E E g) (aa (sF E E E E g) (aa (sF E E E E g) (aa (sF E E E E g) (aa (sF E E E E g) (aa (sF E E E E g) (qY E (ad (vB g) E) ?_)))))))))))
       obtain rfl:=sI h
       exact key _ _ (kp4 (kp4 (kp (kp (kp E)))))
      ·refine qY (sT E E E E g) (yMS E) (qY (sT E E E E g) (yMI E) ?_)
       obtain⟨U,h⟩:=gOs h
       refine qY (sT E E E E g) (yI gH (by decide) U.1 U.2 (RdL.arg F) (eL aq (NestP.hn r.p E)) E E) ?_
       refine qY (sT E E E E g) (yFR (A:=w) (j:=(Int.toNat f.2*3)) gN E) (qY (sT E E E E g) (yR (A:=w) (j:=((Int.toNat f.2*3)+1)) (v:=vI ((rdL p4 f.2).fA)) aK (RdL.arg F) E (eG aq U.1 (ah U.2 (NestP.hn r.p E)) (congrArg (fun z:TJ=>some (Value.int .i64 z.fA)) (NestP.snd r.p f.2)))) (qY (sT E E E E g) (yMS E) (qY (sT E E E E g) (yMI E) ?_)))
       obtain⟨X,h⟩:=gOs h
       refine qY (sT E E E E g) (yI sl_109 (by decide) X.1 X.2 (RdL.row 3 E) (eL di E) E E) ?_
       refine qY (sT E E E E g) (yFR (A:=N) (j:=(Int.toNat f.2*2)) fo_37_1 E) (qY (sT E E E E g) (yR (A:=N) (j:=((Int.toNat f.2*2)+1)) (v:=vI ((rdL K f.2).fA)) aK (RdL.row 3 E) E (eG di X.1 (ah X.2 E) E)) (qY (sT E E E E g) (cJ E E) (qY E (ag (vB g) E) ?_)))
       obtain rfl:=sI h
       exact key _ _ (kp4 (kp4 (kp (kp (kp E)))))
    ·clear h;rcases iOs fE with⟨o,h⟩|⟨o,h⟩
     ·refine aa (sF E E E E o) (aa (sF E E E E o) (aa (sF E E E E o) (aa (sF E E E E o) (aa (sF E E E E o) (aa (sF E E E E o) (aa (sF E E E E o) (aa (sF E E E E o) (aa (sF E E E E o) (aa (sF E E E E o) (aa (sF E E E E o) (qY E (ad (vB o) E) ?_)))))))))))
      obtain rfl:=sI h
      exact key _ _ (kp4 (kp4 (kp (kp (kp E)))))
     ·refine qY (sT E E E E o) (yMS E) (qY (sT E E E E o) (yMI E) ?_)
      obtain⟨Y,h⟩:=gOs h
      refine qY (sT E E E E o) (yI gH (by decide) Y.1 Y.2 (RdL.arg F) (eL aq (NestP.hn r.p E)) E E) ?_
      refine qY (sT E E E E o) (yFR (A:=w) (j:=(Int.toNat f.2*3)) iN E) (qY (sT E E E E o) (yR (A:=w) (j:=((Int.toNat f.2*3)+2)) (v:=vI ((rdL p4 f.2).fToll)) aK (RdL.arg F) E (eG aq Y.1 (ah Y.2 (NestP.hn r.p E)) (congrArg (fun z:TJ=>some (Value.int .i64 z.fToll)) (NestP.snd r.p f.2)))) (qY (sT E E E E o) (yMS E) (qY (sT E E E E o) (yMI E) ?_)))
      obtain⟨Z,h⟩:=gOs h
      refine qY (sT E E E E o) (yI sl_109 (by decide) Z.1 Z.2 (RdL.row 3 E) (eL di E) E E) ?_
      refine qY (sT E E E E o) (yFR (A:=N) (j:=(Int.toNat f.2*2)) fo_37_0 E) (qY (sT E E E E o) (yR (A:=N) (j:=((Int.toNat f.2*2)+0)) (v:=vI ((rdL K f.2).fToll)) aK (RdL.row 3 E) E (eG di Z.1 (ah Z.2 E) E)) (qY (sT E E E E o) (cJ E E) (qY E (ag (vB o) E) ?_)))
      obtain rfl:=sI h
      exact key _ _ (kp4 (kp4 (kp (kp (kp E)))))
   ·refine cF (vB t) (aD (ai ?_))
    obtain rfl:=sI h
    exact av ⟨E,_,E,(kp4 (kp4 E))⟩
  ·intro e L tm hJ
   rcases ft with g3|o0
   ·dsimp only at h hJ
    obtain⟨rfl,fH,rfl,rfl⟩:=hJ
    refine⟨(by intro hc;cases hc),?_⟩
    refine ae (ab ?_)
    obtain rfl:=sI h
    exact am (.inl E) E (rVt (v:=.bool g3.1) E) (fun W2 u=>⟨E,u.none⟩)
   ·dsimp only at h hJ
    obtain⟨rfl,fT,rfl,rfl⟩:=hJ
    refine⟨(by intro hc;cases hc),?_⟩
    refine ac (eT (cS (cR (oY E (yAB E) (oN (eT (ap ?_)))))))
    obtain rfl:=sI h
    exact am (.inl E) E (rVt (v:=.bool true) E) (fun W2 u=>⟨E,u.none⟩)
theorem mp (p0:TR) (p1:Int) (p2:Int) (p3:Int) (p4:(List TJ)) (p5:TTimes) (res:Int) (h:dj p0 p1 p2 p3 p4 p5=some res) (W:World) (Ab:Option Addr) (k cb:Nat) (U:List (Hd × TT)) (fE:k=p0.fTracks.length) (Y:Rd W Ab k cb (encL TTrack_cells2 U)) (Z:NestW W (fun z:TT=>z.fK) TSpan_cells U p0.fTracks) (u:Option Addr) (x O:Nat) (F:List (Hd × TJ)) (fG:x=p4.length) (d:Rd W u x O (encL TJourney_cells2 F)) (g:NestW W (fun z:TJ=>z.fLegs) TLeg_cells F p4) (H:Option Addr) (y K:Nat) (G:List (Hd × (List Int))) (fT:y=p5.fH.length) (V:Rd W H y K (encL SlInt_cells2 G)) (N:NestW W (fun z:(List Int)=>z) cI G p5.fH) :
  Calls Tryz.prog 65 [.agg #[vI p0.fPlaces,.slice Ab k cb],vI p1,vI p2,vI p3,.slice u x O,.agg #[.slice H y K]].toArray W fun e W2=>e=.returned (vI res)∧Ext W W2 []:=by
 subst fE
 subst fG
 subst fT
 unfold dj at h
 refine aj (m:=118) Tryz.func65 E E (nB E) (cS (cR ?_))
 refine aN [vI p0.fPlaces,.slice Ab p0.fTracks.length cb] E E E (fun b1=>?_)
 refine aN [.slice H p5.fH.length K] E E E (fun b2=>?_)
 refine oY E (yAI E) (oN (eT (cS (cR (oY E (yN 0 [vI p0.fPlaces,.slice Ab p0.fTracks.length cb] dG E E E) (oY E (yMI E) (oY E (yMI E) (oY E (yMI E) ?_))))))))
 obtain⟨y3,oa,h⟩:=bOs h
 refine oY E (yC [.agg #[vI p0.fPlaces,.slice Ab p0.fTracks.length cb],vI p1,vI p2,vI p3,vI 0] go_73 E (fun W2 w=>l4 p0 p1 p2 p3 0 y3 oa W2 Ab p0.fTracks.length cb U E ((RdL.arg Y) W2 w) (NestL.at (NestL.arg Z) W2 w)) E) (oY E (yAI E) (oN (eT (cS (cS (cR (oY E (yMI E) (oY E (cJ E E) (oN (eT ?_))))))))))
 rcases iOs h with⟨fn,h⟩|⟨fn,h⟩
 ·refine cT (vB fn) (cS (cR (oY E (yMI E) (oY E (yAI E) (oN (eT (ap (ab ?_))))))))
  obtain rfl:=sI h
  exact am (.inl E) E (rVt (v:=vI y3) E) (fun W2 w=>⟨E,w.none⟩)
 ·refine cF (vB fn) (cK (eT (cS (cR (oY E (yN 0 [vI p0.fPlaces,.slice Ab p0.fTracks.length cb] dG E E E) (oY E (yMI E) (oY E (yMI E) (oY E (yN 1 [.slice H p5.fH.length K] r6 E E E) ?_))))))))
  obtain⟨y6,oi,h⟩:=bOs h
  refine oY E (yC [.agg #[vI p0.fPlaces,.slice Ab p0.fTracks.length cb],vI p1,vI p3,.agg #[.slice H p5.fH.length K]] go_114 E (fun W2 w=>pX p0 p1 p3 p5 y6 oi W2 Ab p0.fTracks.length cb U E ((RdL.arg Y) W2 w) (NestL.at (NestL.arg Z) W2 w) H p5.fH.length K G E ((RdL.arg V) W2 w) (NestL.at (NestL.arg N) W2 w)) E) (oY E (yAB E) (oN (eT (cS (cS (cR (oY E (yMB E) (oY E (bD E) (oN (eT ?_))))))))))
  rcases iOs h with⟨fl,h⟩|⟨fl,h⟩
  ·refine cT (vB fl) (cS (cR (oY E (yAI E) (oN (eT (ap (ab ?_)))))))
   obtain rfl:=sI h
   exact am (.inl E) E (rVt (v:=vI 8) E) (fun W2 w=>⟨E,w.none⟩)
  ·refine cF (vB fl) (cK (eT (cS (cS (cR (oY E (yAI E) (oN (eT (cB ?_)))))))))
   obtain⟨oj,ft,h⟩:=bOs h
   refine a8 (fun(s:(Int × Int)) L tm=>∃(M:Nat→Value),L=[ak b1 24 [vI p0.fPlaces,.slice Ab p0.fTracks.length cb],ak b2 87 [.slice H p5.fH.length K]]∧tm=(upd (upd (upd (upd (upd (upd (upd (upd M 1 (vI p1)) 2 (vI p2)) 3 (vI p3)) 4 (.slice u p4.length O)) 6 (.pointer (some ⟨b1,0,none⟩))) 11 (.pointer (some ⟨b2,0,none⟩))) 12 (vI s.1)) 15 (vI s.2))) 0 ft ⟨_,E,(kp4 (kp4 E))⟩ ?_ ?_
   ·rintro o L tm st ⟨g1,rfl,rfl⟩ h
    unfold ck at h
    refine cS (cS (cR (oY E (yMI E) (oY E (yMS E) (oY E (bi (us:=[]) kg E) (oY E (be E E) (oN (eT ?_))))))))
    rcases iOs h with⟨b,h⟩|⟨b,h⟩
    ·refine cT (vB b) (cK (eT (cS (cB (cS ?_)))))
     refine aS 10 bW (by kernel_rfl) (by kernel_rfl) ?_
     refine qY E (yN 0 [vI p0.fPlaces,.slice Ab p0.fTracks.length cb] dG E E E) (qY E (yMI E) (qY E (yMI E) (qY E (yMI E) (qY E (yMS E) (qY E (yMI E) ?_)))))
     obtain⟨Q,h⟩:=gOs h
     refine qY E (yI gH (by decide) Q.1 Q.2 (RdL.arg d) (eL aq (NestP.hn g.p E)) E E) ?_
     refine qY E (yM (A:=u) (j:=(Int.toNat o.2*3)) [.slice ((rdL F o.2).1.1) ((rdL p4 o.2).fLegs.length) ((rdL F o.2).1.2.2),vI ((rdL p4 o.2).fA),vI ((rdL p4 o.2).fToll)] lX (Nat.succ_pos _) (RdL.arg d) E (fN (cA (NestP.snd g.p o.2) (NestP.len g.p Q.1 (ah Q.2 E))).symm (bc aq Q.1 (ah Q.2 (NestP.hn g.p E))))) ?_
     obtain⟨i,g2,h⟩:=bOs h
     refine qY E (yC [.agg #[vI p0.fPlaces,.slice Ab p0.fTracks.length cb],vI p1,vI p2,vI p3,.agg #[.slice ((rdL F o.2).1.1) ((rdL p4 o.2).fLegs.length) ((rdL F o.2).1.2.2),vI ((rdL p4 o.2).fA),vI ((rdL p4 o.2).fToll)]] go_21 E (fun W2 w=>kK p0 p1 p2 p3 (TJ.mk ((rdL p4 o.2).fLegs) ((rdL p4 o.2).fA) ((rdL p4 o.2).fToll)) i g2 W2 Ab p0.fTracks.length cb U E ((RdL.arg Y) W2 w) (NestL.at (NestL.arg Z) W2 w) ((rdL F o.2).1.1) ((rdL p4 o.2).fLegs.length) ((rdL F o.2).1.2.2) E ((NestL.rd (NestL.arg g) Q.1 (ah Q.2 E)) W2 w)) E) (qY E (yAB E) (bF (oN (eT (cS ?_)))))
     refine aS 36 bW (by kernel_rfl) (by kernel_rfl) ?_
     refine qY E (yMB E) (qY E (bD E) (qY E (yMB E) ?_))
     obtain⟨ok,g3,h⟩:=bOs h
     refine qJ 33 (fun M=>(upd (upd (upd (upd (upd (upd (upd (upd (upd (upd (upd M 1 (vI p1)) 2 (vI p2)) 3 (vI p3)) 4 (.slice u p4.length O)) 6 (.pointer (some ⟨b1,0,none⟩))) 11 (.pointer (some ⟨b2,0,none⟩))) 12 (vI o.1)) 15 (vI o.2)) 38 (.bool (decide (o.2<(p4.length:Int))))) 16 (.bool i)) 85 (.bool ok))) (fun M=>?_) (fun key=>?_)
     ·refine bF (oN (eT ?_))
      rcases iOs h with⟨c,h⟩|⟨c,h⟩
      ·refine cT (vB c) (cS (cR (oY E (yAI E) (oN (eT (ap (ae (ab ?_))))))))
       obtain rfl:=sI h
       exact av ⟨E,_,E,(kp4 (kp4 E))⟩
      ·refine cF (vB c) (cK (aw (eT (cR (oY E (yMI E) (oY E (aL E E) (oY E (yAI E) (oN ?_))))))))
       obtain rfl:=sI h
       exact eN ⟨_,E,(kp4 (kp4 E))⟩
     ·clear h;rcases iOs g3 with⟨D,h⟩|⟨D,h⟩
      ·refine aa (sF E E E E D) (aa (sF E E E E D) (aa (sF E E E E D) (aa E (aa E (aa E (aa E (aa E (aa E (aa E (aa E (aa E (aa E (aa E (aa E (aa E (aa E (aa E (aa E (aa E (aa E (aa E (aa E (aa E (aa E (aa E (aa E (aa E (aa E (aa E (aa E (aa (sF E E E E D) (qY E (ad (vB D) E) ?_))))))))))))))))))))))))))))))))
       obtain rfl:=sI h
       exact key _ _ (kp4 (kp4 (kp (kp (kp E)))))
      ·refine qY (sT E E E E D) (yMI E) (qY (sT E E E E D) (eu E E) (qY (sT E E E E D) (yMB E) ?_))
       obtain⟨r0,g4,h⟩:=bOs h
       refine qJ 29 (fun M=>(upd (upd (upd (upd (upd (upd (upd (upd (upd (upd (upd (upd M 1 (vI p1)) 2 (vI p2)) 3 (vI p3)) 4 (.slice u p4.length O)) 6 (.pointer (some ⟨b1,0,none⟩))) 11 (.pointer (some ⟨b2,0,none⟩))) 12 (vI o.1)) 15 (vI o.2)) 38 (.bool (decide (o.2<(p4.length:Int))))) 16 (.bool i)) 52 (.bool (!i))) 84 (.bool r0))) (fun M=>?_) (fun key=>?_)
       ·refine qY E (ag (vB D) E) ?_
        obtain rfl:=sI h
        exact key _ _ (kp4 (kp4 (kp (kp (kp E)))))
       ·clear h;rcases iOs g4 with⟨f,h⟩|⟨f,h⟩
        ·refine qY (sT E E E E f) (yMS E) (qY (sT E E E E f) (yMI E) ?_)
         obtain⟨T,h⟩:=gOs h
         refine qY (sT E E E E f) (yI gH (by decide) T.1 T.2 (RdL.arg d) (eL aq (NestP.hn g.p E)) E E) ?_
         refine qY (sT E E E E f) (yFR (A:=u) (j:=(Int.toNat o.2*3)) iN E) (qY (sT E E E E f) (yR (A:=u) (j:=((Int.toNat o.2*3)+2)) (v:=vI ((rdL p4 o.2).fToll)) aK (RdL.arg d) E (eG aq T.1 (ah T.2 (NestP.hn g.p E)) (congrArg (fun z:TJ=>some (Value.int .i64 z.fToll)) (NestP.snd g.p o.2)))) (qY (sT E E E E f) (yMS E) (qY (sT E E E E f) (yMI E) (qY (sT E E E E f) (ex E E) (qY (sT E E E E f) (y_max E E) ?_)))))
         obtain⟨S,h⟩:=gOs h
         refine qY (sT E E E E f) (yI gH (by decide) S.1 S.2 (RdL.arg d) (eL aq (NestP.hn g.p E)) E E) ?_
         refine qY (sT E E E E f) (yFR (A:=u) (j:=(Int.toNat (max 0 (w64 (o.2-1)))*3)) iN E) (qY (sT E E E E f) (yR (A:=u) (j:=((Int.toNat (max 0 (w64 (o.2-1)))*3)+2)) (v:=vI ((rdL p4 (max 0 (w64 (o.2-1)))).fToll)) aK (RdL.arg d) E (eG aq S.1 (ah S.2 (NestP.hn g.p E)) (congrArg (fun z:TJ=>some (Value.int .i64 z.fToll)) (NestP.snd g.p (max 0 (w64 (o.2-1))))))) (qY (sT E E E E f) (gV E E) (qY (sT E E E E f) (yMB E) ?_)))
         obtain⟨r1,gf,h⟩:=bOs h
         refine qJ 14 (fun M=>(upd (upd (upd (upd (upd (upd (upd (upd (upd (upd (upd (upd (upd M 1 (vI p1)) 2 (vI p2)) 3 (vI p3)) 4 (.slice u p4.length O)) 6 (.pointer (some ⟨b1,0,none⟩))) 11 (.pointer (some ⟨b2,0,none⟩))) 12 (vI o.1)) 15 (vI o.2)) 38 (.bool (decide (o.2<(p4.length:Int))))) 16 (.bool i)) 52 (.bool (!i))) 55 (.bool (decide (0<o.2)))) 83 (.bool r1))) (fun M=>?_) (fun key=>?_)
         ·refine qY (sT E E E E D) (ad (vB f) E) ?_
          obtain rfl:=sI h
          exact key _ _ (kp4 (kp4 (kp4 E)))
         ·clear h;rcases iOs gf with⟨r,h⟩|⟨r,h⟩
          ·refine aa (sF E E E E r) (aa (sF E E E E r) (aa (sF E E E E r) (aa (sF E E E E r) (aa (sF E E E E r) (aa (sF E E E E r) (aa (sF E E E E r) (aa (sF E E E E r) (aa (sF E E E E r) (aa (sF E E E E r) (aa (sF E E E E r) (aa (sF E E E E r) (aa (sF E E E E r) (qY (sT E E E E f) (ad (vB r) E) ?_)))))))))))))
           obtain rfl:=sI h
           exact key _ _ (kp4 (kp4 (kp4 (kp E))))
          ·refine qY (sT E E E E r) (yMS E) (qY (sT E E E E r) (yMI E) ?_)
           obtain⟨R,h⟩:=gOs h
           refine qY (sT E E E E r) (yI gH (by decide) R.1 R.2 (RdL.arg d) (eL aq (NestP.hn g.p E)) E E) ?_
           refine qY (sT E E E E r) (yFR (A:=u) (j:=(Int.toNat o.2*3)) gN E) (qY (sT E E E E r) (yR (A:=u) (j:=((Int.toNat o.2*3)+1)) (v:=vI ((rdL p4 o.2).fA)) aK (RdL.arg d) E (eG aq R.1 (ah R.2 (NestP.hn g.p E)) (congrArg (fun z:TJ=>some (Value.int .i64 z.fA)) (NestP.snd g.p o.2)))) (qY (sT E E E E r) (yMS E) (qY (sT E E E E r) (yMI E) (qY (sT E E E E r) (ex E E) (qY (sT E E E E r) (y_max E E) ?_)))))
           obtain⟨q,h⟩:=gOs h
           refine qY (sT E E E E r) (yI gH (by decide) q.1 q.2 (RdL.arg d) (eL aq (NestP.hn g.p E)) E E) ?_
           refine qY (sT E E E E r) (yFR (A:=u) (j:=(Int.toNat (max 0 (w64 (o.2-1)))*3)) gN E) (qY (sT E E E E r) (yR (A:=u) (j:=((Int.toNat (max 0 (w64 (o.2-1)))*3)+1)) (v:=vI ((rdL p4 (max 0 (w64 (o.2-1)))).fA)) aK (RdL.arg d) E (eG aq q.1 (ah q.2 (NestP.hn g.p E)) (congrArg (fun z:TJ=>some (Value.int .i64 z.fA)) (NestP.snd g.p (max 0 (w64 (o.2-1))))))) (qY (sT E E E E r) (lu E E) (qY (sT E E E E f) (ag (vB r) E) ?_)))
           obtain rfl:=sI h
           exact key _ _ (kp4 (kp4 (kp4 (kp E))))
        ·refine aa (sF E E E E f) (aa (sF E E E E f) (aa (sF E E E E f) (aa (sF E E E E f) (aa (sF E E E E f) (aa (sF E E E E f) (aa (sF E E E E f) (aa (sF E E E E f) (aa (sF E E E E f) (aa (sF E E E E f) (aa (sF E E E E f) (aa (sF E E E E f) (aa (sF E E E E f) (aa (sF E E E E f) (aa E (aa E (aa E (aa E (aa E (aa E (aa E (aa E (aa E (aa E (aa E (aa E (aa E (aa (sF E E E E f) (qY (sT E E E E D) (ag (vB f) E) ?_))))))))))))))))))))))))))))
         obtain rfl:=sI h
         exact key _ _ (kp4 (kp4 (kp4 E)))
    ·refine cF (vB b) (aD (ai ?_))
     obtain rfl:=sI h
     exact av ⟨E,_,E,(kp4 (kp4 E))⟩
   ·intro e L tm hJ
    rcases oj with r2|rj
    ·dsimp only at h hJ
     obtain⟨rfl,go,rfl,rfl⟩:=hJ
     refine⟨(by intro hc;cases hc),?_⟩
     refine ae (ab ?_)
     obtain rfl:=sI h
     exact am (.inl E) E (rVt (v:=vI r2.1) E) (fun W2 w=>⟨E,w.none⟩)
    ·dsimp only at h hJ
     obtain⟨rfl,o0,rfl,rfl⟩:=hJ
     refine⟨(by intro hc;cases hc),?_⟩
     refine ac (eT (cS (cS (cR (oY E (yAI E) (oN (eT (cB ?_))))))))
     obtain⟨r3,o1,h⟩:=bOs h
     refine a8 (fun(s:(Int × Int)) L tm=>∃(M:Nat→Value),L=[ak b1 24 [vI p0.fPlaces,.slice Ab p0.fTracks.length cb],ak b2 87 [.slice H p5.fH.length K]]∧tm=(upd (upd (upd (upd (upd M 2 (vI p2)) 4 (.slice u p4.length O)) 11 (.pointer (some ⟨b2,0,none⟩))) 12 (vI s.1)) 17 (vI s.2))) 2 o1 ⟨_,E,(kp4 (kp E))⟩ ?_ ?_
     ·rintro f1 L tm st ⟨o2,rfl,rfl⟩ h
      unfold eg at h
      refine cS (cS (cR (oY E (yMI E) (oY E (gV E E) (oN (eT ?_))))))
      rcases iOs h with⟨f2,h⟩|⟨f2,h⟩
      ·refine cT (vB f2) (cK (eT (cS (cB (cS (cR (oY E (yAI E) (oN (eT (cS (cS (cR (oY E (yAI E) (oN (eT (cB ?_))))))))))))))))
       obtain⟨rx,oX,h⟩:=bOs h
       refine bj (fun(s:(Int × Int)) L tm=>∃(M:Nat→Value),L=[ak b1 24 [vI p0.fPlaces,.slice Ab p0.fTracks.length cb],ak b2 87 [.slice H p5.fH.length K]]∧tm=(upd (upd (upd (upd (upd (upd (upd (upd M 2 (vI p2)) 4 (.slice u p4.length O)) 11 (.pointer (some ⟨b2,0,none⟩))) 12 (vI f1.1)) 17 (vI f1.2)) 87 (.bool (decide (f1.2≤60)))) 18 (vI s.1)) 19 (vI s.2))) 4 oX ⟨_,E,(kp4 (kp4 E))⟩ ?_ ?_
       ·rintro X L tm st ⟨oq,rfl,rfl⟩ h
        unfold cl at h
        refine cS (cS (cR (oY E (yMI E) (oY E (yMS E) (oY E (bi (us:=[]) kg E) (oY E (be E E) (oN (eT ?_))))))))
        rcases iOs h with⟨f3,h⟩|⟨f3,h⟩
        ·refine cT (vB f3) (cK (eT (cS (cB (cS (cR (oY E (yMS E) (oY E (yMI E) ?_))))))))
         obtain⟨l,h⟩:=gOs h
         refine oY E (yI gH (by decide) l.1 l.2 (RdL.arg d) (eL aq (NestP.hn g.p E)) E E) ?_
         refine oY E (yFR (A:=u) (j:=(Int.toNat X.2*3)) iN E) (oY E (yR (A:=u) (j:=((Int.toNat X.2*3)+2)) (v:=vI ((rdL p4 X.2).fToll)) aK (RdL.arg d) E (eG aq l.1 (ah l.2 (NestP.hn g.p E)) (congrArg (fun z:TJ=>some (Value.int .i64 z.fToll)) (NestP.snd g.p X.2)))) (oY E (yMI E) (oY E (gV E E) (oN (eT ?_)))))
         rcases iOs h with⟨fr,h⟩|⟨fr,h⟩
         ·refine cT (vB fr) (cR (oY E (yMS E) (oY E (yMI E) ?_)))
          obtain⟨t,h⟩:=gOs h
          refine oY E (yI gH (by decide) t.1 t.2 (RdL.arg d) (eL aq (NestP.hn g.p E)) E E) ?_
          refine oY E (yFR (A:=u) (j:=(Int.toNat X.2*3)) gN E) (oY E (yR (A:=u) (j:=((Int.toNat X.2*3)+1)) (v:=vI ((rdL p4 X.2).fA)) aK (RdL.arg d) E (eG aq t.1 (ah t.2 (NestP.hn g.p E)) (congrArg (fun z:TJ=>some (Value.int .i64 z.fA)) (NestP.snd g.p X.2)))) (oY E (yAI E) (oN (aw (eT (cR (oY E (yMI E) (oY E (aL E E) (oY E (yAI E) (oN ?_))))))))))
          obtain rfl:=sI h
          exact eN ⟨_,E,(kp4 (kp4 E))⟩
         ·refine cF (vB fr) (cK (aw (eT (cR (oY E (yMI E) (oY E (aL E E) (oY E (yAI E) (oN ?_))))))))
          obtain rfl:=sI h
          exact eN ⟨_,E,(kp4 (kp4 E))⟩
        ·refine cF (vB f3) (aD (ai ?_))
         obtain rfl:=sI h
         exact av ⟨E,_,E,(kp4 (kp4 E))⟩
       ·intro e L tm hJ
        obtain⟨rfl,op,rfl,rfl⟩:=hJ
        refine⟨(by intro hc;cases hc),?_⟩
        refine ac (eT (cS (cR (oY E (yFA dw E) (oY E (yL 1 km E E E) (oY E (yMI E) ?_))))))
        obtain⟨I,h⟩:=gOs h
        refine oY E (yI iu (by decide) I.1 I.2 (RdL.arg V) (eL ao (NestP.hn N.p E)) E E) ?_
        refine oY E (yR (A:=H) (j:=(Int.toNat p2*1)) (v:=.slice ((rdL G p2).1.1) ((rdL p5.fH p2).length) ((rdL G p2).1.2.2)) gM (RdL.arg V) E (ay ao I.1 (ah I.2 (NestP.hn N.p E)) (congrArg (fun n:Nat=>some (Value.slice (rdL G p2).1.1 n (rdL G p2).1.2.2)) (NestP.len N.p I.1 (ah I.2 E))))) (oY E (yMI E) ?_)
        obtain⟨a,h⟩:=gOs h
        refine oY E (yI bS (by decide) a.1 a.2 (NestL.rd (NestL.arg N) I.1 (ah I.2 E)) (eL aB E) E E) ?_
        refine oY E (yR (A:=((rdL G p2).1.1)) (j:=(Int.toNat f1.2*1)) (v:=vI (rdL (rdL p5.fH p2) f1.2)) aK (NestL.rd (NestL.arg N) I.1 (ah I.2 E)) E (ay aB a.1 (ah a.2 E) E)) (oY E (yMI E) (oY E (cJ E E) (oN (eT ?_))))
        rcases iOs h with⟨fd,h⟩|⟨fd,h⟩
        ·refine cT (vB fd) (cS (cR (oY E (yAI E) (oN (eT (ap (ae (ab ?_))))))))
         obtain rfl:=sI h
         exact av ⟨E,_,E,(kp4 (kp E))⟩
        ·refine cF (vB fd) (cK (aw (eT (cR (oY E (yMI E) (oY E (aL E E) (oY E (yAI E) (oN ?_))))))))
         obtain rfl:=sI h
         exact eN ⟨_,E,(kp4 (kp E))⟩
      ·refine cF (vB f2) (aD (ai ?_))
       obtain rfl:=sI h
       exact av ⟨E,_,E,(kp4 (kp E))⟩
     ·intro e L tm hJ
      rcases r3 with r4|u0
      ·dsimp only at h hJ
       obtain⟨rfl,om,rfl,rfl⟩:=hJ
       refine⟨(by intro hc;cases hc),?_⟩
       refine ae (ab ?_)
       obtain rfl:=sI h
       exact am (.inl E) E (rVt (v:=vI r4.1) E) (fun W2 w=>⟨E,w.none⟩)
      ·dsimp only at h hJ
       obtain⟨rfl,ot,rfl,rfl⟩:=hJ
       refine⟨(by intro hc;cases hc),?_⟩
       refine ac (eT (cS (cR (oY E (yAI E) (oN (eT (ap ?_)))))))
       obtain rfl:=sI h
       exact am (.inl E) E (rVt (v:=vI 0) E) (fun W2 w=>⟨E,w.none⟩)
theorem calxlaw05_CartFronts_ok (p0:TR) (p1:Int) (p2:Int) (p3:Int) (p4:(List TJ)) (p5:TTimes) (res:Bool) (h:dI p0 p1 p2 p3 p4 p5=some res) (W:World) (Ab:Option Addr) (q cb:Nat) (K:List (Hd × TT)) (fD:q=p0.fTracks.length) (Q:Rd W Ab q cb (encL TTrack_cells2 K)) (U:NestW W (fun z:TT=>z.fK) TSpan_cells K p0.fTracks) (u:Option Addr) (n D:Nat) (w:List (Hd × TJ)) (fG:n=p4.length) (V:Rd W u n D (encL TJourney_cells2 w)) (N:NestW W (fun z:TJ=>z.fLegs) TLeg_cells w p4) (F:Option Addr) (l G:Nat) (Y:List (Hd × (List Int))) (fT:l=p5.fH.length) (S:Rd W F l G (encL SlInt_cells2 Y)) (R:NestW W (fun z:(List Int)=>z) cI Y p5.fH) :
  Calls Tryz.prog 14 [.agg #[vI p0.fPlaces,.slice Ab q cb],vI p1,vI p2,vI p3,.slice u n D,.agg #[.slice F l G]].toArray W fun e W2=>e=.returned (.bool res)∧Ext W W2 []:=by
 subst fD
 subst fG
 subst fT
 unfold dI at h
 refine aj (m:=101) Tryz.func14 E E (nB E) (cS (cR ?_))
 refine aN [vI p0.fPlaces,.slice Ab p0.fTracks.length cb] E E E (fun b1=>?_)
 refine aN [.slice F p5.fH.length G] E E E (fun b2=>?_)
 refine oY E (yAB E) (oN (eT (cS (cS (cR (oY E (yN 0 [vI p0.fPlaces,.slice Ab p0.fTracks.length cb] dG E E E) ?_))))))
 obtain⟨y3,r2,h⟩:=bOs h
 refine oY E (yC [.agg #[vI p0.fPlaces,.slice Ab p0.fTracks.length cb]] go_16 E (fun W2 g=>n5 p0 y3 r2 W2 Ab p0.fTracks.length cb K E ((RdL.arg Q) W2 g) (NestL.at (NestL.arg U) W2 g)) E) (oY E (bD E) (oY E (yMB E) ?_))
 refine oJ 4 (fun r=>(upd (upd (upd (upd (upd (upd (upd (upd r 1 (vI p1)) 2 (vI p2)) 3 (vI p3)) 4 (.slice u p4.length D)) 6 (.pointer (some ⟨b1,0,none⟩))) 11 (.pointer (some ⟨b2,0,none⟩))) 12 (.bool false)) 24 (.bool ((!y3)||(decide (20<(p4.length:Int))))))) (fun r=>?_) (fun key=>?_)
 ·refine oY E (yMB E) ?_
  obtain⟨b7,r3,h⟩:=bOs h
  refine oJ 4 (fun r=>(upd (upd (upd (upd (upd (upd (upd (upd r 1 (vI p1)) 2 (vI p2)) 3 (vI p3)) 4 (.slice u p4.length D)) 6 (.pointer (some ⟨b1,0,none⟩))) 11 (.pointer (some ⟨b2,0,none⟩))) 12 (.bool false)) 29 (.bool b7))) (fun r=>?_) (fun key=>?_)
  ·refine oN (eT ?_)
   rcases iOs h with⟨fR,h⟩|⟨fR,h⟩
   ·refine cT (vB fR) (cS (cR ?_))
    obtain⟨fn,fl,h⟩:=bOs h
    refine oY E (yC [] go_17 E (fun W2 g=>ge  fn fl W2 ) E) (oY E (yAB E) (oN (eT (ap (ab ?_)))))
    obtain rfl:=sI h
    exact am (.inl E) E (rVt (v:=.bool fn) E) (fun W2 g=>⟨E,g.none⟩)
   ·refine cF (vB fR) (cK (eT (cS (cS (cR (oY E (yAI E) (oN (eT (cB ?_)))))))))
    obtain⟨r4,ft,h⟩:=bOs h
    refine a8 (fun(s:(Bool × Int)) L tm=>∃(r:Nat→Value),L=[ak b1 24 [vI p0.fPlaces,.slice Ab p0.fTracks.length cb],ak b2 87 [.slice F p5.fH.length G]]∧tm=(upd (upd (upd (upd (upd (upd (upd (upd r 1 (vI p1)) 2 (vI p2)) 3 (vI p3)) 4 (.slice u p4.length D)) 6 (.pointer (some ⟨b1,0,none⟩))) 11 (.pointer (some ⟨b2,0,none⟩))) 12 (.bool s.1)) 13 (vI s.2))) 0 ft ⟨_,E,(kp4 (kp4 E))⟩ ?_ ?_
    ·rintro I L tm st ⟨g1,rfl,rfl⟩ h
     unfold cH at h
     refine cS (cS (cR (oY E (yMI E) (oY E (yMS E) (oY E (bi (us:=[]) kg E) (oY E (be E E) (oN (eT ?_))))))))
     rcases iOs h with⟨t,h⟩|⟨t,h⟩
     ·refine cT (vB t) (cK (eT (cS (cB (cS (cR (oY E (yMS E) (oY E (yMI E) ?_))))))))
      obtain⟨X,h⟩:=gOs h
      refine oY E (yI gH (by decide) X.1 X.2 (RdL.arg V) (eL aq (NestP.hn N.p E)) E E) ?_
      refine oY E (yM (A:=u) (j:=(Int.toNat I.2*3)) [.slice ((rdL w I.2).1.1) ((rdL p4 I.2).fLegs.length) ((rdL w I.2).1.2.2),vI ((rdL p4 I.2).fA),vI ((rdL p4 I.2).fToll)] lX (Nat.succ_pos _) (RdL.arg V) E (fN (cA (NestP.snd N.p I.2) (NestP.len N.p X.1 (ah X.2 E))).symm (bc aq X.1 (ah X.2 (NestP.hn N.p E))))) ?_
      obtain⟨r5,g2,h⟩:=bOs h
      refine oY E (yC [.agg #[.slice ((rdL w I.2).1.1) ((rdL p4 I.2).fLegs.length) ((rdL w I.2).1.2.2),vI ((rdL p4 I.2).fA),vI ((rdL p4 I.2).fToll)]] go_47 E (fun W2 g=>mJ (TJ.mk ((rdL p4 I.2).fLegs) ((rdL p4 I.2).fA) ((rdL p4 I.2).fToll)) r5 g2 W2 ((rdL w I.2).1.1) ((rdL p4 I.2).fLegs.length) ((rdL w I.2).1.2.2) E ((NestL.rd (NestL.arg N) X.1 (ah X.2 E)) W2 g)) E) (oY E (bD E) (oN (eT ?_)))
      rcases iOs h with⟨a,h⟩|⟨a,h⟩
      ·refine cT (vB a) (cS (cR ?_))
       obtain⟨ri,g3,h⟩:=bOs h
       refine oY E (yC [] go_17 E (fun W2 g=>ge  ri g3 W2 ) E) (oY E (yAB E) (oN (eT (ap (ae (ab ?_))))))
       obtain rfl:=sI h
       exact av ⟨E,_,E,(kp4 (kp4 E))⟩
      ·refine cF (vB a) (cK (aw (eT (cR (oY E (yMI E) (oY E (aL E E) (oY E (yAI E) (oN ?_))))))))
       obtain rfl:=sI h
       exact eN ⟨_,E,(kp4 (kp4 E))⟩
     ·refine cF (vB t) (aD (ai ?_))
      obtain rfl:=sI h
      exact av ⟨E,_,E,(kp4 (kp4 E))⟩
    ·intro e L tm hJ
     rcases r4 with rj|k
     ·dsimp only at h hJ
      obtain⟨rfl,g4,rfl,rfl⟩:=hJ
      refine⟨(by intro hc;cases hc),?_⟩
      refine ae (ab ?_)
      obtain rfl:=sI h
      exact am (.inl E) E (rVt (v:=.bool rj.1) E) (fun W2 g=>⟨E,g.none⟩)
     ·dsimp only at h hJ
      obtain⟨rfl,gf,rfl,rfl⟩:=hJ
      refine⟨(by intro hc;cases hc),?_⟩
      refine ac (eT (cS (cR (oY E (yN 0 [vI p0.fPlaces,.slice Ab p0.fTracks.length cb] dG E E E) (oY E (yMI E) (oY E (yMI E) (oY E (yMI E) ?_)))))))
      obtain⟨O,go,h⟩:=bOs h
      refine oC [.agg #[vI p0.fPlaces,.slice Ab p0.fTracks.length cb],vI p1,vI p2,vI p3] _ _ _ E go_61 E (fun W2 g=>mU p0 p1 p2 p3 O go W2 Ab p0.fTracks.length cb K E ((RdL.arg Q) W2 g) (NestL.at (NestL.arg U) W2 g) W (fun _=>True) (fun W3 hb=>⟨fY g.below hb,trivial⟩) ) ?_
      rintro⟨⟨f1,rx,f2⟩,o0,F35⟩ ⟨x,o1,o2⟩
      replace x:rx=O.1.length:=x;subst x
      refine oY E (aY E) (oY E (yE E E) (oY E (yE E E) (oY E (yAS E) (oY E (yAI E) (oN (eT (cS (cR (oY E (yN 0 [vI p0.fPlaces,.slice Ab p0.fTracks.length cb] dG E E E) (oY E (yMI E) (oY E (yMI E) (oY E (yMI E) ?_))))))))))))
      obtain⟨y,oX,h⟩:=bOs h
      refine oC [.agg #[vI p0.fPlaces,.slice Ab p0.fTracks.length cb],vI p1,vI p2,vI p3] _ _ _ E go_62 E (fun W2 g=>pP p0 p1 p2 p3 y oX W2 Ab p0.fTracks.length cb K E ((RdL.arg Q) W2 g) (NestL.at (NestL.arg U) W2 g)) ?_
      rintro⟨u0,u1,u2⟩ b
      replace b:u1=y.fL.length:=b;subst b
      refine aF tj E (fun uf=>?_)
      try dsimp only[lna,lca,lsz,lss]
      refine cy E (yS 5 [.slice u0 y.fL.length u2,vI y.fE] sz_111 E (nB E) E E E) (oN (eT (cS (cS (cR (oY E (yMI E) (oY E (yFA fo_111_1 E) (oY E (yL 5 sc_30 E E E) (oY E (cJ E E) (oY E (yMB E) ?_))))))))))
      obtain⟨f3,oq,h⟩:=bOs h
      refine oJ 12 (fun r=>(upd (upd (upd (upd (upd (upd (upd (upd (upd (upd r 1 (vI p1)) 2 (vI p2)) 3 (vI p3)) 4 (.slice u p4.length D)) 6 (.pointer (some ⟨b1,0,none⟩))) 11 (.pointer (some ⟨b2,0,none⟩))) 12 (.bool k.1)) 14 (.slice f1 O.1.length f2)) 15 (vI O.2)) 73 (.bool f3))) (fun r=>?_) (fun key=>?_)
      ·refine oY E (yMB E) ?_
       refine oJ 8 (fun r=>(upd (upd (upd (upd (upd (upd (upd (upd r 1 (vI p1)) 2 (vI p2)) 3 (vI p3)) 4 (.slice u p4.length D)) 6 (.pointer (some ⟨b1,0,none⟩))) 11 (.pointer (some ⟨b2,0,none⟩))) 12 (.bool k.1)) 82 (.bool (f3||((O.2 !=0)&&(decide (0<(O.1.length:Int)))))))) (fun r=>?_) (fun key=>?_)
       ·refine oN (eT ?_)
        rcases iOs h with⟨c,h⟩|⟨c,h⟩
        ·refine cT (vB c) (cS (cR (oY E (yAB E) (oN (eT (ap (ab ?_)))))))
         obtain rfl:=sI h
         exact am (.inl E) E (rVt (v:=.bool false) E) (fun W2 g=>⟨E,g.none⟩)
        ·refine cF (vB c) (cK (eT (cS ?_)))
         refine aS 19 bW (by kernel_rfl) (by kernel_rfl) ?_
         obtain⟨u3,op,h⟩:=bOs h
         refine qY E (yC [] go_17 E (fun W2 g=>ge  u3 op W2 ) E) (qY E (yMB E) ?_)
         obtain⟨om,ot,h⟩:=bOs h
         refine qJ 16 (fun r=>(upd (upd r 12 (.bool k.1)) 100 (.bool om))) (fun r=>?_) (fun key=>?_)
         ·refine qY E (yAB E) (bF (oN (eT (ap ?_))))
          obtain rfl:=sI h
          exact am (.inl E) E (rVt (v:=.bool om) E) (fun W2 g=>⟨E,g.none⟩)
         ·clear h;rcases iOs ot with⟨f,h⟩|⟨f,h⟩
          ·refine qY (sT E E E E f) (yN 0 [vI p0.fPlaces,.slice Ab p0.fTracks.length cb] dG E E E) (qY (sT E E E E f) (yMI E) (qY (sT E E E E f) (yMI E) (qY (sT E E E E f) (yMI E) (qY (sT E E E E f) (yMS E) (qY (sT E E E E f) (yN 1 [.slice F p5.fH.length G] r6 E E E) ?_)))))
           obtain⟨u4,oa,h⟩:=bOs h
           refine qY (sT E E E E f) (yC [.agg #[vI p0.fPlaces,.slice Ab p0.fTracks.length cb],vI p1,vI p2,vI p3,.slice u p4.length D,.agg #[.slice F p5.fH.length G]] go_64 E (fun W2 g=>mC p0 p1 p2 p3 p4 p5 u4 oa W2 Ab p0.fTracks.length cb K E ((RdL.arg Q) W2 g) (NestL.at (NestL.arg U) W2 g) u p4.length D w E ((RdL.arg V) W2 g) (NestL.at (NestL.arg N) W2 g) F p5.fH.length G Y E ((RdL.arg S) W2 g) (NestL.at (NestL.arg R) W2 g)) E) (qY (sT E E E E f) (yN 0 [vI p0.fPlaces,.slice Ab p0.fTracks.length cb] dG E E E) (qY (sT E E E E f) (yMI E) (qY (sT E E E E f) (yMI E) (qY (sT E E E E f) (yMI E) (qY (sT E E E E f) (yMS E) (qY (sT E E E E f) (yN 1 [.slice F p5.fH.length G] r6 E E E) ?_))))))
           obtain⟨u5,oi,h⟩:=bOs h
           refine qY (sT E E E E f) (yC [.agg #[vI p0.fPlaces,.slice Ab p0.fTracks.length cb],vI p1,vI p2,vI p3,.slice u p4.length D,.agg #[.slice F p5.fH.length G]] go_65 E (fun W2 g=>mp p0 p1 p2 p3 p4 p5 u5 oi W2 Ab p0.fTracks.length cb K E ((RdL.arg Q) W2 g) (NestL.at (NestL.arg U) W2 g) u p4.length D w E ((RdL.arg V) W2 g) (NestL.at (NestL.arg N) W2 g) F p5.fH.length G Y E ((RdL.arg S) W2 g) (NestL.at (NestL.arg R) W2 g)) E) (qY (sT E E E E f) (cZ E E) (qY E (ad (vB f) E) ?_))
           obtain rfl:=sI h
           exact key _ _ (kp (kp E))
          ·refine aa (sF E E E E f) (aa (sF E E E E f) (aa (sF E E E E f) (aa (sF E E E E f) (aa (sF E E E E f) (aa (sF E E E E f) (aa (sF E E E E f) (aa (sF E E E E f) (aa (sF E E E E f) (aa (sF E E E E f) (aa (sF E E E E f) (aa (sF E E E E f) (aa (sF E E E E f) (aa (sF E E E E f) (aa (sF E E E E f) (qY E (ag (vB f) E) ?_)))))))))))))))
           obtain rfl:=sI h
           exact key _ _ (kp (kp E))
       ·rcases ar f3 with d|d
        ·refine oSk (sF E E E E d) (oSk (sF E E E E d) (oSk (sF E E E E d) (oSk E (oSk E (oSk E (oSk (sF E E E E d) (oY E (ad (vB d) E) ?_)))))))
         exact key _ _ (keep (keep (keep (keep (keep (keep (keep (keep E E) E) E) E) E) E) E) (vB (iQ d)))
        ·refine oY (sT E E E E d) (yMI E) (oY (sT E E E E d) (cJ E E) (oY (sT E E E E d) (yMB E) ?_))
         refine oJ 4 (fun r=>(upd (upd (upd (upd (upd (upd (upd (upd (upd r 1 (vI p1)) 2 (vI p2)) 3 (vI p3)) 4 (.slice u p4.length D)) 6 (.pointer (some ⟨b1,0,none⟩))) 11 (.pointer (some ⟨b2,0,none⟩))) 12 (.bool k.1)) 74 (.bool f3)) 81 (.bool ((O.2 !=0)&&(decide (0<(O.1.length:Int))))))) (fun r=>?_) (fun key=>?_)
         ·refine oY E (ag (vB d) E) ?_
          exact key _ _ (keep (keep (keep (keep (keep (keep (keep (keep E E) E) E) E) E) E) E) (vB (iR d)))
         ·rcases ar (O.2 !=0)with M|M
          ·refine oY (sT E E E E M) (yMS E) (oY (sT E E E E M) (bi (us:=[]) kg E) (oY (sT E E E E M) (eu E E) (oY (sT E E E E d) (ad (vB M) E) ?_)))
           exact key _ _ (keep (keep (keep (keep (keep (keep (keep (keep (keep E E) E) E) E) E) E) E) E) (vB (fF M)))
          ·refine oSk (sF E E E E M) (oSk (sF E E E E M) (oSk (sF E E E E M) (oY (sT E E E E d) (ag (vB M) E) ?_)))
           exact key _ _ (keep (keep (keep (keep (keep (keep (keep (keep (keep E E) E) E) E) E) E) E) E) (vB (fy M)))
      ·clear h;rcases iOs oq with⟨H,h⟩|⟨H,h⟩
       ·refine oSk (sF E E E E H) (oSk (sF E E E E H) (oSk (sF E E E E H) (oSk E (oSk E (oSk E (oSk E (oSk E (oSk E (oSk E (oSk (sF E E E E H) (oY E (ad (vB H) E) ?_)))))))))))
        obtain rfl:=sI h
        exact key _ _ (kp4 (kp4 (kp (kp E))))
       ·refine oY (sT E E E E H) (yMI E) (oY (sT E E E E H) (cZ E E) (oY (sT E E E E H) (yMB E) ?_))
        obtain⟨u6,oj,h⟩:=bOs h
        refine oJ 8 (fun r=>(upd (upd (upd (upd (upd (upd (upd (upd (upd (upd (upd r 1 (vI p1)) 2 (vI p2)) 3 (vI p3)) 4 (.slice u p4.length D)) 6 (.pointer (some ⟨b1,0,none⟩))) 11 (.pointer (some ⟨b2,0,none⟩))) 12 (.bool k.1)) 14 (.slice f1 O.1.length f2)) 15 (vI O.2)) 61 (.bool (O.2 !=y.fE))) 72 (.bool u6))) (fun r=>?_) (fun key=>?_)
        ·refine oY E (ag (vB H) E) ?_
         obtain rfl:=sI h
         exact key _ _ (kp4 (kp4 (kp (kp E))))
        ·clear h;rcases iOs oj with⟨o,h⟩|⟨o,h⟩
         ·refine oY (sT E E E E o) (yN 0 [vI p0.fPlaces,.slice Ab p0.fTracks.length cb] dG E E E) (oY (sT E E E E o) (yMI E) (oY (sT E E E E o) (yMI E) (oY (sT E E E E o) (yMI E) (oY (sT E E E E o) (yMS E) ?_))))
          obtain⟨u7,ok,h⟩:=bOs h
          refine oY (sT E E E E o) (yC [.agg #[vI p0.fPlaces,.slice Ab p0.fTracks.length cb],vI p1,vI p2,vI p3,.slice f1 O.1.length f2] go_63 E (fun W2 g=>n2 p0 p1 p2 p3 O.1 u7 ok W2 Ab p0.fTracks.length cb K E ((RdL.arg Q) W2 g) (NestL.at (NestL.arg U) W2 g) f1 O.1.length f2 o0 E ((RdL.row 2 E) W2 g) (NestL.at (PvL.nestL o1 o2 (fun W2 g=>⟨g.below,trivial,g.mem (i:=3) E⟩)) W2 g)) E) (oY (sT E E E E o) (bD E) (oY (sT E E E E H) (ad (vB o) E) ?_))
          obtain rfl:=sI h
          exact key _ _ (kp4 (kp4 (kp (kp (kp E)))))
         ·refine oSk (sF E E E E o) (oSk (sF E E E E o) (oSk (sF E E E E o) (oSk (sF E E E E o) (oSk (sF E E E E o) (oSk (sF E E E E o) (oSk (sF E E E E o) (oY (sT E E E E H) (ag (vB o) E) ?_)))))))
          obtain rfl:=sI h
          exact key _ _ (kp4 (kp4 (kp (kp (kp E)))))
  ·clear h;rcases iOs r3 with⟨T,h⟩|⟨T,h⟩
   ·refine oSk (sF E E E E T) (oSk (sF E E E E T) (oSk (sF E E E E T) (oY E (ad (vB T) E) ?_)))
    obtain rfl:=sI h
    exact key _ _ (kp4 (kp4 E))
   ·refine oY (sT E E E E T) (yN 1 [.slice F p5.fH.length G] r6 E E E) ?_
    obtain⟨u8,r0,h⟩:=bOs h
    refine oY (sT E E E E T) (yC [.agg #[.slice F p5.fH.length G]] go_48 E (fun W2 g=>nu p5 u8 r0 W2 F p5.fH.length G Y E ((RdL.arg S) W2 g) (NestL.at (NestL.arg R) W2 g)) E) (oY (sT E E E E T) (bD E) (oY E (ag (vB T) E) ?_))
    obtain rfl:=sI h
    exact key _ _ (kp4 (kp4 E))
 ·rcases ar (!y3)with Z|Z
  ·refine oSk (sF E E E E Z) (oSk (sF E E E E Z) (oSk (sF E E E E Z) (oY E (ad (vB Z) E) ?_)))
   exact key _ _ (keep (keep (keep (keep (keep (keep (keep (keep E E) E) E) E) E) E) E) (vB (iQ Z)))
  ·refine oY (sT E E E E Z) (yMS E) (oY (sT E E E E Z) (bi (us:=[]) kg E) (oY (sT E E E E Z) (eu E E) (oY E (ag (vB Z) E) ?_)))
   exact key _ _ (keep (keep (keep (keep (keep (keep (keep (keep E E) E) E) E) E) E) E) (vB (iR Z)))
end Go.Proofs.YthndghnkebboaaaGreat
