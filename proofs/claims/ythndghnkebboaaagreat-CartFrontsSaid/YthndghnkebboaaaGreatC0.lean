import Derived.Test.YthndghnkebboaaaGreatF
import Derived.Test.YthndghnkebboaaaGreatGF
import Derived.Test.YthndghnkebboaaaGreatGy
import Derived.Test.YthndghnkebboaaaGreatGz
set_option maxHeartbeats 4000000
set_option maxRecDepth 100000
set_option linter.unusedVariables false
namespace Go.Proofs.YthndghnkebboaaaGreat
open Go.RowKit (Below)
attribute [local irreducible] OX QX CX EX OpY Calls CallsIn
theorem bk (p0:Int) (p1:Int) (p2:Int) (res:Bool) (h:bq p0 p1 p2=some res) (W:World)  :
  Calls Tryz.prog 107 [vI p0,vI p1,vI p2].toArray W fun e W2=>e=.returned (.bool res)∧Ext W W2 []:=by
 unfold bq at h
 refine aj (m:=15) Tryz.func107 E E (nB E) (cS (cR (oY E (yAB E) (oN (eT (cS (cR (oY E (yMI E) (oY E (yMI E) (oY E (gV E E) (oY E (yMB E) ?_)))))))))))
 refine oJ 4 (fun g=>(upd (upd g 6 (.bool false)) 14 (.bool ((decide (p1≤p0))&&(decide (p0≤p2)))))) (fun g=>?_) (fun key=>?_)
 ·refine oY E (yAB E) (oN (eT (ap ?_)))
  obtain rfl:=sI h
  exact am (.inl E) E (rVt (v:=.bool ((decide (p1≤p0))&&(decide (p0≤p2)))) E) (fun W2 o=>⟨E,o.none⟩)
 ·rcases ar (decide (p1≤p0))with f|f
  ·refine oY (sT E E E E f) (yMI E) (oY (sT E E E E f) (yMI E) (oY (sT E E E E f) (gV E E) (oY E (ad (vB f) E) ?_)))
   exact key _ _ (keep (keep E E) (vB (fF f)))
  ·refine oSk (sF E E E E f) (oSk (sF E E E E f) (oSk (sF E E E E f) (oY E (ag (vB f) E) ?_)))
   exact key _ _ (keep (keep E E) (vB (fy f)))
theorem cL (p0:Int) (res:Bool) (h:dq p0=some res) (W:World)  :
  Calls Tryz.prog 108 [vI p0].toArray W fun e W2=>e=.returned (.bool res)∧Ext W W2 []:=by
 unfold dq at h
 refine aj (m:=5) Tryz.func108 E E (nB E) (cS (cR (oY E (yAB E) (oN (eT (cS (cR (oY E (yMI E) ?_))))))))
 obtain⟨o,g,h⟩:=bOs h
 refine oY E (yC [vI p0,vI 0,vI 16384] iF E (fun W2 f=>bk p0 0 16384 o g W2 ) E) (oY E (yAB E) (oN (eT (ap ?_))))
 obtain rfl:=sI h
 exact am (.inl E) E (rVt (v:=.bool o) E) (fun W2 f=>⟨E,f.none⟩)
theorem l7 (p0:(List TSpan)) (res:Bool) (h:gX p0=some res) (W:World) (Aa:Option Addr) (u ca:Nat) (D:u=p0.length) (d:Rd W Aa u ca (encL TSpan_cells p0)) :
  Calls Tryz.prog 122 [.slice Aa u ca].toArray W fun e W2=>e=.returned (.bool res)∧Ext W W2 []:=by
 subst D
 unfold gX at h
 refine aj (m:=35) Tryz.func122 E E (nB E) (cS (cR (oY E (yAB E) (oN (eT (cS (cR (oY E (yAI E) (oN (eT (cS (cS (cR (oY E (yMS E) (oY E (bi (us:=[]) mY E) (oY E (yMI E) (oN (eT (cB ?_)))))))))))))))))))
 obtain⟨U,I,h⟩:=bOs h
 refine a8 (fun(s:(Bool × Int × Int)) L tm=>∃(r:Nat→Value),L=[]∧tm=(upd (upd (upd (upd (upd (upd r 0 (.slice Aa p0.length ca)) 2 (.bool s.1)) 3 (vI s.2.1)) 6 (.slice Aa p0.length ca)) 7 (vI (p0.length:Int))) 8 (vI s.2.2))) 0 I ⟨_,E,(kp4 (kp (kp E)))⟩ ?_ ?_
 ·rintro g L tm st ⟨N,rfl,rfl⟩ h
  unfold fU at h
  refine cS (cR (oY E (be E E) (oN (eT (cS ?_)))))
  rcases iOs h with⟨F,h⟩|⟨F,h⟩
  ·refine cT (vB F) (cK (eT (cS (cB (cS (cR ?_))))))
   obtain⟨w,h⟩:=gOs h
   refine oY E (yI kk (by decide) w.1 w.2 (RdL.arg d) (eL aG E) E E) ?_
   refine oY E (yM (A:=Aa) (j:=(Int.toNat g.2.2*2)) [vI ((rdL p0 g.2.2).fLo),vI ((rdL p0 g.2.2).fHi)] ag_63 (Nat.succ_pos _) (RdL.arg d) E (bc aG w.1 (ah w.2 E))) ?_
   refine aF si E (fun Q=>?_)
   refine cy E (yS 0 [vI ((rdL p0 g.2.2).fLo),vI ((rdL p0 g.2.2).fHi)] sz_63 E (nB E) E E E) (oN (eT (cS (cS (cR (oY E (yFA gK E) (oY E (yL 0 aK E E E) (oY E (yMI E) (oY E (aL E E) (oY E (be E E) (oY E (yMB E) ?_)))))))))))
   refine oJ 6 (fun r=>(upd (upd (upd (upd (upd (upd (upd (upd (upd r 0 (.slice Aa p0.length ca)) 2 (.bool g.1)) 3 (vI g.2.1)) 6 (.slice Aa p0.length ca)) 7 (vI (p0.length:Int))) 8 (vI g.2.2)) 9 (.bool (decide (g.2.2<(p0.length:Int))))) 5 (.pointer (some ⟨Q,0,none⟩))) 23 (.bool ((decide ((rdL p0 g.2.2).fLo<w64 (g.2.1+2)))||(decide ((rdL p0 g.2.2).fHi<(rdL p0 g.2.2).fLo)))))) (fun r=>?_) (fun key=>?_)
   ·refine oY E (yMB E) ?_
    refine oJ 4 (fun r=>(upd (upd (upd (upd (upd (upd (upd (upd (upd r 0 (.slice Aa p0.length ca)) 2 (.bool g.1)) 3 (vI g.2.1)) 6 (.slice Aa p0.length ca)) 7 (vI (p0.length:Int))) 8 (vI g.2.2)) 9 (.bool (decide (g.2.2<(p0.length:Int))))) 5 (.pointer (some ⟨Q,0,none⟩))) 28 (.bool (((decide ((rdL p0 g.2.2).fLo<w64 (g.2.1+2)))||(decide ((rdL p0 g.2.2).fHi<(rdL p0 g.2.2).fLo)))||(decide (16384<(rdL p0 g.2.2).fHi)))))) (fun r=>?_) (fun key=>?_)
    ·refine oN (eT ?_)
     rcases iOs h with⟨G,h⟩|⟨G,h⟩
     ·refine cT (vB G) (cS (cR (oY E (yAB E) (oN (eT (ap (ab (ae (ab (aQ 0 ?_))))))))))
      obtain rfl:=sI h
      exact av ⟨E,_,E,(kp4 (kp (kp E)))⟩
     ·refine cF (vB G) (cK (eT (cR (oY E (yFA fg E) (oY E (yL 0 aK E E E) (oY E (yAI E) (oN (aw (eT (cR (oY E (aL E E) (oY E (yMI E) (oN (aQ 0 ?_))))))))))))))
      obtain rfl:=sI h
      exact eN ⟨_,E,(kp4 (kp (kp E)))⟩
    ·rcases ar ((decide ((rdL p0 g.2.2).fLo<w64 (g.2.1+2)))||(decide ((rdL p0 g.2.2).fHi<(rdL p0 g.2.2).fLo)))with o|o
     ·refine oSk (sF E E E E o) (oSk (sF E E E E o) (oSk (sF E E E E o) (oY E (ad (vB o) E) ?_)))
      exact key _ _ (keep (keep (keep (keep (keep (keep (keep (keep (keep E E) E) E) E) E) E) E) E) (vB (iQ o)))
     ·refine oY (sT E E E E o) (yFA fg E) (oY (sT E E E E o) (yL 0 aK E E E) (oY (sT E E E E o) (eu E E) (oY E (ag (vB o) E) ?_)))
      exact key _ _ (keep (keep (keep (keep (keep (keep (keep (keep (keep E E) E) E) E) E) E) E) E) (vB (iR o)))
   ·rcases ar (decide ((rdL p0 g.2.2).fLo<w64 (g.2.1+2)))with f|f
    ·refine oSk (sF E E E E f) (oSk (sF E E E E f) (oSk (sF E E E E f) (oSk (sF E E E E f) (oSk (sF E E E E f) (oY E (ad (vB f) E) ?_)))))
     exact key _ _ (keep (keep (keep (keep (keep (keep (keep (keep (keep E E) E) E) E) E) E) E) E) (vB (iQ f)))
    ·refine oY (sT E E E E f) (yFA gK E) (oY (sT E E E E f) (yL 0 aK E E E) (oY (sT E E E E f) (yFA fg E) (oY (sT E E E E f) (yL 0 aK E E E) (oY (sT E E E E f) (eu E E) (oY E (ag (vB f) E) ?_)))))
     exact key _ _ (keep (keep (keep (keep (keep (keep (keep (keep (keep E E) E) E) E) E) E) E) E) (vB (iR f)))
  ·refine cF (vB F) (aD (ai ?_))
   obtain rfl:=sI h
   exact av ⟨E,_,E,(kp4 (kp (kp E)))⟩
 ·intro e L tm hJ
  rcases U with O|X
  ·dsimp only at h hJ
   obtain⟨rfl,K,rfl,rfl⟩:=hJ
   refine⟨(by intro hc;cases hc),?_⟩
   refine ae (ab ?_)
   obtain rfl:=sI h
   exact am (.inl E) E (rVt (v:=.bool O.1) E) (fun W2 H=>⟨E,H.none⟩)
  ·dsimp only at h hJ
   obtain⟨rfl,M,rfl,rfl⟩:=hJ
   refine⟨(by intro hc;cases hc),?_⟩
   refine ac (eT (cS (cR (oY E (yMS E) (oY E (bi (us:=[]) mY E) (oY E (gV E E) (oY E (yAB E) (oN (eT (ap ?_))))))))))
   obtain rfl:=sI h
   exact am (.inl E) E (rVt (v:=.bool (decide ((p0.length:Int)≤4))) E) (fun W2 H=>⟨E,H.none⟩)
theorem g6 (p0:(List TT)) (p1:TT→Option Bool) (res:Int) (h:bE p0 p1=some res) (W:World) (Aa:Option Addr) (d ca:Nat) (f:List (Hd × TT)) (D:d=p0.length) (w:Rd W Aa d ca (encL TTrack_cells2 f)) (o:NestW W (fun z:TT=>z.fK) TSpan_cells f p0) (fid1:Nat) (fst1 caps1:List Value) (H:bA Tryz.prog fid1=true) (I:∀W2,Below W.heap.size W W2→∀x,∀(hx:Hd),Rd W2 hx.1 x.fK.length hx.2.2 (encL TSpan_cells x.fK)→∀y,p1 x=some y→Calls Tryz.prog fid1 (fst1++(([.agg #[vI x.fID,vI x.fFrom,vI x.fTo,vI x.fLong,vI x.fToll,.slice hx.1 x.fK.length hx.2.2]]:List Value)++caps1)).toArray W2 fun e W3=>e=.returned (.bool y)∧Ext W2 W3 []) :
  Calls Tryz.prog 192 [.slice Aa d ca,.func (.func fid1) fst1.toArray caps1.toArray].toArray W fun e W2=>e=.returned (vI res)∧Ext W W2 []:=by
 subst D
 unfold bE at h
 refine aj (m:=19) Tryz.func192 E E (nB E) (cS (cR (oY E (yAI E) (oN (eT (cS (cS (cR (oY E (yMS E) (oY E (bi (us:=[]) i6 E) (oY E (yMI E) (oN (eT (cB ?_))))))))))))))
 obtain⟨Y,O,h⟩:=bOs h
 refine a8 (fun(s:(Int × Int)) L tm=>∃(Q:Nat→Value),L=[]∧tm=(upd (upd (upd (upd (upd Q 0 (.slice Aa p0.length ca)) 1 (.func (.func fid1) fst1.toArray caps1.toArray)) 4 (vI s.1)) 7 (vI (p0.length:Int))) 8 (vI s.2))) 0 O ⟨_,E,(kp4 (kp E))⟩ ?_ ?_
 ·rintro g L tm st ⟨N,rfl,rfl⟩ h
  unfold bl at h
  refine cS (cR (oY E (be E E) (oN (eT (cS ?_)))))
  rcases iOs h with⟨F,h⟩|⟨F,h⟩
  ·refine cT (vB F) (cK (eT (cS (cB (cS (cR (oY E (yMI E) (oY E (yAI E) (oN (eT (cS (cR (oY E (bK (v:=.func (.func fid1) fst1.toArray caps1.toArray) E) (oY E (yMS E) (oY E (yMI E) ?_)))))))))))))))
   obtain⟨r,h⟩:=gOs h
   refine oY E (yI jE (by decide) r.1 r.2 (RdL.arg w) (eL au (NestP.hn o.p E)) E E) ?_
   refine oY E (yM (A:=Aa) (j:=(Int.toNat g.2*6)) [vI ((rdL p0 g.2).fID),vI ((rdL p0 g.2).fFrom),vI ((rdL p0 g.2).fTo),vI ((rdL p0 g.2).fLong),vI ((rdL p0 g.2).fToll),.slice ((rdL f g.2).1.1) ((rdL p0 g.2).fK.length) ((rdL f g.2).1.2.2)] gS (Nat.succ_pos _) (RdL.arg w) E (fN (bI (NestP.snd o.p g.2) (NestP.len o.p r.1 (ah r.2 E))).symm (bc au r.1 (ah r.2 (NestP.hn o.p E))))) ?_
   obtain⟨Z,U,h⟩:=bOs h
   refine oY E (gx [.agg #[vI ((rdL p0 g.2).fID),vI ((rdL p0 g.2).fFrom),vI ((rdL p0 g.2).fTo),vI ((rdL p0 g.2).fLong),vI ((rdL p0 g.2).fToll),.slice ((rdL f g.2).1.1) ((rdL p0 g.2).fK.length) ((rdL f g.2).1.2.2)]] H E E (fun W2 u=>I W2 u.below (TT.mk ((rdL p0 g.2).fID) ((rdL p0 g.2).fFrom) ((rdL p0 g.2).fTo) ((rdL p0 g.2).fLong) ((rdL p0 g.2).fToll) ((rdL p0 g.2).fK)) ((rdL f g.2).1.1,0,(rdL f g.2).1.2.2) ((NestL.rd (NestL.arg o) r.1 (ah r.2 E)) W2 u) Z U)) (oN (eT ?_))
   rcases iOs h with⟨G,h⟩|⟨G,h⟩
   ·refine cT (vB G) (cS (cR (oY E (yMI E) (oY E (yAI E) (oN (eT (ap (ae (ab ?_)))))))))
    obtain rfl:=sI h
    exact av ⟨E,_,E,(kp4 (kp E))⟩
   ·refine cF (vB G) (cK (aw (eT (cR (oY E (aL E E) (oY E (yMI E) (oN ?_)))))))
    obtain rfl:=sI h
    exact eN ⟨_,E,(kp4 (kp E))⟩
  ·refine cF (vB F) (aD (ai ?_))
   obtain rfl:=sI h
   exact av ⟨E,_,E,(kp4 (kp E))⟩
 ·intro e L tm hJ
  rcases Y with X|V
  ·dsimp only at h hJ
   obtain⟨rfl,K,rfl,rfl⟩:=hJ
   refine⟨(by intro hc;cases hc),?_⟩
   refine ae (ab ?_)
   obtain rfl:=sI h
   exact am (.inl E) E (rVt (v:=vI X.1) E) (fun W2 u=>⟨E,u.none⟩)
  ·dsimp only at h hJ
   obtain⟨rfl,M,rfl,rfl⟩:=hJ
   refine⟨(by intro hc;cases hc),?_⟩
   refine ac (eT (cS (cR (oY E (yAI E) (oN (eT (ap ?_)))))))
   obtain rfl:=sI h
   exact am (.inl E) E (rVt (v:=vI (-1)) E) (fun W2 u=>⟨E,u.none⟩)
theorem iZ (p0:(List TT)) (p1:TT→Option Bool) (res:Int) (h:co p0 p1=some res) (W:World) (Aa:Option Addr) (g ca:Nat) (f:List (Hd × TT)) (r:g=p0.length) (u:Rd W Aa g ca (encL TTrack_cells2 f)) (d:NestW W (fun z:TT=>z.fK) TSpan_cells f p0) (fid1:Nat) (fst1 caps1:List Value) (w:bA Tryz.prog fid1=true) (D:∀W2,Below W.heap.size W W2→∀x,∀(hx:Hd),Rd W2 hx.1 x.fK.length hx.2.2 (encL TSpan_cells x.fK)→∀y,p1 x=some y→Calls Tryz.prog fid1 (fst1++(([.agg #[vI x.fID,vI x.fFrom,vI x.fTo,vI x.fLong,vI x.fToll,.slice hx.1 x.fK.length hx.2.2]]:List Value)++caps1)).toArray W2 fun e W3=>e=.returned (.bool y)∧Ext W2 W3 []) :
  Calls Tryz.prog 181 [.slice Aa g ca,.func (.func fid1) fst1.toArray caps1.toArray].toArray W fun e W2=>e=.returned (vI res)∧Ext W W2 []:=by
 subst r
 unfold co at h
 refine aj (m:=8) Tryz.func181 E E (nB E) (cS (cR (oY E (yAI E) (oN (eT (cS (cR (oY E (yMS E) (oY E (bK (v:=.func (.func fid1) fst1.toArray caps1.toArray) E) ?_)))))))))
 obtain⟨G,F,h⟩:=bOs h
 refine oY E (yC [.slice Aa p0.length ca,.func (.func fid1) fst1.toArray caps1.toArray] go_192 E (fun W2 o=>g6 p0 p1 G F W2 Aa p0.length ca f E ((RdL.arg u) W2 o) (NestL.at (NestL.arg d) W2 o) fid1 fst1 caps1 w (fun W3 hb=>D W3 (fY o.below hb))) E) (oY E (yAI E) (oN (eT (ap ?_))))
 obtain rfl:=sI h
 exact am (.inl E) E (rVt (v:=vI G) E) (fun W2 o=>⟨E,o.none⟩)
theorem oP (p0:TT) (f:Int) (res:Bool) (h:iz p0 f=some res) (W:World) (g:Option Addr) (o r:Nat) (u:o=p0.fK.length) (D:Rd W g o r (encL TSpan_cells p0.fK)) (d:Nat) (w:Rd W (some ⟨d,0,none⟩) 1 1 (cI f)) :
  Calls Tryz.prog 182 [.agg #[vI p0.fID,vI p0.fFrom,vI p0.fTo,vI p0.fLong,vI p0.fToll,.slice g o r],.pointer (some ⟨d,0,none⟩)].toArray W fun e W2=>e=.returned (.bool res)∧Ext W W2 []:=by
 subst u
 unfold iz at h
 refine aj (m:=8) Tryz.func182 E E (nB E) (cS (cR ?_))
 refine aN [vI p0.fID,vI p0.fFrom,vI p0.fTo,vI p0.fLong,vI p0.fToll,.slice g p0.fK.length r] E E E (fun G=>?_)
 refine oY E (yAB E) (oN (eT (cS (cR (oY E (yFA iU E) (oY E (yL 0 aK E E E) (oY E (yR (A:=(some ⟨d,0,none⟩)) (j:=0) (v:=vI f) aK (RdL.arg w) E E) (oY E (cZ E E) (oY E (yAB E) (oN (eT (ap ?_))))))))))))
 obtain rfl:=sI h
 exact am (.inl E) E (rVt (v:=.bool (p0.fID==f)) E) (fun W2 F=>⟨E,F.none⟩)
theorem m4 (p0:TR) (p1:Int) (res:Int) (h:jg p0 p1=some res) (W:World) (Ab:Option Addr) (g cb:Nat) (f:List (Hd × TT)) (r:g=p0.fTracks.length) (u:Rd W Ab g cb (encL TTrack_cells2 f)) (d:NestW W (fun z:TT=>z.fK) TSpan_cells f p0.fTracks) :
  Calls Tryz.prog 155 [.agg #[vI p0.fPlaces,.slice Ab g cb],vI p1].toArray W fun e W2=>e=.returned (vI res)∧Ext W W2 []:=by
 subst r
 unfold jg at h
 refine aj (m:=9) Tryz.func155 E E (nB E) (cS (cR ?_))
 refine aN [vI p0.fPlaces,.slice Ab p0.fTracks.length cb] E E E (fun H=>?_)
 refine aN [vI p1] E E E (fun w=>?_)
 refine oY E (yAI E) (oN (eT (cS (cR (oY E (yFA bU E) (oY E (yL 0 gv E E E) (oY E (bZ [.pointer (some ⟨w,0,none⟩)] E E) ?_)))))))
 obtain⟨F,D,h⟩:=bOs h
 refine oY E (yC [.slice Ab p0.fTracks.length cb,.func (.func 182) #[] #[.pointer (some ⟨w,0,none⟩)]] go_181 E (fun W2 o=>iZ p0.fTracks (fun G=>iz G p1) F D W2 Ab p0.fTracks.length cb f E ((RdL.arg u) W2 o) (NestL.at (NestL.arg d) W2 o) 182 [] [.pointer (some ⟨w,0,none⟩)] go_182 (fun W3 hb x hx rx y hxy=>oP  x p1 y hxy W3 hx.1 _ hx.2.2 E rx w (((RdL.cells 1 E) W2 o).later hb))) E) (oY E (yAI E) (oN (eT (ap ?_))))
 obtain rfl:=sI h
 exact am (.inl E) E (rVt (v:=vI F) E) (fun W2 o=>⟨E,o.none⟩)
theorem lh (p0:Int) (f:TR) (res:Bool) (h:iC p0 f=some res) (W:World) (w:Nat) (r:Option Addr) (g u:Nat) (o:List (Hd × TT)) (d:g=f.fTracks.length) (F:Rd W r g u (encL TTrack_cells2 o)) (G:NestW W (fun z:TT=>z.fK) TSpan_cells o f.fTracks) (D:Rd W (some ⟨w,0,none⟩) 1 1 [vI f.fPlaces,.slice r g u]) :
  Calls Tryz.prog 159 [vI p0,.pointer (some ⟨w,0,none⟩)].toArray W fun e W2=>e=.returned (.bool res)∧Ext W W2 []:=by
 subst d
 unfold iC at h
 refine aj (m:=9) Tryz.func159 E E (nB E) (cS (cR (oY E (yAB E) (oN (eT (cS (cR (oY E (yMI E) (oY E (yFR (A:=(some ⟨w,0,none⟩)) (j:=0) dW E) (oY E (yR (A:=(some ⟨w,0,none⟩)) (j:=(0+0)) (v:=vI f.fPlaces) aK (RdL.arg D) E E) (oY E (ex E E) ?_)))))))))))
 obtain⟨K,I,h⟩:=bOs h
 refine oY E (yC [vI p0,vI 0,vI (w64 (f.fPlaces-1))] iF E (fun W2 H=>bk p0 0 (w64 (f.fPlaces-1)) K I W2 ) E) (oY E (yAB E) (oN (eT (ap ?_))))
 obtain rfl:=sI h
 exact am (.inl E) E (rVt (v:=.bool K) E) (fun W2 H=>⟨E,H.none⟩)
theorem qx (p0:TR) (res:Int) (h:jY p0=some res) (W:World) (Ab:Option Addr) (O cb:Nat) (g:List (Hd × TT)) (X:O=p0.fTracks.length) (K:Rd W Ab O cb (encL TTrack_cells2 g)) (D:NestW W (fun z:TT=>z.fK) TSpan_cells g p0.fTracks) :
  Calls Tryz.prog 124 [.agg #[vI p0.fPlaces,.slice Ab O cb]].toArray W fun e W2=>e=.returned (vI res)∧Ext W W2 []:=by
 subst X
 unfold jY at h
 refine aj (m:=73) Tryz.func124 E E (nB E) (cS (cR ?_))
 refine aN [vI p0.fPlaces,.slice Ab p0.fTracks.length cb] E E E (fun M=>?_)
 refine oY E (yAI E) (oN (eT (cS (cS (cR (oY E (yFA dW E) (oY E (yL 0 aK E E E) ?_)))))))
 obtain⟨y2,fr,h⟩:=bOs h
 refine oY E (yC [vI p0.fPlaces,vI 1,vI 16] iF E (fun W2 o=>bk p0.fPlaces 1 16 y2 fr W2 ) E) (oY E (bD E) (oN (eT ?_)))
 rcases iOs h with⟨Y,h⟩|⟨Y,h⟩
 ·refine cT (vB Y) (cS (cR (oY E (yAI E) (oN (eT (ap (ab ?_)))))))
  obtain rfl:=sI h
  exact am (.inl E) E (rVt (v:=vI 1) E) (fun W2 o=>⟨E,o.none⟩)
 ·refine cF (vB Y) (cK (eT (cS (cS (cR (oY E (yFA bU E) (oY E (yL 0 gv E E E) (oY E (bi (us:=[]) i6 E) (oY E (eu E E) (oN (eT ?_)))))))))))
  rcases iOs h with⟨Z,h⟩|⟨Z,h⟩
  ·refine cT (vB Z) (cS (cR (oY E (yAI E) (oN (eT (ap (ab ?_)))))))
   obtain rfl:=sI h
   exact am (.inl E) E (rVt (v:=vI 2) E) (fun W2 o=>⟨E,o.none⟩)
  ·refine cF (vB Z) (cK (eT (cS (cR (oY E (bZ [.pointer (some ⟨M,0,none⟩)] E E) (oY E (fI E) (oN (eT (cS (cS (cR (oY E (yFA bU E) (oY E (yL 0 gv E E E) (oY E (bi (us:=[]) i6 E) (oY E (yMI E) (oN (eT (cB ?_))))))))))))))))))
   obtain⟨u8,S,h⟩:=bOs h
   refine a8 (fun(s:(Int × Int)) L tm=>∃(w:Nat→Value),L=[ak M 24 [vI p0.fPlaces,.slice Ab p0.fTracks.length cb]]∧tm=(upd (upd (upd (upd (upd (upd w 1 (.pointer (some ⟨M,0,none⟩))) 2 (vI s.1)) 3 (.func (.func 159) #[] #[.pointer (some ⟨M,0,none⟩)])) 16 (.slice Ab p0.fTracks.length cb)) 17 (vI (p0.fTracks.length:Int))) 18 (vI s.2))) 0 S ⟨_,E,(kp4 (kp (kp E)))⟩ ?_ ?_
   ·rintro f L tm st ⟨f3,rfl,rfl⟩ h
    unfold gQ at h
    refine cS (cR (oY E (be E E) (oN (eT (cS ?_)))))
    rcases iOs h with⟨V,h⟩|⟨V,h⟩
    ·refine cT (vB V) (cK (eT (cS (cB (cS (cR (oY E (yMI E) ?_)))))))
     obtain⟨I,h⟩:=gOs h
     refine oY E (yI jE (by decide) I.1 I.2 (RdL.arg K) (eL au (NestP.hn D.p E)) E E) ?_
     refine oY E (yM (A:=Ab) (j:=(Int.toNat f.2*6)) [vI ((rdL p0.fTracks f.2).fID),vI ((rdL p0.fTracks f.2).fFrom),vI ((rdL p0.fTracks f.2).fTo),vI ((rdL p0.fTracks f.2).fLong),vI ((rdL p0.fTracks f.2).fToll),.slice ((rdL g f.2).1.1) ((rdL p0.fTracks f.2).fK.length) ((rdL g f.2).1.2.2)] gS (Nat.succ_pos _) (RdL.arg K) E (fN (bI (NestP.snd D.p f.2) (NestP.len D.p I.1 (ah I.2 E))).symm (bc au I.1 (ah I.2 (NestP.hn D.p E))))) ?_
     refine aF ip E (fun N=>?_)
     refine oY E (yAI E) (cy E (yS 1 [vI ((rdL p0.fTracks f.2).fID),vI ((rdL p0.fTracks f.2).fFrom),vI ((rdL p0.fTracks f.2).fTo),vI ((rdL p0.fTracks f.2).fLong),vI ((rdL p0.fTracks f.2).fToll),.slice ((rdL g f.2).1.1) ((rdL p0.fTracks f.2).fK.length) ((rdL g f.2).1.2.2)] nU E (nB E) E E E) (oN (eT (cS (cS (cR (oY E (yFA iU E) (oY E (yL 1 aK E E E) ?_))))))))
     obtain⟨fd,R,h⟩:=bOs h
     refine oY E (yC [vI ((rdL p0.fTracks f.2).fID),vI 1,vI 1099511627776] iF E (fun W2 o=>bk ((rdL p0.fTracks f.2).fID) 1 1099511627776 fd R W2 ) E) (oY E (bD E) (oY E (yMB E) ?_))
     obtain⟨fD,q,h⟩:=bOs h
     refine oJ 6 (fun w=>(upd (upd (upd (upd (upd (upd (upd (upd (upd (upd w 1 (.pointer (some ⟨M,0,none⟩))) 2 (vI f.1)) 3 (.func (.func 159) #[] #[.pointer (some ⟨M,0,none⟩)])) 16 (.slice Ab p0.fTracks.length cb)) 17 (vI (p0.fTracks.length:Int))) 18 (vI f.2)) 19 (.bool (decide (f.2<(p0.fTracks.length:Int))))) 5 (.pointer (some ⟨N,0,none⟩))) 4 (vI f.2)) 33 (.bool fD))) (fun w=>?_) (fun key=>?_)
     ·refine oY E (yMB E) ?_
      obtain⟨T,n,h⟩:=bOs h
      refine oJ 6 (fun w=>(upd (upd (upd (upd (upd (upd (upd (upd (upd (upd w 1 (.pointer (some ⟨M,0,none⟩))) 2 (vI f.1)) 3 (.func (.func 159) #[] #[.pointer (some ⟨M,0,none⟩)])) 16 (.slice Ab p0.fTracks.length cb)) 17 (vI (p0.fTracks.length:Int))) 18 (vI f.2)) 19 (.bool (decide (f.2<(p0.fTracks.length:Int))))) 5 (.pointer (some ⟨N,0,none⟩))) 4 (vI f.2)) 40 (.bool T))) (fun w=>?_) (fun key=>?_)
      ·refine oY E (yMB E) ?_
       refine oJ 6 (fun w=>(upd (upd (upd (upd (upd (upd (upd (upd (upd (upd w 1 (.pointer (some ⟨M,0,none⟩))) 2 (vI f.1)) 3 (.func (.func 159) #[] #[.pointer (some ⟨M,0,none⟩)])) 16 (.slice Ab p0.fTracks.length cb)) 17 (vI (p0.fTracks.length:Int))) 18 (vI f.2)) 19 (.bool (decide (f.2<(p0.fTracks.length:Int))))) 5 (.pointer (some ⟨N,0,none⟩))) 4 (vI f.2)) 47 (.bool (T||(((rdL p0.fTracks f.2).fFrom)==((rdL p0.fTracks f.2).fTo)))))) (fun w=>?_) (fun key=>?_)
       ·refine oY E (yMB E) ?_
        obtain⟨fE,l,h⟩:=bOs h
        refine oJ 5 (fun w=>(upd (upd (upd (upd (upd (upd (upd (upd (upd (upd w 1 (.pointer (some ⟨M,0,none⟩))) 2 (vI f.1)) 3 (.func (.func 159) #[] #[.pointer (some ⟨M,0,none⟩)])) 16 (.slice Ab p0.fTracks.length cb)) 17 (vI (p0.fTracks.length:Int))) 18 (vI f.2)) 19 (.bool (decide (f.2<(p0.fTracks.length:Int))))) 5 (.pointer (some ⟨N,0,none⟩))) 4 (vI f.2)) 53 (.bool fE))) (fun w=>?_) (fun key=>?_)
        ·refine oY E (yMB E) ?_
         obtain⟨fG,t,h⟩:=bOs h
         refine oJ 5 (fun w=>(upd (upd (upd (upd (upd (upd (upd (upd (upd (upd w 1 (.pointer (some ⟨M,0,none⟩))) 2 (vI f.1)) 3 (.func (.func 159) #[] #[.pointer (some ⟨M,0,none⟩)])) 16 (.slice Ab p0.fTracks.length cb)) 17 (vI (p0.fTracks.length:Int))) 18 (vI f.2)) 19 (.bool (decide (f.2<(p0.fTracks.length:Int))))) 5 (.pointer (some ⟨N,0,none⟩))) 4 (vI f.2)) 59 (.bool fG))) (fun w=>?_) (fun key=>?_)
         ·refine oY E (yMB E) ?_
          obtain⟨fH,a,h⟩:=bOs h
          refine oJ 5 (fun w=>(upd (upd (upd (upd (upd (upd (upd (upd (upd (upd w 1 (.pointer (some ⟨M,0,none⟩))) 2 (vI f.1)) 3 (.func (.func 159) #[] #[.pointer (some ⟨M,0,none⟩)])) 16 (.slice Ab p0.fTracks.length cb)) 17 (vI (p0.fTracks.length:Int))) 18 (vI f.2)) 19 (.bool (decide (f.2<(p0.fTracks.length:Int))))) 5 (.pointer (some ⟨N,0,none⟩))) 4 (vI f.2)) 65 (.bool fH))) (fun w=>?_) (fun key=>?_)
          ·refine oN (eT ?_)
           rcases iOs h with⟨Q,h⟩|⟨Q,h⟩
           ·refine cT (vB Q) (cS (cR (oY E (yAI E) (oN (eT (ap (ab (ae (ab (aQ 1 ?_))))))))))
            obtain rfl:=sI h
            exact av ⟨E,_,E,(kp4 (kp (kp E)))⟩
           ·refine cF (vB Q) (cK (eT (cS (cR (oY E (yN 0 [vI p0.fPlaces,.slice Ab p0.fTracks.length cb] dG E E E) (oY E (yFA iU E) (oY E (yL 1 aK E E E) ?_)))))))
            obtain⟨fT,i,h⟩:=bOs h
            refine oY E (yC [.agg #[vI p0.fPlaces,.slice Ab p0.fTracks.length cb],vI ((rdL p0.fTracks f.2).fID)] go_155 E (fun W2 o=>m4 p0 ((rdL p0.fTracks f.2).fID) fT i W2 Ab p0.fTracks.length cb g E ((RdL.arg K) W2 o) (NestL.at (NestL.arg D) W2 o)) E) (oY E (yMI E) (oY E (be E E) (oN (eT ?_))))
            rcases iOs h with⟨U,h⟩|⟨U,h⟩
            ·refine cT (vB U) (cS (cR (oY E (yAI E) (oN (eT (ap (ae (ab (aQ 1 ?_)))))))))
             obtain rfl:=sI h
             exact av ⟨E,_,E,(kp4 (kp (kp E)))⟩
            ·refine cF (vB U) (cK (aw (eT (cR (oY E (aL E E) (oY E (yMI E) (oN (aQ 1 ?_))))))))
             obtain rfl:=sI h
             exact eN ⟨_,E,(kp4 (kp (kp E)))⟩
          ·clear h;rcases iOs a with⟨F,h⟩|⟨F,h⟩
           ·refine oSk (sF E E E E F) (oSk (sF E E E E F) (oSk (sF E E E E F) (oSk (sF E E E E F) (oY E (ad (vB F) E) ?_))))
            obtain rfl:=sI h
            exact key _ _ (kp4 (kp4 (kp (kp E))))
           ·refine oY (sT E E E E F) (yFA f4 E) (oY (sT E E E E F) (yL 1 kM E E E) ?_)
            obtain⟨fR,k,h⟩:=bOs h
            refine oY (sT E E E E F) (yC [.slice ((rdL g f.2).1.1) ((rdL p0.fTracks f.2).fK.length) ((rdL g f.2).1.2.2)] go_122 E (fun W2 o=>l7 ((rdL p0.fTracks f.2).fK) fR k W2 ((rdL g f.2).1.1) ((rdL p0.fTracks f.2).fK.length) ((rdL g f.2).1.2.2) E ((NestL.rd (NestL.arg D) I.1 (ah I.2 E)) W2 o)) E) (oY (sT E E E E F) (bD E) (oY E (ag (vB F) E) ?_))
            obtain rfl:=sI h
            exact key _ _ (kp4 (kp4 (kp (kp E))))
         ·clear h;rcases iOs t with⟨G,h⟩|⟨G,h⟩
          ·refine oSk (sF E E E E G) (oSk (sF E E E E G) (oSk (sF E E E E G) (oSk (sF E E E E G) (oY E (ad (vB G) E) ?_))))
           obtain rfl:=sI h
           exact key _ _ (kp4 (kp4 (kp (kp E))))
          ·refine oY (sT E E E E G) (yFA gb E) (oY (sT E E E E G) (yL 1 aK E E E) ?_)
           obtain⟨fn,x,h⟩:=bOs h
           refine oY (sT E E E E G) (yC [vI ((rdL p0.fTracks f.2).fToll),vI 0,vI 40] iF E (fun W2 o=>bk ((rdL p0.fTracks f.2).fToll) 0 40 fn x W2 ) E) (oY (sT E E E E G) (bD E) (oY E (ag (vB G) E) ?_))
           obtain rfl:=sI h
           exact key _ _ (kp4 (kp4 (kp (kp E))))
        ·clear h;rcases iOs l with⟨H,h⟩|⟨H,h⟩
         ·refine oSk (sF E E E E H) (oSk (sF E E E E H) (oSk (sF E E E E H) (oSk (sF E E E E H) (oY E (ad (vB H) E) ?_))))
          obtain rfl:=sI h
          exact key _ _ (kp4 (kp4 (kp (kp E))))
         ·refine oY (sT E E E E H) (yFA f5 E) (oY (sT E E E E H) (yL 1 aK E E E) ?_)
          obtain⟨fl,y,h⟩:=bOs h
          refine oY (sT E E E E H) (yC [vI ((rdL p0.fTracks f.2).fLong),vI 1,vI 72] iF E (fun W2 o=>bk ((rdL p0.fTracks f.2).fLong) 1 72 fl y W2 ) E) (oY (sT E E E E H) (bD E) (oY E (ag (vB H) E) ?_))
          obtain rfl:=sI h
          exact key _ _ (kp4 (kp4 (kp (kp E))))
       ·rcases ar T with r|r
        ·refine oSk (sF E E E E r) (oSk (sF E E E E r) (oSk (sF E E E E r) (oSk (sF E E E E r) (oSk (sF E E E E r) (oY E (ad (vB r) E) ?_)))))
         exact key _ _ (keep (keep (keep (keep (keep (keep (keep (keep (keep (keep E E) E) E) E) E) E) E) E) E) (vB (iQ r)))
        ·refine oY (sT E E E E r) (yFA ii E) (oY (sT E E E E r) (yL 1 aK E E E) (oY (sT E E E E r) (yFA gD E) (oY (sT E E E E r) (yL 1 aK E E E) (oY (sT E E E E r) (cZ E E) (oY E (ag (vB r) E) ?_)))))
         exact key _ _ (keep (keep (keep (keep (keep (keep (keep (keep (keep (keep E E) E) E) E) E) E) E) E) E) (vB (iR r)))
      ·clear h;rcases iOs n with⟨u,h⟩|⟨u,h⟩
       ·refine oSk (sF E E E E u) (oSk (sF E E E E u) (oSk (sF E E E E u) (oSk (sF E E E E u) (oSk (sF E E E E u) (oY E (ad (vB u) E) ?_)))))
        obtain rfl:=sI h
        exact key _ _ (kp4 (kp4 (kp (kp E))))
       ·refine oY (sT E E E E u) (dD E) (oY (sT E E E E u) (yFA gD E) (oY (sT E E E E u) (yL 1 aK E E E) ?_))
        obtain⟨ft,b,h⟩:=bOs h
        refine oY (sT E E E E u) (pe (caps:=[.pointer (some ⟨M,0,none⟩)]) [vI ((rdL p0.fTracks f.2).fTo)] go_159 E E (fun W2 o=>lh ((rdL p0.fTracks f.2).fTo) p0 ft b W2 M Ab p0.fTracks.length cb g E ((RdL.arg K) W2 o) (NestL.at (NestL.arg D) W2 o) ((RdL.cells 0 E) W2 o))) (oY (sT E E E E u) (bD E) (oY E (ag (vB u) E) ?_))
        obtain rfl:=sI h
        exact key _ _ (kp4 (kp4 (kp (kp E))))
     ·clear h;rcases iOs q with⟨d,h⟩|⟨d,h⟩
      ·refine oSk (sF E E E E d) (oSk (sF E E E E d) (oSk (sF E E E E d) (oSk (sF E E E E d) (oSk (sF E E E E d) (oY E (ad (vB d) E) ?_)))))
       obtain rfl:=sI h
       exact key _ _ (kp4 (kp4 (kp (kp E))))
      ·refine oY (sT E E E E d) (dD E) (oY (sT E E E E d) (yFA ii E) (oY (sT E E E E d) (yL 1 aK E E E) ?_))
       obtain⟨g1,c,h⟩:=bOs h
       refine oY (sT E E E E d) (pe (caps:=[.pointer (some ⟨M,0,none⟩)]) [vI ((rdL p0.fTracks f.2).fFrom)] go_159 E E (fun W2 o=>lh ((rdL p0.fTracks f.2).fFrom) p0 g1 c W2 M Ab p0.fTracks.length cb g E ((RdL.arg K) W2 o) (NestL.at (NestL.arg D) W2 o) ((RdL.cells 0 E) W2 o))) (oY (sT E E E E d) (bD E) (oY E (ag (vB d) E) ?_))
       obtain rfl:=sI h
       exact key _ _ (kp4 (kp4 (kp (kp E))))
    ·refine cF (vB V) (aD (ai ?_))
     obtain rfl:=sI h
     exact av ⟨E,_,E,(kp4 (kp (kp E)))⟩
   ·intro e L tm hJ
    rcases u8 with g2|gf
    ·dsimp only at h hJ
     obtain⟨rfl,f1,rfl,rfl⟩:=hJ
     refine⟨(by intro hc;cases hc),?_⟩
     refine ae (ab ?_)
     obtain rfl:=sI h
     exact am (.inl E) E (rVt (v:=vI g2.1) E) (fun W2 o=>⟨E,o.none⟩)
    ·dsimp only at h hJ
     obtain⟨rfl,f2,rfl,rfl⟩:=hJ
     refine⟨(by intro hc;cases hc),?_⟩
     refine ac (eT (cS (cR (oY E (yAI E) (oN (eT (ap ?_)))))))
     obtain rfl:=sI h
     exact am (.inl E) E (rVt (v:=vI 0) E) (fun W2 o=>⟨E,o.none⟩)
theorem gA (p0:TR) (p1:Int) (p2:Int) (p3:Int) (p4:Int) (res:Int) (h:eH p0 p1 p2 p3 p4=some res) (W:World) (Ab:Option Addr) (w cb:Nat) (d:List (Hd × TT)) (F:w=p0.fTracks.length) (G:Rd W Ab w cb (encL TTrack_cells2 d)) (H:NestW W (fun z:TT=>z.fK) TSpan_cells d p0.fTracks) :
  Calls Tryz.prog 70 [.agg #[vI p0.fPlaces,.slice Ab w cb],vI p1,vI p2,vI p3,vI p4].toArray W fun e W2=>e=.returned (vI res)∧Ext W W2 []:=by
 subst F
 unfold eH at h
 refine aj (m:=41) Tryz.func70 E E (nB E) (cS (cR ?_))
 refine aN [vI p0.fPlaces,.slice Ab p0.fTracks.length cb] E E E (fun l=>?_)
 refine oY E (yAI E) (oN (eT (cS (cS (cR (oY E (yN 0 [vI p0.fPlaces,.slice Ab p0.fTracks.length cb] dG E E E) ?_))))))
 obtain⟨q,U,h⟩:=bOs h
 refine oY E (yC [.agg #[vI p0.fPlaces,.slice Ab p0.fTracks.length cb]] go_124 E (fun W2 r=>qx p0 q U W2 Ab p0.fTracks.length cb d E ((RdL.arg G) W2 r) (NestL.at (NestL.arg H) W2 r)) E) (oY E (yAI E) (oN (eT (cS (cR (oY E (yMI E) (oY E (cJ E E) (oN (eT ?_)))))))))
 rcases iOs h with⟨I,h⟩|⟨I,h⟩
 ·refine cT (vB I) (cS (cR (oY E (yMI E) (oY E (yAI E) (oN (eT (ap (ab ?_))))))))
  obtain rfl:=sI h
  exact am (.inl E) E (rVt (v:=vI q) E) (fun W2 r=>⟨E,r.none⟩)
 ·refine cF (vB I) (cK (eT (cS (cS (cR (oY E (yMI E) (oY E (yFA dW E) (oY E (yL 0 aK E E E) (oY E (ex E E) ?_)))))))))
  obtain⟨p,X,h⟩:=bOs h
  refine oY E (yC [vI p1,vI 0,vI (w64 (p0.fPlaces-1))] iF E (fun W2 r=>bk p1 0 (w64 (p0.fPlaces-1)) p X W2 ) E) (oY E (bD E) (oY E (yMB E) ?_))
  obtain⟨n,Y,h⟩:=bOs h
  refine oJ 7 (fun u=>(upd (upd (upd (upd u 3 (vI p3)) 4 (vI p4)) 10 (vI 0)) 30 (.bool n))) (fun u=>?_) (fun key=>?_)
  ·refine oY E (yMB E) ?_
   obtain⟨Z,K,h⟩:=bOs h
   refine oJ 4 (fun u=>(upd (upd (upd u 4 (vI p4)) 10 (vI 0)) 35 (.bool Z))) (fun u=>?_) (fun key=>?_)
   ·refine oY E (yMB E) ?_
    obtain⟨V,M,h⟩:=bOs h
    refine oJ 4 (fun u=>(upd (upd u 10 (vI 0)) 40 (.bool V))) (fun u=>?_) (fun key=>?_)
    ·refine oN (eT ?_)
     rcases iOs h with⟨D,h⟩|⟨D,h⟩
     ·refine cT (vB D) (cS (cR (oY E (yAI E) (oN (eT (ap (ab ?_)))))))
      obtain rfl:=sI h
      exact am (.inl E) E (rVt (v:=vI 1) E) (fun W2 r=>⟨E,r.none⟩)
     ·refine cF (vB D) (cK (eT (cS (cR (oY E (yAI E) (oN (eT (ap ?_))))))))
      obtain rfl:=sI h
      exact am (.inl E) E (rVt (v:=vI 0) E) (fun W2 r=>⟨E,r.none⟩)
    ·clear h;rcases iOs M with⟨g,h⟩|⟨g,h⟩
     ·refine oSk (sF E E E E g) (oSk (sF E E E E g) (oSk (sF E E E E g) (oY E (ad (vB g) E) ?_)))
      obtain rfl:=sI h
      exact key _ _ (kp (kp E))
     ·refine oY (sT E E E E g) (yMI E) ?_
      obtain⟨T,N,h⟩:=bOs h
      refine oY (sT E E E E g) (yC [vI p4,vI 0,vI 60] iF E (fun W2 r=>bk p4 0 60 T N W2 ) E) (oY (sT E E E E g) (bD E) (oY E (ag (vB g) E) ?_))
      obtain rfl:=sI h
      exact key _ _ (kp (kp E))
   ·clear h;rcases iOs K with⟨o,h⟩|⟨o,h⟩
    ·refine oSk (sF E E E E o) (oSk (sF E E E E o) (oSk (sF E E E E o) (oY E (ad (vB o) E) ?_)))
     obtain rfl:=sI h
     exact key _ _ (kp (kp (kp E)))
    ·refine oY (sT E E E E o) (yMI E) ?_
     obtain⟨S,O,h⟩:=bOs h
     refine oY (sT E E E E o) (yC [vI p3] mb E (fun W2 r=>cL p3 S O W2 ) E) (oY (sT E E E E o) (bD E) (oY E (ag (vB o) E) ?_))
     obtain rfl:=sI h
     exact key _ _ (kp (kp (kp E)))
  ·clear h;rcases iOs Y with⟨f,h⟩|⟨f,h⟩
   ·refine oSk (sF E E E E f) (oSk (sF E E E E f) (oSk (sF E E E E f) (oSk (sF E E E E f) (oSk (sF E E E E f) (oSk (sF E E E E f) (oY E (ad (vB f) E) ?_))))))
    obtain rfl:=sI h
    exact key _ _ (kp4 E)
   ·refine oY (sT E E E E f) (yMI E) (oY (sT E E E E f) (yFA dW E) (oY (sT E E E E f) (yL 0 aK E E E) (oY (sT E E E E f) (ex E E) ?_)))
    obtain⟨R,Q,h⟩:=bOs h
    refine oY (sT E E E E f) (yC [vI p2,vI 0,vI (w64 (p0.fPlaces-1))] iF E (fun W2 r=>bk p2 0 (w64 (p0.fPlaces-1)) R Q W2 ) E) (oY (sT E E E E f) (bD E) (oY E (ag (vB f) E) ?_))
    obtain rfl:=sI h
    exact key _ _ (kp4 E)
theorem iS (p0:TT) (p1:Int) (res:(Int × Bool)) (h:gp p0 p1=some res) (W:World) (f:Option Addr) (o g:Nat) (D:o=p0.fK.length) (r:Rd W f o g (encL TSpan_cells p0.fK)) :
  Calls Tryz.prog 123 [.agg #[vI p0.fID,vI p0.fFrom,vI p0.fTo,vI p0.fLong,vI p0.fToll,.slice f o g],vI p1].toArray W fun e W2=>e=.returned (.tuple #[vI res.1,.bool res.2])∧Ext W W2 []:=by
 subst D
 unfold gp at h
 refine aj (m:=28) Tryz.func123 E E (nB E) (cS (cR ?_))
 refine aN [vI p0.fID,vI p0.fFrom,vI p0.fTo,vI p0.fLong,vI p0.fToll,.slice f p0.fK.length g] E E E (fun X=>?_)
 refine oY E (yAI E) (oY E (yAB E) (oN (eT (cS (cS (cR (oY E (yFA f4 E) (oY E (yL 0 kM E E E) (oY E (bi (us:=[]) mY E) (oY E (yMI E) (oN (eT (cB ?_)))))))))))))
 obtain⟨O,H,h⟩:=bOs h
 refine bj (fun(s:(Int × Int)) L tm=>∃(Q:Nat→Value),L=[ak X 120 [vI p0.fID,vI p0.fFrom,vI p0.fTo,vI p0.fLong,vI p0.fToll,.slice f p0.fK.length g]]∧tm=(upd (upd (upd (upd (upd (upd Q 1 (vI s.1)) 4 (vI 0)) 5 (.bool false)) 9 (.slice f p0.fK.length g)) 10 (vI (p0.fK.length:Int))) 11 (vI s.2))) 0 H ⟨_,E,(kp4 (kp (kp E)))⟩ ?_ ?_
 ·rintro u L tm st ⟨M,rfl,rfl⟩ h
  unfold fC at h
  refine cS (cR (oY E (be E E) (oN (eT (cS ?_)))))
  rcases iOs h with⟨F,h⟩|⟨F,h⟩
  ·refine cT (vB F) (cK (eT (cS (cB (cS (cR ?_))))))
   obtain⟨w,h⟩:=gOs h
   refine oY E (yI kk (by decide) w.1 w.2 (RdL.arg r) (eL aG E) E E) ?_
   refine oY E (yM (A:=f) (j:=(Int.toNat u.2*2)) [vI ((rdL p0.fK u.2).fLo),vI ((rdL p0.fK u.2).fHi)] ag_63 (Nat.succ_pos _) (RdL.arg r) E (bc aG w.1 (ah w.2 E))) ?_
   refine aF si E (fun Z=>?_)
   refine cy E (yS 1 [vI ((rdL p0.fK u.2).fLo),vI ((rdL p0.fK u.2).fHi)] sz_63 E (nB E) E E E) (oN (eT (cS (cR (oY E (yMI E) (oY E (yFA gK E) (oY E (yL 1 aK E E E) (oY E (yFA fg E) (oY E (yL 1 aK E E E) ?_)))))))))
   obtain⟨Y,U,h⟩:=bOs h
   refine oY E (yC [vI u.1,vI ((rdL p0.fK u.2).fLo),vI ((rdL p0.fK u.2).fHi)] iF E (fun W2 G=>bk u.1 ((rdL p0.fK u.2).fLo) ((rdL p0.fK u.2).fHi) Y U W2 ) E) (oN (eT ?_))
   rcases iOs h with⟨d,h⟩|⟨d,h⟩
   ·refine cT (vB d) (cR (oY E (yFA fg E) (oY E (yL 1 aK E E E) (oY E (aL E E) (oY E (yAI E) (oN (aw (eT (cR (oY E (aL E E) (oY E (yMI E) (oN (aQ 1 ?_)))))))))))))
    obtain rfl:=sI h
    exact eN ⟨_,E,(kp4 (kp (kp E)))⟩
   ·refine cF (vB d) (cK (aw (eT (cR (oY E (aL E E) (oY E (yMI E) (oN (aQ 1 ?_))))))))
    obtain rfl:=sI h
    exact eN ⟨_,E,(kp4 (kp (kp E)))⟩
  ·refine cF (vB F) (aD (ai ?_))
   obtain rfl:=sI h
   exact av ⟨E,_,E,(kp4 (kp (kp E)))⟩
 ·intro e L tm hJ
  obtain⟨rfl,N,rfl,rfl⟩:=hJ
  refine⟨(by intro hc;cases hc),?_⟩
  refine ac (eT (cS (cR (oY E (yMI E) (oY E (yMI E) ?_)))))
  obtain⟨I,K,h⟩:=bOs h
  refine oY E (yC [vI O.1] mb E (fun W2 G=>cL O.1 I K W2 ) E) (oY E (yAI E) (oY E (yAB E) (oN (eT (ap ?_)))))
  obtain rfl:=sI h
  exact bT (.inl E) E (rVt (v:=vI O.1) E) (rVt (v:=.bool I) E) (fun W2 G=>⟨E,G.none⟩)
theorem ia (p0:(List Twait)) (res:Int) (h:cq p0=some res) (W:World) (Aa:Option Addr) (f ca:Nat) (g:f=p0.length) (o:Rd W Aa f ca (encL aA p0)) :
  Calls Tryz.prog 147 [.slice Aa f ca].toArray W fun e W2=>e=.returned (vI res)∧Ext W W2 []:=by
 subst g
 unfold cq at h
 refine aj (m:=5) Tryz.func147 E E (nB E) (cS (cR (oY E (yAI E) (oN (eT (cS (cR (oY E (yMS E) (oY E (bi (us:=[]) qm E) (oY E (yAI E) (oN (eT (ap ?_)))))))))))))
 obtain rfl:=sI h
 exact am (.inl E) E (rVt (v:=vI (p0.length:Int)) E) (fun W2 r=>⟨E,r.none⟩)
theorem eQ (p0:(List Twait)) (p1:Int) (p2:Int) (res:Bool) (h:ct p0 p1 p2=some res) (W:World) (Aa:Option Addr) (g ca:Nat) (u:g=p0.length) (f:Rd W Aa g ca (encL aA p0)) :
  Calls Tryz.prog 212 [.slice Aa g ca,vI p1,vI p2].toArray W fun e W2=>e=.returned (.bool res)∧Ext W W2 []:=by
 subst u
 unfold ct at h
 refine aj (m:=18) Tryz.func212 E E (nB E) (cS (cR (oY E (yAB E) (oN (eT (cS ?_))))))
 refine aS 12 bW (by kernel_rfl) (by kernel_rfl) ?_
 refine qY E (yMS E) (qY E (yMI E) ?_)
 obtain⟨o,h⟩:=gOs h
 refine qY E (yI nW (by decide) o.1 o.2 (RdL.arg f) (eL aX E) E E) ?_
 refine qY E (yFR (A:=Aa) (j:=(Int.toNat p1*3)) oz E) (qY E (yR (A:=Aa) (j:=((Int.toNat p1*3)+0)) (v:=vI ((rdL p0 p1).f_at)) aK (RdL.arg f) E (eG aX o.1 (ah o.2 E) E)) (qY E (yMS E) (qY E (yMI E) ?_)))
 obtain⟨r,h⟩:=gOs h
 refine qY E (yI nW (by decide) r.1 r.2 (RdL.arg f) (eL aX E) E E) ?_
 refine qY E (yFR (A:=Aa) (j:=(Int.toNat p2*3)) oz E) (qY E (yR (A:=Aa) (j:=((Int.toNat p2*3)+0)) (v:=vI ((rdL p0 p2).f_at)) aK (RdL.arg f) E (eG aX r.1 (ah r.2 E) E)) (qY E (be E E) (qY E (yAB E) (bF (oN (eT (ap ?_)))))))
 obtain rfl:=sI h
 exact am (.inl E) E (rVt (v:=.bool (decide ((rdL p0 p1).f_at<(rdL p0 p2).f_at))) E) (fun W2 d=>⟨E,d.none⟩)
theorem eV (p0:(List Twait)) (p1:Int) (p2:Int) (res:(List Twait)) (h:bY p0 p1 p2=some res) (W:World) (D:World) (R:Res) (Aa:Option Addr) (f ca:Nat) (d:f=p0.length) (hW:Ext D W [R,aR Aa ca 196 3 f (encL aA p0)]) :
  Calls Tryz.prog 215 [.slice Aa f ca,vI p1,vI p2].toArray W fun e W2=>∃x:Unit,f=res.length∧e=.returned (.tuple #[])∧Ext D W2 [R,aR Aa ca 196 3 f (encL aA res)]:=by
 subst d
 unfold bY at h
 refine bh (m:=20) Tryz.func215 E E (nB E) hW ?_
 refine rE [2,3] 13 bW (by kernel_rfl) (by kernel_rfl) ?_
 refine qY E (yMS E) (qY E (yMI E) (qY E (yMS E) (qY E (yMI E) (qY E (yMS E) (qY E (yMI E) ?_)))))
 obtain⟨g,h⟩:=gOs h
 refine qY E (yI nW (by decide) g.1 g.2 (RdL.row 1 E) (eL aX E) E E) ?_
 refine qY E (yM (A:=Aa) (j:=(Int.toNat p2*3)) [vI ((rdL p0 p2).f_at),vI ((rdL p0 p2).f_stop.f_place),vI ((rdL p0 p2).f_stop.f_toll)] sY (Nat.succ_pos _) (RdL.row 1 E) E (bc aX g.1 (ah g.2 E))) (qY E (yMS E) (qY E (yMI E) ?_))
 obtain⟨o,h⟩:=gOs h
 refine qY E (yI nW (by decide) o.1 o.2 (RdL.row 1 E) (eL aX E) E E) ?_
 refine qY E (yM (A:=Aa) (j:=(Int.toNat p1*3)) [vI ((rdL p0 p1).f_at),vI ((rdL p0 p1).f_stop.f_place),vI ((rdL p0 p1).f_stop.f_toll)] sY (Nat.succ_pos _) (RdL.row 1 E) E (bc aX o.1 (ah o.2 E))) ?_
 obtain⟨r,h⟩:=gOs h
 refine qY E (yI nW (by decide) r.1 r.2 (RdL.row 1 E) (eL aX E) E E) ?_
 refine bF (cy E (ms 1 (xs:=p0) [vI ((rdL p0 p2).f_at),vI ((rdL p0 p2).f_stop.f_place),vI ((rdL p0 p2).f_stop.f_toll)] aX (Nat.succ_pos _) (rdL p0 p2) tJ E r.1 (ah r.2 E) E E E E) ?_)
 obtain⟨u,h⟩:=gOs h
 refine oY E (yI nW (by decide) u.1 u.2 (RdL.row 1 E) (eL aX (cY E)) E E) ?_
 refine cy E (ms 1 (xs:=(p0.set (Int.toNat p1) (rdL p0 p2))) [vI ((rdL p0 p1).f_at),vI ((rdL p0 p1).f_stop.f_place),vI ((rdL p0 p1).f_stop.f_toll)] aX (Nat.succ_pos _) (rdL p0 p1) tJ E u.1 (ah u.2 (cY E)) E E E E) (oN (qI ?_))
 obtain rfl:=sI h
 exact cO (.inr E) E  (fun W2 w=>⟨(),(cY (cY E)),E,w.take 2⟩)
theorem kU (p0:(List Twait)) (p1:Int) (p2:Int) (res:(Bool × (List Twait))) (h:db p0 p1 p2=some res) (W:World) (z:World) (R:Res) (o:Nat) (Aa:Option Addr) (D ca:Nat) (K:D=p0.length) (hW:Ext z W [R,ak o 198 [.slice Aa D ca],aR Aa ca 196 3 D (encL aA p0)]) :
  Calls Tryz.prog 177 [.iface 194 (.pointer (some ⟨o,0,none⟩)),vI p1,vI p2].toArray W fun e W2=>∃x:(Option Addr × Nat × Nat),x.2.1=res.2.length∧e=.returned (.bool res.1)∧Ext z W2 [R,ak o 198 [.slice x.1 x.2.1 x.2.2],aR x.1 x.2.2 196 3 x.2.1 (encL aA res.2)]:=by
 subst K
 unfold db at h
 refine bh (m:=48) Tryz.func177 E E (nB E) hW (cS (cR (oY E (yAB E) (oN (eT (cS (cR (oY E (yMI E) (oY E (yAI E) (oN (eT (cS (cB ?_)))))))))))))
 obtain⟨i,Q,h⟩:=bOs h
 refine bj (fun(s:(Int × (List Twait))) L tm=>∃(w:Nat→Value),p0.length=s.2.length∧L=[R,ak o 198 [.slice Aa p0.length ca],aR Aa ca 196 3 p0.length (encL aA s.2)]∧tm=(upd (upd (upd (upd (upd w 0 (.iface 194 (.pointer (some ⟨o,0,none⟩)))) 1 (vI p1)) 2 (vI p2)) 6 (.bool false)) 7 (vI s.1))) 0 Q ⟨_,E,E,(kp4 (kp E))⟩ ?_ ?_
 ·rintro g L tm st ⟨q,f,rfl,rfl⟩ h
  unfold dc at h
  refine cB (cS (cR (oY E (yMI E) (oY E (y_mul E E) (oY E (aL E E) (oY E (yAI E) (oN (eT (cS (cS (cR (oY E (yMI E) (oY E (yMI E) (oY E (lu E E) (oY E (yMB E) ?_)))))))))))))))
  refine oJ 3 (fun w=>(upd (upd (upd (upd (upd (upd (upd w 0 (.iface 194 (.pointer (some ⟨o,0,none⟩)))) 1 (vI p1)) 2 (vI p2)) 6 (.bool false)) 7 (vI g.1)) 8 (vI (w64 ((w64 (2*g.1))+1)))) 21 (.bool ((decide (p2≤w64 ((w64 (2*g.1))+1)))||(decide (w64 ((w64 (2*g.1))+1)<0)))))) (fun w=>?_) (fun key=>?_)
  ·refine oN (eT ?_)
   rcases iOs h with⟨M,h⟩|⟨M,h⟩
   ·refine cT (vB M) (aD (ai (iY E ?_)))
    obtain rfl:=sI h
    exact av ⟨E,_,f,E,(kp4 (kp E))⟩
   ·refine cF (vB M) (cK (eT (cS (cR (oY E (yMI E) (oY E (yAI E) (oN (eT (cS (cS (cR (oY E (yMI E) (oY E (aL E E) (oY E (yAI E) (oN (eT (cS (cR (oY E (yMI E) (oY E (yMI E) (oY E (be E E) (oY E (yMB E) ?_))))))))))))))))))))))
    obtain⟨j,n,h⟩:=bOs h
    refine oJ 5 (fun w=>(upd (upd (upd (upd (upd (upd (upd (upd (upd (upd w 0 (.iface 194 (.pointer (some ⟨o,0,none⟩)))) 1 (vI p1)) 2 (vI p2)) 6 (.bool false)) 7 (vI g.1)) 8 (vI (w64 ((w64 (2*g.1))+1)))) 21 (.bool ((decide (p2≤w64 ((w64 (2*g.1))+1)))||(decide (w64 ((w64 (2*g.1))+1)<0))))) 9 (vI (w64 ((w64 (2*g.1))+1)))) 10 (vI (w64 ((w64 ((w64 (2*g.1))+1))+1)))) 33 (.bool j))) (fun w=>?_) (fun key=>?_)
    ·refine oN (eT ?_)
     rcases iOs h with⟨F,h⟩|⟨F,h⟩
     ·refine cT (vB F) (cR (oY E (yMI E) (oY E (yAI E) (oN (eT (cS (cS (cR (oY E (bK (v:=.iface 194 (.pointer (some ⟨o,0,none⟩))) E) (oY E (yMI E) (oY E (yMI E) ?_)))))))))))
      obtain⟨l,U,h⟩:=bOs h
      refine oY E (lN 1 [vI (w64 ((w64 ((w64 (2*g.1))+1))+1)),vI g.1] E kr kJ ke go_212 E E (fun W2 r=>eQ g.2 (w64 ((w64 ((w64 (2*g.1))+1))+1)) g.1 l U W2 Aa p0.length ca (f) ((RdL.row 2 E) W2 r))) (oY E (bD E) (oN (eT ?_)))
      rcases iOs h with⟨G,h⟩|⟨G,h⟩
      ·refine cT (vB G) (aD (ai (iY E ?_)))
       obtain rfl:=sI h
       exact av ⟨E,_,f,E,(kp4 (kp E))⟩
      ·refine cF (vB G) (cK (eT (cS (cR (oY E (bK (v:=.iface 194 (.pointer (some ⟨o,0,none⟩))) E) (oY E (yMI E) (oY E (yMI E) ?_)))))))
       obtain⟨N,X,h⟩:=bOs h
       refine lL [2] [.slice Aa p0.length ca] [vI g.1,vI (w64 ((w64 ((w64 (2*g.1))+1))+1))] [] (fun(_:Unit)=>p0.length=N.length) (fun _=>.tuple #[]) (fun _=>[aR Aa ca 196 3 p0.length (encL aA N)]) (fun _=>[]) (Foc.c1 E) (by decide) E nN (exM_V 1 E ky kJ ke nN E) E (fun _=>E) (fun W2 r=>eV g.2 g.1 (w64 ((w64 ((w64 (2*g.1))+1))+1)) N X W2 _ (bH [R,ak o 198 [.slice Aa p0.length ca],aR Aa ca 196 3 p0.length (encL aA g.2)] [2]) Aa p0.length ca (f) r) ?_
       rintro-Y
       try dsimp only[me,lsz,lss,List.append_nil]
       refine oN (eT (cR (oY E (yMI E) (oY E (yAI E) (oN (aw ?_))))))
       obtain rfl:=sI h
       exact eN ⟨_,Y,E,(kp4 (kp E))⟩
     ·refine cF (vB F) (cK (eT (cS (cS (cR (oY E (bK (v:=.iface 194 (.pointer (some ⟨o,0,none⟩))) E) (oY E (yMI E) (oY E (yMI E) ?_))))))))
      obtain⟨t,Z,h⟩:=bOs h
      refine oY E (lN 1 [vI (w64 ((w64 (2*g.1))+1)),vI g.1] E kr kJ ke go_212 E E (fun W2 r=>eQ g.2 (w64 ((w64 (2*g.1))+1)) g.1 t Z W2 Aa p0.length ca (f) ((RdL.row 2 E) W2 r))) (oY E (bD E) (oN (eT ?_)))
      rcases iOs h with⟨H,h⟩|⟨H,h⟩
      ·refine cT (vB H) (aD (ai (iY E ?_)))
       obtain rfl:=sI h
       exact av ⟨E,_,f,E,(kp4 (kp E))⟩
      ·refine cF (vB H) (cK (eT (cS (cR (oY E (bK (v:=.iface 194 (.pointer (some ⟨o,0,none⟩))) E) (oY E (yMI E) (oY E (yMI E) ?_)))))))
       obtain⟨O,V,h⟩:=bOs h
       refine lL [2] [.slice Aa p0.length ca] [vI g.1,vI (w64 ((w64 (2*g.1))+1))] [] (fun(_:Unit)=>p0.length=O.length) (fun _=>.tuple #[]) (fun _=>[aR Aa ca 196 3 p0.length (encL aA O)]) (fun _=>[]) (Foc.c1 E) (by decide) E nN (exM_V 1 E ky kJ ke nN E) E (fun _=>E) (fun W2 r=>eV g.2 g.1 (w64 ((w64 (2*g.1))+1)) O V W2 _ (bH [R,ak o 198 [.slice Aa p0.length ca],aR Aa ca 196 3 p0.length (encL aA g.2)] [2]) Aa p0.length ca (f) r) ?_
       rintro-T
       try dsimp only[me,lsz,lss,List.append_nil]
       refine oN (eT (cR (oY E (yMI E) (oY E (yAI E) (oN (aw ?_))))))
       obtain rfl:=sI h
       exact eN ⟨_,T,E,(kp4 (kp E))⟩
    ·clear h;rcases iOs n with⟨u,h⟩|⟨u,h⟩
     ·refine oY (sT E E E E u) (bK (v:=.iface 194 (.pointer (some ⟨o,0,none⟩))) E) (oY (sT E E E E u) (yMI E) (oY (sT E E E E u) (yMI E) ?_))
      obtain⟨a,S,h⟩:=bOs h
      refine oY (sT E E E E u) (lN 1 [vI (w64 ((w64 ((w64 (2*g.1))+1))+1)),vI (w64 ((w64 (2*g.1))+1))] E kr kJ ke go_212 E E (fun W2 r=>eQ g.2 (w64 ((w64 ((w64 (2*g.1))+1))+1)) (w64 ((w64 (2*g.1))+1)) a S W2 Aa p0.length ca (f) ((RdL.row 2 E) W2 r))) (oY E (ad (vB u) E) ?_)
      obtain rfl:=sI h
      exact key _ _ (kp4 (kp4 (kp (kp E))))
     ·refine oSk (sF E E E E u) (oSk (sF E E E E u) (oSk (sF E E E E u) (oSk (sF E E E E u) (oY E (ag (vB u) E) ?_))))
      obtain rfl:=sI h
      exact key _ _ (kp4 (kp4 (kp (kp E))))
  ·rcases ar (decide (p2≤w64 ((w64 (2*g.1))+1)))with d|d
   ·refine oSk (sF E E E E d) (oSk (sF E E E E d) (oY E (ad (vB d) E) ?_))
    exact key _ _ (keep (keep (keep (keep (keep (keep (keep E E) E) E) E) E) E) (vB (iQ d)))
   ·refine oY (sT E E E E d) (yMI E) (oY (sT E E E E d) (be E E) (oY E (ag (vB d) E) ?_))
    exact key _ _ (keep (keep (keep (keep (keep (keep (keep E E) E) E) E) E) E) (vB (iR d)))
 ·intro e L tm hJ
  obtain⟨rfl,p,I,rfl,rfl⟩:=hJ
  refine⟨(by intro hc;cases hc),?_⟩
  refine ac (eT (cS (cR (oY E (yMI E) (oY E (yMI E) (oY E (eu E E) (oY E (yAB E) (oN (eT (ap ?_))))))))))
  obtain rfl:=sI h
  exact am (.inl E) E (rVt (v:=.bool (decide (p1<i.1))) E) (fun W2 r=>⟨(Aa,p0.length,ca),I,E,r.take 3⟩)
theorem np (p0:(List Twait)) (res:(Twait × (List Twait))) (h:ie p0=some res) (W:World) (w:World) (R:Res) (r:Nat) (Aa:Option Addr) (f ca:Nat) (u:f=p0.length) (hW:Ext w W [R,ak r 198 [.slice Aa f ca],aR Aa ca 196 3 f (encL aA p0)]) :
  Calls Tryz.prog 213 [.pointer (some ⟨r,0,none⟩)].toArray W fun e W2=>∃x:(Option Addr × Nat × Nat),x.2.1=res.2.length∧e=.returned (.iface 196 (.agg #[vI res.1.f_at,vI res.1.f_stop.f_place,vI res.1.f_stop.f_toll]))∧Ext w W2 [R,ak r 198 [.slice x.1 x.2.1 x.2.2],aR x.1 x.2.2 196 3 x.2.1 (encL aA res.2)]:=by
 subst u
 unfold ie at h
 refine bh (m:=23) Tryz.func213 E E (nB E) hW (cS (cR (oY E (il (v:=.nilIface) E) (oN (eT (cS (cR (oY E (lJ E) (oY E (kj E) (oY E (yL 1 ke E E E) (oY E (yAS E) (oN (eT (cS (cR (oY E (yMS E) (oY E (yMS E) (oY E (bi (us:=[]) qm E) (oY E (ex E E) ?_)))))))))))))))))))
 obtain⟨g,h⟩:=gOs h
 refine oY E (yI nW (by decide) g.1 g.2 (RdL.row 2 E) (eL aX E) E E) ?_
 refine oY E (yM (A:=Aa) (j:=(Int.toNat (w64 ((p0.length:Int)-1))*3)) [vI ((rdL p0 (w64 ((p0.length:Int)-1))).f_at),vI ((rdL p0 (w64 ((p0.length:Int)-1))).f_stop.f_place),vI ((rdL p0 (w64 ((p0.length:Int)-1))).f_stop.f_toll)] sY (Nat.succ_pos _) (RdL.row 2 E) E (bc aX g.1 (ah g.2 E))) ?_
 refine aF oQ E (fun D=>?_)
 refine cy E (yS 3 [vI ((rdL p0 (w64 ((p0.length:Int)-1))).f_at),vI ((rdL p0 (w64 ((p0.length:Int)-1))).f_stop.f_place),vI ((rdL p0 (w64 ((p0.length:Int)-1))).f_stop.f_toll)] tJ E (nB E) E E E) (oN (eT (cS (cR (oY E (lJ E) (oY E (yMS E) (oY E (yMS E) (oY E (bi (us:=[]) qm E) (oY E (ex E E) ?_)))))))))
 obtain⟨o,h⟩:=gOs h
 refine oY E (y_cutH nW o.1 o.2 (RdL.row 2 E) E E) (oY E (kj E) (ox_headR 2 aX E (Int.toNat_le.2 o.2) (cy E (dJ 1 (v:=.slice Aa (Int.toNat (w64 ((p0.length:Int)-1))) ca) sz_198 E (Nat.lt_of_lt_of_le (Nat.lt_succ_self _) (nB E)) E E E) (oN (eT (cS (cR (oY E (yN 3 [vI ((rdL p0 (w64 ((p0.length:Int)-1))).f_at),vI ((rdL p0 (w64 ((p0.length:Int)-1))).f_stop.f_place),vI ((rdL p0 (w64 ((p0.length:Int)-1))).f_stop.f_toll)] sY E E E) (oY E (kF qE E) (oY E (il (v:=.iface 196 (.agg #[vI ((rdL p0 (w64 ((p0.length:Int)-1))).f_at),vI ((rdL p0 (w64 ((p0.length:Int)-1))).f_stop.f_place),vI ((rdL p0 (w64 ((p0.length:Int)-1))).f_stop.f_toll)])) E) (oN (eT (ap ?_)))))))))))))
 obtain rfl:=sI h
 exact am (.inl E) E (rVt (v:=.iface 196 (.agg #[vI ((rdL p0 (w64 ((p0.length:Int)-1))).f_at),vI ((rdL p0 (w64 ((p0.length:Int)-1))).f_stop.f_place),vI ((rdL p0 (w64 ((p0.length:Int)-1))).f_stop.f_toll)])) E) (fun W2 d=>⟨(Aa,Int.toNat (w64 ((p0.length:Int)-1)),ca),(sV o.2 E),E,d.take 3⟩)
theorem lG (p0:(List Twait)) (res:(Twait × (List Twait))) (h:dm p0=some res) (W:World) (Z:World) (R:Res) (f:Nat) (Aa:Option Addr) (r ca:Nat) (D:r=p0.length) (hW:Ext Z W [R,ak f 198 [.slice Aa r ca],aR Aa ca 196 3 r (encL aA p0)]) :
  Calls Tryz.prog 148 [.iface 194 (.pointer (some ⟨f,0,none⟩))].toArray W fun e W2=>∃x:(Option Addr × Nat × Nat),x.2.1=res.2.length∧e=.returned (.iface 196 (.agg #[vI res.1.f_at,vI res.1.f_stop.f_place,vI res.1.f_stop.f_toll]))∧Ext Z W2 [R,ak f 198 [.slice x.1 x.2.1 x.2.2],aR x.1 x.2.2 196 3 x.2.1 (encL aA res.2)]:=by
 subst D
 unfold dm at h
 refine bh (m:=15) Tryz.func148 E E (nB E) hW (cS (cR (oY E (il (v:=.nilIface) E) (oN (eT (cS (cR (oY E (bK (v:=.iface 194 (.pointer (some ⟨f,0,none⟩))) E) ?_))))))))
 obtain⟨G,K,h⟩:=bOs h
 refine oY E (lN 1 [] E qj kJ ke go_147 E E (fun W2 o=>ia p0 G K W2 Aa p0.length ca E ((RdL.row 2 E) W2 o))) (oY E (ex E E) (oY E (yAI E) (oN (eT (cS (cR (oY E (bK (v:=.iface 194 (.pointer (some ⟨f,0,none⟩))) E) (oY E (yMI E) ?_))))))))
 obtain⟨H,M,h⟩:=bOs h
 refine lL [2] [.slice Aa p0.length ca] [vI 0,vI (w64 (G-1))] [] (fun(_:Unit)=>p0.length=H.length) (fun _=>.tuple #[]) (fun _=>[aR Aa ca 196 3 p0.length (encL aA H)]) (fun _=>[]) (Foc.c1 E) (by decide) E nN (exM_V 1 E ky kJ ke nN E) E (fun _=>E) (fun W2 o=>eV p0 0 (w64 (G-1)) H M W2 _ (bH [R,ak f 198 [.slice Aa p0.length ca],aR Aa ca 196 3 p0.length (encL aA p0)] [2]) Aa p0.length ca E o) ?_
 rintro-N
 try dsimp only[me,lsz,lss,List.append_nil]
 refine oN (eT (cS (cR (oY E (bK (v:=.iface 194 (.pointer (some ⟨f,0,none⟩))) E) (oY E (yMI E) ?_)))))
 obtain⟨w,O,h⟩:=bOs h
 refine gR [1,2] [] [.iface 194 (.pointer (some ⟨f,0,none⟩)),vI 0,vI (w64 (G-1))] [] (fun(x:(Option Addr × Nat × Nat))=>x.2.1=w.2.length) (fun _=>.bool w.1) (fun x=>[ak f 198 [.slice x.1 x.2.1 x.2.2],aR x.1 x.2.2 196 3 x.2.1 (encL aA w.2)]) (fun _=>[]) (Foc.c2 E E) (by decide) E go_177 E E (fun _=>E) (fun W2 o=>kU H 0 (w64 (G-1)) w O W2 _ (bH [R,ak f 198 [.slice Aa p0.length ca],aR Aa ca 196 3 p0.length (encL aA H)] [1,2]) f Aa p0.length ca (N) o) ?_
 rintro⟨Q,V,F⟩ u
 replace u:V=w.2.length:=u;subst u
 try dsimp only[me,lsz,lss,List.append_nil]
 refine oN (eT (cS (cR (oY E (bK (v:=.iface 194 (.pointer (some ⟨f,0,none⟩))) E) ?_))))
 obtain⟨g,I,h⟩:=bOs h
 refine lL [1,2] [.pointer (some ⟨f,0,none⟩)] [] [] (fun(x:(Option Addr × Nat × Nat))=>x.2.1=g.2.length) (fun _=>.iface 196 (.agg #[vI g.1.f_at,vI g.1.f_stop.f_place,vI g.1.f_stop.f_toll])) (fun x=>[ak f 198 [.slice x.1 x.2.1 x.2.2],aR x.1 x.2.2 196 3 x.2.1 (encL aA g.2)]) (fun _=>[]) (Foc.c2 E E) (by decide) E go_213 (exM_P me_194_Pop kJ go_213 E) E (fun _=>E) (fun W2 o=>np w.2 g I W2 _ (bH [R,ak f 198 [.slice Q w.2.length F],aR Q F 196 3 w.2.length (encL aA w.2)] [1,2]) f Q w.2.length F E o) ?_
 rintro⟨U,X,Y⟩ d
 replace d:X=g.2.length:=d;subst d
 try dsimp only[me,lsz,lss,List.append_nil]
 refine oY E (il (v:=.iface 196 (.agg #[vI g.1.f_at,vI g.1.f_stop.f_place,vI g.1.f_stop.f_toll])) E) (oN (eT (ap ?_)))
 obtain rfl:=sI h
 exact am (.inl E) E (rVt (v:=.iface 196 (.agg #[vI g.1.f_at,vI g.1.f_stop.f_place,vI g.1.f_stop.f_toll])) E) (fun W2 o=>⟨(U,g.2.length,Y),E,E,o.take 3⟩)
theorem nC (x:TR × Int) (hok:gq x) (o r:Nat) (A:Option Addr) (n c:Nat) (ys:List (Hd × TT)) (hn:n=x.1.fTracks.length) (hP:NestP (fun z:TT=>z.fK) ys x.1.fTracks) :
  SeqH Tryz.prog 178 [.pointer (some ⟨o,0,none⟩),.pointer (some ⟨r,0,none⟩)] (fun y:{y:Hd × TT // y∈ys}=>[.agg #[vI y.1.2.fID,vI y.1.2.fFrom,vI y.1.2.fTo,vI y.1.2.fLong,vI y.1.2.fToll,.slice y.1.1.1 y.1.1.2.1 y.1.1.2.2]])
   (fun W=>W.heap[o]? = some (.cells #[vI x.1.fPlaces,.slice A n c] 24 (0,0))∧W.heap[r]? = some (.cells #[vI x.2] 3 (0,0))∧Rd W A n c (encL TTrack_cells2 ys)) (seqE ys fun z=>z.fFrom==x.2):=by
 intro l J Jx W hJ hJx hH hy h0
 have hl:n=ys.length:=by rw[hn,←hP.eq,List.length_map]
 have hlen:ys.length=x.1.fTracks.length:=hl▸hn
 subst hl
 unfold gq at hok
 have hJE:∀{i:Nat} {A B:World},J i A→Ext A B []→J i B:=fun {i A B} hA hE=>AbidesFrom.ext hJ hA hE
 have hxE:∀{A B:World},Jx A→Ext A B []→Jx B:=fun {A B} hA hE=>AbidesFrom.ext (J:=fun(_:Unit)=>Jx) hJx (s:=()) hA hE
 have hH0:=hH 0 W h0
 obtain⟨dn,hdn⟩:∃dn:Nat→Nat,∀s,dn s=((ys.attach.take s).filter fun y=>y.1.2.fFrom==x.2).length:=⟨_,fun _=>E⟩
 have hd0:dn 0=0:=by rw[hdn];rfl
 have hdl:dn ys.length=(seqE ys fun z=>z.fFrom==x.2).length:=by rw[hdn,←List.length_attach (l:=ys),List.take_length];rfl
 refine rf (vs:=[.func (.yield l) #[] #[],.pointer (some ⟨o,0,none⟩),.pointer (some ⟨r,0,none⟩)]) (m:=24) Tryz.func178 E E (nB E) (cS (cR (oY E (yFR (A:=(some ⟨o,0,none⟩)) (j:=0) bU E) (oY E (yR (A:=(some ⟨o,0,none⟩)) (j:=(0+1)) (v:=.slice A ys.length c) gv (RdL.arg (Rd.blk hH0.1)) E E) (oY E (bi (us:=[]) i6 E) (oY E (yMI E) (oN (eT (cB ?_)))))))))
 refine cx_loopS (S:=Nat) (fun s u=>upd (upd (upd (upd (upd (upd u 0 (.func (.yield l) #[] #[])) 1 (.pointer (some ⟨o,0,none⟩))) 2 (.pointer (some ⟨r,0,none⟩))) 7 (.slice A ys.length c)) 8 (vI (ys.length:Int))) 9 (vI (s:Int)))
  (fun s W=>J (dn s) W∧s≤ys.length) (fun s=>ys.length-s) 0 _ (kp4 (kp (kp E)))
  (fun W' hW'=>⟨by rw[hd0];exact hJE h0 hW',Nat.zero_le _⟩) ?_
 rintro s u W1 ⟨hJ1,hs⟩
 obtain⟨hR1,hR2,hR⟩:=hH (dn s) W1 hJ1
 refine cS (cR (oY E (be E E) (oN (eT (cS ?_)))))
 rcases ar (decide ((s:Int)<(ys.length:Int)))with hq|hq
 ·have hlt:s<ys.length:=by have:=of_decide_eq_true hq;omega
  have h1:(0:Int)≤(s:Int):=by omega
  have h2:(s:Int)<(ys.length:Int):=by omega
  have hss:w64 ((s:Int)+1)=((s+1:Nat):Int):=by rw[bV (by omega) (by omega)];rfl
  have hrd:rdL ys (s:Int)=ys[s]:=by
   unfold rdL
   rw[Int.toNat_natCast,List.getD_eq_getElem?_getD,List.getElem?_eq_getElem hlt];rfl
  have hmem:rdL ys (s:Int)∈ys:=by rw[hrd];exact List.getElem_mem hlt
  have hat:ys.attach[s]? = some ⟨rdL ys (s:Int),hmem⟩:=by
   rw[List.getElem?_eq_getElem (by rw[List.length_attach];exact hlt),List.getElem_attach]
   exact congrArg some (Subtype.ext hrd.symm)
  have hdn1:=n1 (fun y:{y:Hd × TT // y∈ys}=>y.1.2.fFrom==x.2) ys.attach s _ hat
  rw[←hdn,←hdn]at hdn1
  dsimp only at hdn1
  refine cT (vB hq) (cK (eT (cS (cB (cS (cR ?_))))))
  refine oY E (yI jE (by decide) h1 h2 (RdL.arg hR) (eL au E) E E) ?_
  refine oY E (yM (A:=A) (j:=(Int.toNat (s:Int)*6)) [vI (rdL ys (s:Int)).2.fID,vI (rdL ys (s:Int)).2.fFrom,vI (rdL ys (s:Int)).2.fTo,vI (rdL ys (s:Int)).2.fLong,vI (rdL ys (s:Int)).2.fToll,.slice (rdL ys (s:Int)).1.1 (rdL ys (s:Int)).1.2.1 (rdL ys (s:Int)).1.2.2] gS (Nat.succ_pos _) (RdL.arg hR) E (bc au h1 (ah h2 E))) ?_
  refine aF ip E (fun d=>?_)
  refine cy E (yS 0 [vI (rdL ys (s:Int)).2.fID,vI (rdL ys (s:Int)).2.fFrom,vI (rdL ys (s:Int)).2.fTo,vI (rdL ys (s:Int)).2.fLong,vI (rdL ys (s:Int)).2.fToll,.slice (rdL ys (s:Int)).1.1 (rdL ys (s:Int)).1.2.1 (rdL ys (s:Int)).1.2.2] nU E (nB E) E E E) (oN (eT (cS (cR (oY E (yFA ii E) (oY E (yL 0 aK E E E) (oY E (yR (A:=(some ⟨r,0,none⟩)) (j:=0) (v:=vI x.2) aK (RdL.arg (Rd.blk hR2)) E E) (oY E (cZ E E) (oY E (yMB E) ?_)))))))))
  rcases ar ((rdL ys (s:Int)).2.fFrom==x.2)with hp|hp
  ·refine oY (sT E E E E hp) (bK (v:=.func (.yield l) #[] #[]) E) (oY (sT E E E E hp) (yN 0 [vI (rdL ys (s:Int)).2.fID,vI (rdL ys (s:Int)).2.fFrom,vI (rdL ys (s:Int)).2.fTo,vI (rdL ys (s:Int)).2.fLong,vI (rdL ys (s:Int)).2.fToll,.slice (rdL ys (s:Int)).1.1 (rdL ys (s:Int)).1.2.1 (rdL ys (s:Int)).1.2.2] gS E E E) ?_)
   have hget:(seqE ys fun z=>z.fFrom==x.2)[dn s]? = some ⟨rdL ys (s:Int),hmem⟩:=by
    rw[hdn]
    exact rX _ _ _ _ hat hp
   rw[if_pos hp]at hdn1
   refine ox_yield [.agg #[vI (rdL ys (s:Int)).2.fID,vI (rdL ys (s:Int)).2.fFrom,vI (rdL ys (s:Int)).2.fTo,vI (rdL ys (s:Int)).2.fLong,vI (rdL ys (s:Int)).2.fToll,.slice (rdL ys (s:Int)).1.1 (rdL ys (s:Int)).1.2.1 (rdL ys (s:Int)).1.2.2]] (A:=fun W'=>J (dn s+1) W') (B:=Jx) (sT E E E E hp) E E (fun W' hW'=>?_) (fun W' hA=>?_) (fun W' hB=>?_)
   ·exact hy (dn s) ⟨rdL ys (s:Int),hmem⟩ W' hget (hJE hJ1 hW'.none)
   ·refine oY (sT E E E E hp) (bD E) (oY E (ad (vB hp) E) (oN (eT (cF E (cK (aw (eT (cR (oY E (aL E E) (oY E (yMI E) (oN ?_)))))))))))
    rw[hss]
    exact tA (s+1) _ (kp4 (kp (kp E))) (by omega) (fun W3 f=>⟨by rw[hdn1];exact hJE hA f,by omega⟩)
   ·refine oY (sT E E E E hp) (bD E) (oY E (ad (vB hp) E) (oN (eT (cT E (ap (ae (ab ?_)))))))
    refine ex_sout (by intro h;cases h) ?_
    refine ae ?_
    exact cO (.inl E) E (fun W2 g=>⟨⟨_,E⟩,.inr (hxE hB g)⟩)
  ·rw[if_neg (by rw[hp];simp),Nat.add_zero]at hdn1
   refine oSk (sF E E E E hp) (oSk (sF E E E E hp) (oSk (sF E E E E hp) (oSk (sF E E E E hp) (oY E (ag (vB hp) E) (oN (eT (cF E (cK (aw (eT (cR (oY E (aL E E) (oY E (yMI E) (oN ?_))))))))))))))
   rw[hss]
   exact tA (s+1) _ (kp4 (kp (kp E))) (by omega) (fun W3 f=>⟨by rw[hdn1];exact hJE hJ1 f.none,by omega⟩)
 ·have hge:s=ys.length:=by have:=of_decide_eq_false hq;omega
  refine cF (vB hq) (aD (ai ?_))
  refine ex_sout (by intro h;cases h) ?_
  refine ac ?_
  exact cO (.inr E) E (fun W2 g=>⟨⟨_,E⟩,.inl (by rw[←hdl,←hge];exact hJE hJ1 g)⟩)
theorem pQ (p0:TR) (p1:Int) (res:Unit) (h:kG p0 p1=some res) (W:World) (Ab:Option Addr) (f cb:Nat) (g:List (Hd × TT)) (o:f=p0.fTracks.length) (r:Rd W Ab f cb (encL TTrack_cells2 g)) (u:NestW W (fun z:TT=>z.fK) TSpan_cells g p0.fTracks) :
  Calls Tryz.prog 149 [.agg #[vI p0.fPlaces,.slice Ab f cb],vI p1].toArray W fun e W2=>∃x:(Nat × Nat),e=.returned (.func (.func 178) #[] #[.pointer (some ⟨x.1,0,none⟩),.pointer (some ⟨x.2,0,none⟩)])∧Ext W W2 [ak x.1 24 [vI p0.fPlaces,.slice Ab f cb],ak x.2 3 [vI p1]]:=by
 subst o
 unfold kG at h
 refine aj (m:=6) Tryz.func149 E E (nB E) (cS (cR ?_))
 refine aN [vI p0.fPlaces,.slice Ab p0.fTracks.length cb] E E E (fun d=>?_)
 refine aN [vI p1] E E E (fun w=>?_)
 refine oY E (od E) (oN (eT (cS (cR (oY E (bZ [.pointer (some ⟨d,0,none⟩),.pointer (some ⟨w,0,none⟩)] E E) (oY E (fI E) (oN (eT (ap ?_)))))))))
 obtain rfl:=sI h
 exact am (.inl E) E (rVt (v:=.func (.func 178) #[] #[.pointer (some ⟨d,0,none⟩),.pointer (some ⟨w,0,none⟩)]) E) (fun W2 D=>⟨(d,w),E,D⟩)
theorem lT (p0:(List Twait)) (p1:Int) (res:(List Twait)) (h:dX p0 p1=some res) (W:World) (Y:World) (R:Res) (g:Nat) (Aa:Option Addr) (u ca:Nat) (F:u=p0.length) (hW:Ext Y W [R,ak g 198 [.slice Aa u ca],aR Aa ca 196 3 u (encL aA p0)]) :
  Calls Tryz.prog 179 [.iface 194 (.pointer (some ⟨g,0,none⟩)),vI p1].toArray W fun e W2=>∃x:(Option Addr × Nat × Nat),x.2.1=res.length∧e=.returned (.tuple #[])∧Ext Y W2 [R,ak g 198 [.slice x.1 x.2.1 x.2.2],aR x.1 x.2.2 196 3 x.2.1 (encL aA res)]:=by
 subst F
 unfold dX at h
 refine bh (m:=23) Tryz.func179 E E (nB E) hW (cB ?_)
 obtain⟨V,H,h⟩:=bOs h
 refine bj (fun(s:(Int × (List Twait))) L tm=>∃(w:Nat→Value),p0.length=s.2.length∧L=[R,ak g 198 [.slice Aa p0.length ca],aR Aa ca 196 3 p0.length (encL aA s.2)]∧tm=(upd (upd w 0 (.iface 194 (.pointer (some ⟨g,0,none⟩)))) 1 (vI s.1))) 0 H ⟨_,E,E,(kp (kp E))⟩ ?_ ?_
 ·rintro r L tm st ⟨N,o,rfl,rfl⟩ h
  unfold dH at h
  refine cB (cS (cR (oY E (yMI E) (oY E (ex E E) ?_))))
  refine oY E (y_quo (by decide) E E) ?_
  refine oY E (yAI E) (oN (eT (cS (cS (cR (oY E (yMI E) (oY E (yMI E) (oY E (cZ E E) (oY E (yMB E) ?_)))))))))
  obtain⟨Z,Q,h⟩:=bOs h
  refine oJ 6 (fun w=>(upd (upd (upd (upd w 0 (.iface 194 (.pointer (some ⟨g,0,none⟩)))) 1 (vI r.1)) 4 (vI (w64 (Int.tdiv (w64 (r.1-1)) 2)))) 17 (.bool Z))) (fun w=>?_) (fun key=>?_)
  ·refine oN (eT ?_)
   rcases iOs h with⟨G,h⟩|⟨G,h⟩
   ·refine cT (vB G) (aD (ai (iY E ?_)))
    obtain rfl:=sI h
    exact av ⟨E,_,o,E,(kp (kp E))⟩
   ·refine cF (vB G) (cK (eT (cS (cR (oY E (bK (v:=.iface 194 (.pointer (some ⟨g,0,none⟩))) E) (oY E (yMI E) (oY E (yMI E) ?_)))))))
    obtain⟨U,I,h⟩:=bOs h
    refine lL [2] [.slice Aa p0.length ca] [vI (w64 (Int.tdiv (w64 (r.1-1)) 2)),vI r.1] [] (fun(_:Unit)=>p0.length=U.length) (fun _=>.tuple #[]) (fun _=>[aR Aa ca 196 3 p0.length (encL aA U)]) (fun _=>[]) (Foc.c1 E) (by decide) E nN (exM_V 1 E ky kJ ke nN E) E (fun _=>E) (fun W2 d=>eV r.2 (w64 (Int.tdiv (w64 (r.1-1)) 2)) r.1 U I W2 _ (bH [R,ak g 198 [.slice Aa p0.length ca],aR Aa ca 196 3 p0.length (encL aA r.2)] [2]) Aa p0.length ca (o) d) ?_
    rintro-K
    try dsimp only[me,lsz,lss,List.append_nil]
    refine oN (eT (cR (oY E (yMI E) (oY E (yAI E) (oN (aw ?_))))))
    obtain rfl:=sI h
    exact eN ⟨_,K,E,(kp (kp E))⟩
  ·clear h;rcases iOs Q with⟨f,h⟩|⟨f,h⟩
   ·refine oSk (sF E E E E f) (oSk (sF E E E E f) (oSk (sF E E E E f) (oSk (sF E E E E f) (oSk (sF E E E E f) (oY E (ad (vB f) E) ?_)))))
    obtain rfl:=sI h
    exact key _ _ (kp4 E)
   ·refine oY (sT E E E E f) (bK (v:=.iface 194 (.pointer (some ⟨g,0,none⟩))) E) (oY (sT E E E E f) (yMI E) (oY (sT E E E E f) (yMI E) ?_))
    obtain⟨X,M,h⟩:=bOs h
    refine oY (sT E E E E f) (lN 1 [vI r.1,vI (w64 (Int.tdiv (w64 (r.1-1)) 2))] E kr kJ ke go_212 E E (fun W2 d=>eQ r.2 r.1 (w64 (Int.tdiv (w64 (r.1-1)) 2)) X M W2 Aa p0.length ca (o) ((RdL.row 2 E) W2 d))) (oY (sT E E E E f) (bD E) (oY E (ag (vB f) E) ?_))
    obtain rfl:=sI h
    exact key _ _ (kp4 E)
 ·intro e L tm hJ
  obtain⟨rfl,O,D,rfl,rfl⟩:=hJ
  refine⟨(by intro hc;cases hc),?_⟩
  refine ac ?_
  obtain rfl:=sI h
  exact cO (.inr E) E  (fun W2 d=>⟨(Aa,p0.length,ca),D,E,d.take 3⟩)
theorem mQ (p0:(List Twait)) (p1:Twait) (res:(List Twait)) (h:gG p0 p1=some res) (W:World) (d:World) (R:Res) (f:Nat) (Aa:Option Addr) (g ca:Nat) (o:g=p0.length) (hW:Ext d W [R,ak f 198 [.slice Aa g ca],aR Aa ca 196 3 g (encL aA p0)]) :
  Calls Tryz.prog 214 [.pointer (some ⟨f,0,none⟩),.iface 196 (.agg #[vI p1.f_at,vI p1.f_stop.f_place,vI p1.f_stop.f_toll])].toArray W fun e W2=>∃x:(Option Addr × Nat × Nat),x.2.1=res.length∧e=.returned (.tuple #[])∧Ext d W2 [R,ak f 198 [.slice x.1 x.2.1 x.2.2],aR x.1 x.2.2 196 3 x.2.1 (encL aA res)]:=by
 subst o
 unfold gG at h
 refine bh (m:=13) Tryz.func214 E E (nB E) hW ?_
 obtain⟨r,h⟩:=gOs h
 refine gI [[],[],[1],[1,2],[],[4],[4,5],[1,2,3,4,5,6],[0,1,2,3,4,5,6,7],[0,1,2,3,4,5,6,7,8]] [(none,0,[true,true,false]),(none,0,[true,true,true]),(none,0,[true,true,true]),(none,0,[true,true,true]),(none,0,[true,true,true]),(none,0,[true,true,true]),(none,1,[true,true,true]),(some 2,0,[true,true,true,true]),(none,0,[true,true,true,true]),(some 1,0,[true,true,true,true])] [⟨fun _=>.pointer (some ⟨f,0,none⟩),fun _=>noR,fun _=>[]⟩,⟨fun _=>.pointer (some ⟨f,0,none⟩),fun _=>noR,fun _=>[]⟩,⟨fun _=>.pointer (some ⟨f,0,none⟩),fun _=>noR,fun _=>[]⟩,⟨fun _=>.slice Aa p0.length ca,fun _=>noR,fun _=>[]⟩,⟨fun _=>.iface 196 (.agg #[vI p1.f_at,vI p1.f_stop.f_place,vI p1.f_stop.f_toll]),fun _=>noR,fun _=>[]⟩,⟨fun _=>.agg #[vI p1.f_at,vI p1.f_stop.f_place,vI p1.f_stop.f_toll],fun _=>noR,fun _=>[]⟩,⟨fun ξ1=>.slice (some ⟨(ξ1 6 0).2.1,0,none⟩) 1 1,fun _=>noR,fun ξ1=>[aR (some ⟨(ξ1 6 0).2.1,0,none⟩) 1 196 3 1 (encL aA [p1])]⟩,⟨fun ξ1=>.slice (ξ1 7 0).1 (p0.length+1) (ξ1 7 0).2.2.1,fun ξ1=>aR (ξ1 7 0).1 (ξ1 7 0).2.2.1 196 3 (p0.length+1) (encL aA (p0++[p1])),fun _=>[]⟩,⟨fun _=>.pointer (some ⟨f,0,none⟩),fun _=>noR,fun _=>[]⟩,⟨fun _=>undef,fun ξ1=>ak f 198 [.slice (ξ1 7 0).1 (p0.length+1) (ξ1 7 0).2.2.1],fun _=>[]⟩] 3 bW (by kernel_rfl) (by kernel_rfl) ⟨⟨fun ξ1 ξ1' h=>⟨E,E,E⟩,fun _=>E⟩,⟨fun ξ1 ξ1' h=>⟨E,E,E⟩,fun _=>E⟩,⟨fun ξ1 ξ1' h=>⟨E,E,E⟩,fun _=>E⟩,⟨fun ξ1 ξ1' h=>⟨E,E,E⟩,fun _=>E⟩,⟨fun ξ1 ξ1' h=>⟨E,E,E⟩,fun _=>E⟩,⟨fun ξ1 ξ1' h=>⟨E,E,E⟩,fun _=>E⟩,⟨fun ξ1 ξ1' h=>⟨by simp only[h 6 (.inl E)],E,by simp only[h 6 (.inl E)]⟩,fun _=>E⟩,⟨fun ξ1 ξ1' h=>⟨by simp only[h 7 (.inl E)],by simp only[h 7 (.inl E)],E⟩,fun _=>E⟩,⟨fun ξ1 ξ1' h=>⟨E,E,E⟩,fun _=>E⟩,⟨fun ξ1 ξ1' h=>⟨E,by simp only[h 7 (.inr E)],E⟩,fun _=>E⟩,trivial⟩ E (fun ξ1=>?_)
 refine cW E (fun L2=>?_) ?_
 ·dsimp only[aM,lca,lna]
  refine oY E (lJ E) (oN ?_)
  exact az (fun _=>(none,0,0,[],noR)) E (List.append_nil _)
 dsimp only[cg,lsz,lss,lna,lca,List.append_nil]
 refine cW E (fun L2=>?_) ?_
 ·dsimp only[aM,lca,lna]
  refine oY E (lJ E) (oN ?_)
  exact az (fun _=>(none,0,0,[],noR)) E (List.append_nil _)
 dsimp only[cg,lsz,lss,lna,lca,List.append_nil]
 refine cW E (fun L2=>?_) ?_
 ·dsimp only[aM,lca,lna]
  refine oY E (kj E) (oN ?_)
  exact az (fun _=>(none,0,0,[],noR)) E (List.append_nil _)
 dsimp only[cg,lsz,lss,lna,lca,List.append_nil]
 refine cW E (fun L2=>?_) ?_
 ·dsimp only[aM,lca,lna]
  refine oY E (yL 1 ke E E E) (oN ?_)
  exact az (fun _=>(none,0,0,[],noR)) E (List.append_nil _)
 dsimp only[cg,lsz,lss,lna,lca,List.append_nil]
 refine cW E (fun L2=>?_) ?_
 ·dsimp only[aM,lca,lna]
  refine oY E (bK (v:=.iface 196 (.agg #[vI p1.f_at,vI p1.f_stop.f_place,vI p1.f_stop.f_toll])) E) (oN ?_)
  exact az (fun _=>(none,0,0,[],noR)) E (List.append_nil _)
 dsimp only[cg,lsz,lss,lna,lca,List.append_nil]
 refine cW E (fun L2=>?_) ?_
 ·dsimp only[aM,lca,lna]
  refine oY E (nH qE E) (oN ?_)
  exact az (fun _=>(none,0,0,[],noR)) E (List.append_nil _)
 dsimp only[cg,lsz,lss,lna,lca,List.append_nil]
 refine cW E (fun L2=>?_) ?_
 ·dsimp only[aM,lca,lna]
  refine aP 1 (encL aA [p1]) _ mc_196_1 qm oQ by_196 (by decide) (by decide) (by kernel_rfl) (eL aX E) E (fun F=>?_)
  refine oN ?_
  exact az (fun _=>(none,F,0,[],noR)) E E
 dsimp only[cg,lsz,lss,lna,lca,List.append_nil]
 refine cW E (fun L2=>?_) ?_
 ·dsimp only[aM,lca,lna]
  refine cx 2 qm oQ by_196 E E E (RdL.row 3 E) (eL aX E) (ef po _) (eR r (by decide)) E (fun w D=>?_)
  refine oN ?_
  first|exact az (fun _=>(w,0,D,[],noR)) E E|exact az (fun _=>(w,0,D,[],noR)) E (List.append_nil _)
 dsimp only[cg,lsz,lss,lna,lca,List.append_nil]
 refine cW E (fun L2=>?_) ?_
 ·dsimp only[aM,lca,lna]
  refine oY E (kj E) (oN ?_)
  exact az (fun _=>(none,0,0,[],noR)) E (List.append_nil _)
 dsimp only[cg,lsz,lss,lna,lca,List.append_nil]
 refine gx_n E (fun L2=>?_) ?_
 ·dsimp only[aM,lca,lna]
  refine cy E (dJ 1 (v:=.slice (ξ1 7 0).1 (p0.length+1) (ξ1 7 0).2.2.1) sz_198 E (Nat.lt_of_lt_of_le (Nat.lt_succ_self _) (nB E)) E E E) (oN ?_)
  first|exact ci (fun _=>(none,0,0,[],noR)) E|exact ci (fun _=>(none,0,0,[],noR)) (List.append_nil _)
 dsimp only[cg,lsz,lss,lna,lca,List.append_nil]
 refine my ?_
 obtain rfl:=sI h
 exact cO (.inr E) E  (fun W2 u=>⟨((ξ1 7 0).1,(p0.length+1),(ξ1 7 0).2.2.1),(jM E E),E,u.take 3⟩)
theorem kT (p0:(List Twait)) (p1:Twait) (res:(List Twait)) (h:da p0 p1=some res) (W:World) (U:World) (R:Res) (f:Nat) (Aa:Option Addr) (o ca:Nat) (d:o=p0.length) (hW:Ext U W [R,ak f 198 [.slice Aa o ca],aR Aa ca 196 3 o (encL aA p0)]) :
  Calls Tryz.prog 150 [.iface 194 (.pointer (some ⟨f,0,none⟩)),.iface 196 (.agg #[vI p1.f_at,vI p1.f_stop.f_place,vI p1.f_stop.f_toll])].toArray W fun e W2=>∃x:(Option Addr × Nat × Nat),x.2.1=res.length∧e=.returned (.tuple #[])∧Ext U W2 [R,ak f 198 [.slice x.1 x.2.1 x.2.2],aR x.1 x.2.2 196 3 x.2.1 (encL aA res)]:=by
 subst d
 unfold da at h
 refine bh (m:=12) Tryz.func150 E E (nB E) hW (cS (cR (oY E (bK (v:=.iface 194 (.pointer (some ⟨f,0,none⟩))) E) (oY E (bK (v:=.iface 196 (.agg #[vI p1.f_at,vI p1.f_stop.f_place,vI p1.f_stop.f_toll])) E) ?_))))
 obtain⟨r,I,h⟩:=bOs h
 refine lL [1,2] [.pointer (some ⟨f,0,none⟩)] [.iface 196 (.agg #[vI p1.f_at,vI p1.f_stop.f_place,vI p1.f_stop.f_toll])] [] (fun(x:(Option Addr × Nat × Nat))=>x.2.1=r.length) (fun _=>.tuple #[]) (fun x=>[ak f 198 [.slice x.1 x.2.1 x.2.2],aR x.1 x.2.2 196 3 x.2.1 (encL aA r)]) (fun _=>[]) (Foc.c2 E E) (by decide) E go_214 (exM_P su kJ go_214 E) E (fun _=>E) (fun W2 g=>mQ p0 p1 r I W2 _ (bH [R,ak f 198 [.slice Aa p0.length ca],aR Aa ca 196 3 p0.length (encL aA p0)] [1,2]) f Aa p0.length ca E g) ?_
 rintro⟨G,X,H⟩ w
 replace w:X=r.length:=w;subst w
 try dsimp only[me,lsz,lss,List.append_nil]
 refine oN (eT (cR (oY E (bK (v:=.iface 194 (.pointer (some ⟨f,0,none⟩))) E) (oY E (bK (v:=.iface 194 (.pointer (some ⟨f,0,none⟩))) E) ?_))))
 obtain⟨K,M,h⟩:=bOs h
 refine oY E (lN 1 [] E qj kJ ke go_147 E E (fun W2 g=>ia r K M W2 G r.length H E ((RdL.row 2 E) W2 g))) (oY E (ex E E) ?_)
 obtain⟨D,F,h⟩:=bOs h
 refine gR [1,2] [] [.iface 194 (.pointer (some ⟨f,0,none⟩)),vI (w64 (K-1))] [] (fun(x:(Option Addr × Nat × Nat))=>x.2.1=D.length) (fun _=>.tuple #[]) (fun x=>[ak f 198 [.slice x.1 x.2.1 x.2.2],aR x.1 x.2.2 196 3 x.2.1 (encL aA D)]) (fun _=>[]) (Foc.c2 E E) (by decide) E go_179 E E (fun _=>E) (fun W2 g=>lT r (w64 (K-1)) D F W2 _ (bH [R,ak f 198 [.slice G r.length H],aR G H 196 3 r.length (encL aA r)] [1,2]) f G r.length H E g) ?_
 rintro⟨N,O,Q⟩ u
 replace u:O=D.length:=u;subst u
 try dsimp only[me,lsz,lss,List.append_nil]
 refine oN ?_
 obtain rfl:=sI h
 exact cO (.inr E) E  (fun W2 g=>⟨(N,D.length,Q),E,E,g.take 3⟩)
end Go.Proofs.YthndghnkebboaaaGreat
