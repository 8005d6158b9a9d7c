import Derived.Test.YtcleeakjghgbdaaF
import Derived.Test.YtcleeakjghgbdaaGr
set_option maxHeartbeats 4000000
set_option maxRecDepth 100000
set_option linter.unusedVariables false
namespace Go.Proofs.Ytcleeakjghgbdaa
open Go.RowKit (Below)
attribute [local irreducible] OX QX CX EX OpY Calls CallsIn
theorem gR  (res:TBatch) (h:dZ=some res) (W:World)  :
  Calls Try.prog 11 [].toArray W fun e W2=>e=.returned (.agg #[vI res.fBarrows,vI res.fSeen.x0,vI res.fSeen.x1,vI res.fSeen.x2,vI res.fKnown.x0.fLo,vI res.fKnown.x0.fHi,vI res.fKnown.x1.fLo,vI res.fKnown.x1.fHi,vI res.fKnown.x2.fLo,vI res.fKnown.x2.fHi])∧Ext W W2 []:=by
 unfold dZ at h
 refine ad (m:=7) Try.func11 E E (nB E) (cS (cR ?_))
 refine aG eV E (fun g=>?_)
 refine oN (eT (cS (cR ?_)))
 refine oY E (dS [vI 1,vI 1,vI 0] fF eP iR (by kernel_rfl)) ?_
 refine oY E (aw [vI 0,vI 3] [(0,1),(1,1)] eh dz (by kernel_rfl)) ?_
 refine oY E (aw [vI 0,vI 3] [(0,1),(1,1)] eh dz (by kernel_rfl)) ?_
 refine oY E (aw [vI 0,vI 3] [(0,1),(1,1)] eh dz (by kernel_rfl)) ?_
 refine oY E (dS [vI 0,vI 3,vI 0,vI 3,vI 0,vI 3] j2 ze_26 eK (by kernel_rfl)) ?_
 refine oY E (aw [vI 3,vI 1,vI 1,vI 0,vI 0,vI 3,vI 0,vI 3,vI 0,vI 3] [(0,1),(1,3),(4,6)] jI eV (by kernel_rfl)) ?_
 refine cg E (yS 0 [vI 3,vI 1,vI 1,vI 0,vI 0,vI 3,vI 0,vI 3,vI 0,vI 3] gV E (nB E) E E E) (oN (eT (ag ?_)))
 obtain rfl:=sI h
 exact am (.inl E) E (av 0 [vI 3,vI 1,vI 1,vI 0,vI 0,vI 3,vI 0,vI 3,vI 0,vI 3] a6 E E E) (fun W2 f=>⟨E,f.none⟩)
theorem aS (p0:Int) (p1:Int) (p2:Int) (res:Bool) (h:aQ p0 p1 p2=some res) (W:World)  :
  Calls Try.prog 34 [vI p0,vI p1,vI p2].toArray W fun e W2=>e=.returned (.bool res)∧Ext W W2 []:=by
 unfold aQ at h
 refine ad (m:=15) Try.func34 E E (nB E) (cS (cR (oY E (yAB E) (oN (eT (cS (cR (oY E (yMI E) (oY E (yMI E) (oY E (jx E E) (oY E (yMB E) ?_)))))))))))
 refine oJ 4 (fun g=>(upd (upd g 6 (.bool false)) 14 (.bool ((decide (p1≤p0))&&(decide (p0≤p2)))))) (fun g=>?_) (fun key=>?_)
 ·refine oY E (yAB E) (oN (eT (ag ?_)))
  obtain rfl:=sI h
  exact am (.inl E) E (rVt (v:=.bool ((decide (p1≤p0))&&(decide (p0≤p2)))) E) (fun W2 o=>⟨E,o.none⟩)
 ·rcases ar (decide (p1≤p0))with f|f
  ·refine oY (sT E E E E f) (yMI E) (oY (sT E E E E f) (yMI E) (oY (sT E E E E f) (jx E E) (oY E (ai (vB f) E) ?_)))
   exact key _ _ (keep (keep E E) (vB (fP f)))
  ·refine oSk (sF E E E E f) (oSk (sF E E E E f) (oSk (sF E E E E f) (oY E (aj (vB f) E) ?_)))
   exact key _ _ (keep (keep E E) (vB (fI f)))
theorem bh (p0:Int) (p1:Int) (res:Int) (h:bn p0 p1=some res) (W:World)  :
  Calls Try.prog 35 [vI p0,vI p1].toArray W fun e W2=>e=.returned (vI res)∧Ext W W2 []:=by
 unfold bn at h
 refine ad (m:=30) Try.func35 E E (nB E) (cS (cR (oY E (yAI E) (oN (eT (cS (cS (cR (oY E (yMI E) (oY E (yMI E) (oY E (eZ E E) (oN (eT ?_)))))))))))))
 rcases iOs h with⟨f,h⟩|⟨f,h⟩
 ·refine cT (vB f) (cS (cR (oY E (yAI E) (oN (eT (ag (aa ?_)))))))
  obtain rfl:=sI h
  exact am (.inl E) E (rVt (v:=vI 0) E) (fun W2 g=>⟨E,g.none⟩)
 ·refine cF (vB f) (cK (eT (cS (cR (oY E (yMI E) (oY E (yMI E) (oY E (yMI E) (oY E (cG E E) (oY E (jX E E) (oY E (yAI E) (oN (eT (cS (cR (oY E (yAI E) (oN (eT (cS (cS (cR (oY E (yAI E) (oN (eT (cB ?_))))))))))))))))))))))))
  obtain⟨F,d,h⟩:=bOs h
  refine a8 (fun(s:(Int × Int)) L tm=>∃(w:Nat→Value),L=[]∧tm=(upd (upd (upd (upd (upd w 0 (vI p0)) 1 (vI (min p1 (w64 (p0-p1))))) 4 (vI 0)) 5 (vI s.1)) 6 (vI s.2))) 0 d ⟨_,E,(kp4 (kp E))⟩ ?_ ?_
  ·rintro G L tm st ⟨r,rfl,rfl⟩ h
   unfold fz at h
   refine cS (cS (cR (oY E (yMI E) (oY E (yMI E) (oY E (jx E E) (oN (eT ?_)))))))
   rcases iOs h with⟨o,h⟩|⟨o,h⟩
   ·refine cT (vB o) (cK (eT (cS (cB (cR (oY E (yMI E) (oY E (yMI E) (oY E (yMI E) (oY E (cG E E) (oY E (yMI E) (oY E (bf E E) (oY E (jo E E) (oY E (yMI E) ?_)))))))))))))
    obtain⟨D,h⟩:=gOs h
    refine oY E (y_quo D E E) (oY E (yAI E) (oN (ay (eT (cR (oY E (yMI E) (oY E (bf E E) (oY E (yAI E) (oN ?_)))))))))
    obtain rfl:=sI h
    exact eN ⟨_,E,(kp4 (kp E))⟩
   ·refine cF (vB o) (aR (al ?_))
    obtain rfl:=sI h
    exact aD ⟨E,_,E,(kp4 (kp E))⟩
  ·intro e L tm hJ
   obtain⟨rfl,u,rfl,rfl⟩:=hJ
   refine⟨(by intro hc;cases hc),?_⟩
   refine ak (eT (cS (cR (oY E (yMI E) (oY E (yAI E) (oN (eT (ag ?_))))))))
   obtain rfl:=sI h
   exact am (.inl E) E (rVt (v:=vI F.1) E) (fun W2 g=>⟨E,g.none⟩)
theorem ib (p0:Int) (p1:Int) (res:(Int × Int)) (h:fv p0 p1=some res) (W:World)  :
  Calls Try.prog 12 [vI p0,vI p1].toArray W fun e W2=>e=.returned (.tuple #[vI res.1,vI res.2])∧Ext W W2 []:=by
 unfold fv at h
 refine ad (m:=16) Try.func12 E E (nB E) (cS (cR (oY E (yAI E) (oY E (yAI E) (oN (eT (cS (cS (cR (oY E (yMI E) ?_))))))))))
 obtain⟨u,d,h⟩:=bOs h
 refine oY E (yC [vI p0,vI 0,vI 50] iO E (fun W2 g=>aS p0 0 50 u d W2 ) E) (oY E (dL E) (oY E (yMB E) ?_))
 refine oJ 3 (fun r=>(upd (upd (upd (upd (upd r 0 (vI p0)) 1 (vI p1)) 4 (vI 0)) 5 (vI 0)) 12 (.bool ((!u)||(decide (p1<0)))))) (fun r=>?_) (fun key=>?_)
 ·refine oN (eT ?_)
  rcases iOs h with⟨o,h⟩|⟨o,h⟩
  ·refine cT (vB o) (cS (cR (oY E (yAI E) (oY E (yAI E) (oN (eT (ag (aa ?_))))))))
   obtain rfl:=sI h
   exact aW (.inl E) E (rVt (v:=vI 0) E) (rVt (v:=vI 1) E) (fun W2 g=>⟨E,g.none⟩)
  ·refine cF (vB o) (cK (eT (cS (cR (oY E (yMI E) (oY E (yMI E) ?_))))))
   obtain⟨D,w,h⟩:=bOs h
   refine oY E (yC [vI p0,vI p1] jP E (fun W2 g=>bh p0 p1 D w W2 ) E) (oY E (yAI E) (oY E (yAI E) (oN (eT (ag ?_)))))
   obtain rfl:=sI h
   exact aW (.inl E) E (rVt (v:=vI D) E) (rVt (v:=vI 0) E) (fun W2 g=>⟨E,g.none⟩)
 ·rcases ar (!u)with f|f
  ·refine oSk (sF E E E E f) (oSk (sF E E E E f) (oY E (ai (vB f) E) ?_))
   exact key _ _ (keep (keep (keep (keep (keep E E) E) E) E) (vB (jG f)))
  ·refine oY (sT E E E E f) (yMI E) (oY (sT E E E E f) (cX E E) (oY E (aj (vB f) E) ?_))
   exact key _ _ (keep (keep (keep (keep (keep E E) E) E) E) (vB (jH f)))
theorem ce (p0:(List Int)) (p1:Int→Option Int) (res:Int) (h:bD p0 p1=some res) (W:World) (Aa:Option Addr) (f ca:Nat) (r:f=p0.length) (g:Rd W Aa f ca (aL cI p0)) (fid1:Nat) (fst1 caps1:List Value) (w:cx Try.prog fid1=true) (D:∀W2,Below W.heap.size W W2→∀x,∀y,p1 x=some y→Calls Try.prog fid1 (fst1++(([vI x]:List Value)++caps1)).toArray W2 fun e W3=>e=.returned (vI y)∧Ext W2 W3 []) :
  Calls Try.prog 45 [.slice Aa f ca,.func (.func fid1) fst1.toArray caps1.toArray].toArray W fun e W2=>e=.returned (vI res)∧Ext W W2 []:=by
 subst r
 unfold bD at h
 refine ad (m:=21) Try.func45 E E (nB E) (cS (cR (oY E (yAI E) (oN (eT (cS (cR (oY E (yAI E) (oN (eT (cS (cS (cR (oY E (yMS E) (oY E (bZ (us:=[]) hU E) (oY E (yMI E) (oN (eT (cB ?_)))))))))))))))))))
 obtain⟨N,I,h⟩:=bOs h
 refine a8 (fun(s:(Int × Int)) L tm=>∃(K:Nat→Value),L=[]∧tm=(upd (upd (upd (upd (upd (upd K 1 (.func (.func fid1) fst1.toArray caps1.toArray)) 4 (vI 0)) 5 (vI s.1)) 8 (.slice Aa p0.length ca)) 9 (vI (p0.length:Int))) 10 (vI s.2))) 0 I ⟨_,E,(kp4 (kp (kp E)))⟩ ?_ ?_
 ·rintro F L tm st ⟨G,rfl,rfl⟩ h
  unfold aT at h
  refine cS (cR (oY E (cX E E) (oN (eT (cS ?_)))))
  rcases iOs h with⟨u,h⟩|⟨u,h⟩
  ·refine cT (vB u) (cK (eT (cS (cB (cS (cR ?_))))))
   obtain⟨o,h⟩:=gOs h
   refine oY E (yI kA (by decide) o.1 o.2 (RdL.arg g) (eL fw E) E E) ?_
   refine oY E (yR (A:=Aa) (j:=(Int.toNat F.2*1)) (v:=vI (rdL p0 F.2)) az (RdL.arg g) E (gv fw o.1 (bC o.2 E) E)) (oY E (yAI E) (oN (eT (cR (oY E (yMI E) (oY E (dN (v:=.func (.func fid1) fst1.toArray caps1.toArray) E) (oY E (yMI E) ?_)))))))
   obtain⟨O,M,h⟩:=bOs h
   refine oY E (kl [vI (rdL p0 F.2)] w E E (fun W2 d=>D W2 d.below (rdL p0 F.2) O M)) (oY E (bf E E) (oY E (yAI E) (oN (ay (eT (cR (oY E (bf E E) (oY E (yMI E) (oN ?_)))))))))
   obtain rfl:=sI h
   exact eN ⟨_,E,(kp4 (kp (kp E)))⟩
  ·refine cF (vB u) (aR (al ?_))
   obtain rfl:=sI h
   exact aD ⟨E,_,E,(kp4 (kp (kp E)))⟩
 ·intro e L tm hJ
  obtain⟨rfl,H,rfl,rfl⟩:=hJ
  refine⟨(by intro hc;cases hc),?_⟩
  refine ak (eT (cS (cR (oY E (yMI E) (oY E (yAI E) (oN (eT (ag ?_))))))))
  obtain rfl:=sI h
  exact am (.inl E) E (rVt (v:=vI N.1) E) (fun W2 d=>⟨E,d.none⟩)
theorem g9 (p0:Int) (res:Int) (h:bQ p0=some res) (W:World)  :
  Calls Try.prog 60 [vI p0].toArray W fun e W2=>e=.returned (vI res)∧Ext W W2 []:=by
 unfold bQ at h
 refine ad (m:=5) Try.func60 E E (nB E) (cS (cR (oY E (yAI E) (oN (eT (cS (cR (oY E (yMI E) (oY E (jX E E) (oY E (yAI E) (oN (eT (ag ?_)))))))))))))
 obtain rfl:=sI h
 exact am (.inl E) E (rVt (v:=vI (min p0 51)) E) (fun W2 f=>⟨E,f.none⟩)
theorem bo (p0:TKinds) (res:Int) (h:bc p0=some res) (W:World)  :
  Calls Try.prog 37 [.agg #[vI p0.x0,vI p0.x1,vI p0.x2]].toArray W fun e W2=>e=.returned (vI res)∧Ext W W2 []:=by
 unfold bc at h
 refine ad (m:=5) Try.func37 E E (nB E) (cS (cR ?_))
 refine aV [vI p0.x0,vI p0.x1,vI p0.x2] E E E (fun o=>?_)
 refine oY E (yAI E) (oN (eT (cS (cR (oY E (kx fF iR E) ?_)))))
 obtain⟨r,g,h⟩:=bOs h
 refine oY E (yC [.slice (some ⟨o,0,none⟩) 3 3,.func (.func 60) #[] #[]] lf E (fun W2 f=>ce [p0.x0,p0.x1,p0.x2] (fun u=>bQ u) r g W2 (some ⟨o,0,none⟩) 3 3 E ((RdL.cellsAs 0 3 E) W2 f) 60 [] [] go_60 (fun W3 hb x y hxy=>g9  x  y hxy W3 )) E) (oY E (yAI E) (oN (eT (ag ?_))))
 obtain rfl:=sI h
 exact am (.inl E) E (rVt (v:=vI r) E) (fun W2 f=>⟨E,f.none⟩)
theorem cw (p0:TKinds) (res:Bool) (h:bd p0=some res) (W:World)  :
  Calls Try.prog 58 [.agg #[vI p0.x0,vI p0.x1,vI p0.x2]].toArray W fun e W2=>e=.returned (.bool res)∧Ext W W2 []:=by
 unfold bd at h
 refine ad (m:=11) Try.func58 E E (nB E) (cS (cR ?_))
 refine aV [vI p0.x0,vI p0.x1,vI p0.x2] E E E (fun g=>?_)
 refine oY E (yAB E) (oN (eT (cS (cR ?_))))
 refine oY E (aq cY (by decide) (by decide) E E) ?_
 refine oY E (yL 0 az E E E) ?_
 refine oY E (aq cY (by decide) (by decide) E E) ?_
 refine oY E (yL 0 az E E E) ?_
 refine oY E (aq cY (by decide) (by decide) E E) ?_
 refine oY E (yL 0 (v:=vI p0.x2) az E E E) (oY E (y_min3 E E E) (oY E (js E E) (oY E (yAB E) (oN (eT (ag ?_))))))
 obtain rfl:=sI h
 exact am (.inl E) E (rVt (v:=.bool (decide (0≤min (min p0.x0 p0.x1) p0.x2))) E) (fun W2 f=>⟨E,f.none⟩)
theorem hX (p0:TKinds) (p1:TKinds) (res:Int) (h:fo p0 p1=some res) (W:World)  :
  Calls Try.prog 36 [.agg #[vI p0.x0,vI p0.x1,vI p0.x2],.agg #[vI p1.x0,vI p1.x1,vI p1.x2]].toArray W fun e W2=>e=.returned (vI res)∧Ext W W2 []:=by
 unfold fo at h
 refine ad (m:=19) Try.func36 E E (nB E) (cS (cR ?_))
 refine aV [vI p0.x0,vI p0.x1,vI p0.x2] E E E (fun X=>?_)
 refine aV [vI p1.x0,vI p1.x1,vI p1.x2] E E E (fun N=>?_)
 refine oY E (yAI E) (oN (eT (cS (cS (cR (oY E (yN 0 [vI p0.x0,vI p0.x1,vI p0.x2] bm E E E) ?_))))))
 obtain⟨O,H,h⟩:=bOs h
 refine oY E (yC [.agg #[vI p0.x0,vI p0.x1,vI p0.x2]] go_58 E (fun W2 o=>cw p0 O H W2 ) E) (oY E (dL E) (oY E (yMB E) ?_))
 obtain⟨Q,I,h⟩:=bOs h
 refine oJ 5 (fun r=>(upd (upd (upd r 3 (.pointer (some ⟨N,0,none⟩))) 4 (vI 0)) 13 (.bool Q))) (fun r=>?_) (fun key=>?_)
 ·refine oY E (yMB E) ?_
  obtain⟨U,w,h⟩:=bOs h
  refine oJ 4 (fun r=>(upd (upd r 4 (vI 0)) 18 (.bool U))) (fun r=>?_) (fun key=>?_)
  ·refine oN (eT ?_)
   rcases iOs h with⟨u,h⟩|⟨u,h⟩
   ·refine cT (vB u) (cS (cR (oY E (yAI E) (oN (eT (ag (aa ?_)))))))
    obtain rfl:=sI h
    exact am (.inl E) E (rVt (v:=vI 1) E) (fun W2 o=>⟨E,o.none⟩)
   ·refine cF (vB u) (cK (eT (cS (cR (oY E (yAI E) (oN (eT (ag ?_))))))))
    obtain rfl:=sI h
    exact am (.inl E) E (rVt (v:=vI 0) E) (fun W2 o=>⟨E,o.none⟩)
  ·clear h;rcases iOs w with⟨g,h⟩|⟨g,h⟩
   ·refine oSk (sF E E E E g) (oSk (sF E E E E g) (oSk (sF E E E E g) (oY E (ai (vB g) E) ?_)))
    obtain rfl:=sI h
    exact key _ _ (kp (kp E))
   ·refine oY (sT E E E E g) (yN 1 [vI p1.x0,vI p1.x1,vI p1.x2] bm E E E) ?_
    obtain⟨K,D,h⟩:=bOs h
    refine oY (sT E E E E g) (yC [.agg #[vI p1.x0,vI p1.x1,vI p1.x2]] go_58 E (fun W2 o=>cw p1 K D W2 ) E) (oY (sT E E E E g) (dL E) (oY E (aj (vB g) E) ?_))
    obtain rfl:=sI h
    exact key _ _ (kp (kp E))
 ·clear h;rcases iOs I with⟨f,h⟩|⟨f,h⟩
  ·refine oSk (sF E E E E f) (oSk (sF E E E E f) (oSk (sF E E E E f) (oSk (sF E E E E f) (oY E (ai (vB f) E) ?_))))
   obtain rfl:=sI h
   exact key _ _ (kp (kp (kp E)))
  ·refine oY (sT E E E E f) (yN 0 [vI p0.x0,vI p0.x1,vI p0.x2] bm E E E) ?_
   obtain⟨d,F,h⟩:=bOs h
   refine oY (sT E E E E f) (yC [.agg #[vI p0.x0,vI p0.x1,vI p0.x2]] jy E (fun W2 o=>bo p0 d F W2 ) E) ?_
   obtain⟨M,G,h⟩:=bOs h
   refine oY (sT E E E E f) (yC [vI d,vI 1,vI 50] iO E (fun W2 o=>aS d 1 50 M G W2 ) E) (oY (sT E E E E f) (dL E) (oY E (aj (vB f) E) ?_))
   obtain rfl:=sI h
   exact key _ _ (kp (kp (kp E)))
theorem dj (p0:Int) (p1:Int) (res:TRatio) (h:df p0 p1=some res) (W:World)  :
  Calls Try.prog 38 [vI p0,vI p1].toArray W fun e W2=>e=.returned (.agg #[vI res.fNum,vI res.fDen])∧Ext W W2 []:=by
 unfold df at h
 refine ad (m:=22) Try.func38 E E (nB E) (cS (cR ?_))
 refine aG ee E (fun H=>?_)
 refine oN (eT (cS (cR (oY E (yMI E) (oY E (yMI E) (oY E (yAI E) (oY E (yAI E) (oN (eT (cS (cB ?_)))))))))))
 obtain⟨g,u,h⟩:=bOs h
 refine a8 (fun(s:(Int × Int)) L tm=>∃(d:Nat→Value),L=[ac H 49 [vI 0,vI 0]]∧tm=(upd (upd (upd (upd (upd d 0 (vI p0)) 1 (vI p1)) 4 (.pointer (some ⟨H,0,none⟩))) 5 (vI s.1)) 6 (vI s.2))) 0 u ⟨_,E,(kp4 (kp E))⟩ ?_ ?_
 ·rintro I L tm st ⟨o,rfl,rfl⟩ h
  unfold fU at h
  refine cS (cS (cR (oY E (yMI E) (oY E (eZ E E) (oN (eT ?_))))))
  rcases iOs h with⟨f,h⟩|⟨f,h⟩
  ·refine cT (vB f) (cK (eT (cB ?_)))
   refine aK 6 cm (by kernel_rfl) (by kernel_rfl) ?_
   refine qY E (yMI E) (qY E (yMI E) (qY E (yMI E) ?_))
   obtain⟨w,h⟩:=gOs h
   refine qY E (y_rem w E E) (qY E (yAI E) (qY E (yAI E) (bt (oN (ay ?_)))))
   obtain rfl:=sI h
   exact eN ⟨_,E,(kp4 (kp E))⟩
  ·refine cF (vB f) (aR (al ?_))
   obtain rfl:=sI h
   exact aD ⟨E,_,E,(kp4 (kp E))⟩
 ·intro e L tm hJ
  obtain⟨rfl,r,rfl,rfl⟩:=hJ
  refine⟨(by intro hc;cases hc),?_⟩
  refine ak (eT (cS ?_))
  refine aK 7 cm (by kernel_rfl) (by kernel_rfl) ?_
  refine qY E (yMI E) (qY E (yMI E) ?_)
  obtain⟨D,h⟩:=gOs h
  refine qY E (y_quo D E E) (qY E (yMI E) (qY E (yMI E) ?_))
  obtain⟨F,h⟩:=gOs h
  refine qY E (y_quo F E E) ?_
  refine qY E (aw [vI (w64 (Int.tdiv p0 g.1)),vI (w64 (Int.tdiv p1 g.1))] [(0,1),(1,1)] eu ee (by kernel_rfl)) ?_
  refine bt (cg E (yS 0 [vI (w64 (Int.tdiv p0 g.1)),vI (w64 (Int.tdiv p1 g.1))] g0 E (nB E) E E E) (oN (eT (ag ?_))))
  obtain rfl:=sI h
  exact am (.inl E) E (av 0 [vI (w64 (Int.tdiv p0 g.1)),vI (w64 (Int.tdiv p1 g.1))] dF E E E) (fun W2 G=>⟨E,G.none⟩)
theorem gh (p0:TKinds) (p1:TKinds) (res:Int) (h:fh p0 p1=some res) (W:World)  :
  Calls Try.prog 39 [.agg #[vI p0.x0,vI p0.x1,vI p0.x2],.agg #[vI p1.x0,vI p1.x1,vI p1.x2]].toArray W fun e W2=>e=.returned (vI res)∧Ext W W2 []:=by
 unfold fh at h
 refine ad (m:=22) Try.func39 E E (nB E) (cS (cR ?_))
 refine aV [vI p0.x0,vI p0.x1,vI p0.x2] E E E (fun I=>?_)
 refine aV [vI p1.x0,vI p1.x1,vI p1.x2] E E E (fun H=>?_)
 refine oY E (yAI E) (oN (eT (cS (cR (oY E (yAI E) (oN (eT (cS (cS (cR (oY E (yN 0 [vI p0.x0,vI p0.x1,vI p0.x2] bm E E E) (oY E (yMI E) (oN (eT (cB ?_)))))))))))))))
 obtain⟨K,o,h⟩:=bOs h
 refine a8 (fun(s:(Int × Int)) L tm=>∃(G:Nat→Value),L=[ac I 23 [vI p0.x0,vI p0.x1,vI p0.x2],ac H 23 [vI p1.x0,vI p1.x1,vI p1.x2]]∧tm=(upd (upd (upd (upd (upd G 3 (.pointer (some ⟨H,0,none⟩))) 4 (vI 0)) 5 (vI s.1)) 8 (.agg #[vI p0.x0,vI p0.x1,vI p0.x2])) 9 (vI s.2))) 0 o ⟨_,E,(kp4 (kp E))⟩ ?_ ?_
 ·rintro r L tm st ⟨D,rfl,rfl⟩ h
  unfold gg at h
  refine cS (cR (oY E (cX E E) (oN (eT (cS ?_)))))
  rcases iOs h with⟨f,h⟩|⟨f,h⟩
  ·refine cT (vB f) (cK (eT (cS (cB (cS (cR (oY E (yMI E) ?_)))))))
   obtain⟨u,h⟩:=gOs h
   refine oY E (iF (a:=p0.x0) (b:=p0.x1) (c:=p0.x2) fF az u.1 u.2 E E) (oY E (yAI E) (oY E (yAI E) (oN (eT (cR (oY E (yMI E) (oY E (yMI E) (oY E (yMI E) ?_))))))))
   obtain⟨g,h⟩:=gOs h
   refine oY E (aq cY g.1 g.2 E E) ?_
   refine oY E (yL 1 (v:=vI (aH p1.x0 p1.x1 p1.x2 r.2)) az E E (by rcases in3 g with e|e|e <;> rw[e] <;> rfl)) ?_
   obtain⟨M,d,h⟩:=bOs h
   refine oY E (yC [vI (aH p0.x0 p0.x1 p0.x2 r.2),vI (aH p1.x0 p1.x1 p1.x2 r.2)] jP E (fun W2 w=>bh (aH p0.x0 p0.x1 p0.x2 r.2) (aH p1.x0 p1.x1 p1.x2 r.2) M d W2 ) E) (oY E (jo E E) (oY E (yAI E) (oN (ay (eT (cR (oY E (bf E E) (oY E (yMI E) (oN ?_)))))))))
   obtain rfl:=sI h
   exact eN ⟨_,E,(kp4 (kp E))⟩
  ·refine cF (vB f) (aR (al ?_))
   obtain rfl:=sI h
   exact aD ⟨E,_,E,(kp4 (kp E))⟩
 ·intro e L tm hJ
  obtain⟨rfl,F,rfl,rfl⟩:=hJ
  refine⟨(by intro hc;cases hc),?_⟩
  refine ak (eT (cS (cR (oY E (yMI E) (oY E (yAI E) (oN (eT (ag ?_))))))))
  obtain rfl:=sI h
  exact am (.inl E) E (rVt (v:=vI K.1) E) (fun W2 w=>⟨E,w.none⟩)
theorem hQ (p0:TKinds) (p1:TKinds) (res:(TRatio × Int)) (h:ft p0 p1=some res) (W:World)  :
  Calls Try.prog 13 [.agg #[vI p0.x0,vI p0.x1,vI p0.x2],.agg #[vI p1.x0,vI p1.x1,vI p1.x2]].toArray W fun e W2=>e=.returned (.tuple #[.agg #[vI res.1.fNum,vI res.1.fDen],vI res.2])∧Ext W W2 []:=by
 unfold ft at h
 refine ad (m:=29) Try.func13 E E (nB E) (cS (cR ?_))
 refine aV [vI p0.x0,vI p0.x1,vI p0.x2] E E E (fun Y=>?_)
 refine aV [vI p1.x0,vI p1.x1,vI p1.x2] E E E (fun Z=>?_)
 refine aG ee E (fun V=>?_)
 refine oY E (yAI E) (oN (eT (cS (cS (cR (oY E (yN 0 [vI p0.x0,vI p0.x1,vI p0.x2] bm E E E) (oY E (yN 1 [vI p1.x0,vI p1.x1,vI p1.x2] bm E E E) ?_)))))))
 obtain⟨Q,N,h⟩:=bOs h
 refine oY E (yC [.agg #[vI p0.x0,vI p0.x1,vI p0.x2],.agg #[vI p1.x0,vI p1.x1,vI p1.x2]] go_36 E (fun W2 f=>hX p0 p1 Q N W2 ) E) (oY E (yAI E) (oN (eT (cS (cR (oY E (yMI E) (oY E (bO E E) (oN (eT ?_)))))))))
 rcases iOs h with⟨r,h⟩|⟨r,h⟩
 ·refine cT (vB r) (cS (cR ?_))
  refine oY E (aw [vI 0,vI 0] [(0,1),(1,1)] eu ee (by kernel_rfl)) ?_
  refine oY E (yMI E) (cg E (yS 2 [vI 0,vI 0] g0 E (nB E) E E E) (oY E (yAI E) (oN (eT (ag (aa ?_))))))
  obtain rfl:=sI h
  exact aW (.inl E) E (av 2 [vI 0,vI 0] dF E E E) (rVt (v:=vI Q) E) (fun W2 f=>⟨E,f.none⟩)
 ·refine cF (vB r) (cK (eT (cS (cS ?_))))
  refine aK 5 cm (by kernel_rfl) (by kernel_rfl) ?_
  refine qY E (yN 1 [vI p1.x0,vI p1.x1,vI p1.x2] bm E E E) ?_
  obtain⟨U,O,h⟩:=bOs h
  refine qY E (yC [.agg #[vI p1.x0,vI p1.x1,vI p1.x2]] jy E (fun W2 f=>bo p1 U O W2 ) E) (qY E (yN 0 [vI p0.x0,vI p0.x1,vI p0.x2] bm E E E) ?_)
  obtain⟨X,F,h⟩:=bOs h
  refine qY E (yC [.agg #[vI p0.x0,vI p0.x1,vI p0.x2]] jy E (fun W2 f=>bo p0 X F W2 ) E) (qY E (eZ E E) (bt (oN (eT ?_))))
  rcases iOs h with⟨g,h⟩|⟨g,h⟩
  ·refine cT (vB g) (cS (cR ?_))
   refine oY E (aw [vI 0,vI 0] [(0,1),(1,1)] eu ee (by kernel_rfl)) ?_
   refine cg E (yS 2 [vI 0,vI 0] g0 E (nB E) E E E) (oY E (yAI E) (oN (eT (ag (aa ?_)))))
   obtain rfl:=sI h
   exact aW (.inl E) E (av 2 [vI 0,vI 0] dF E E E) (rVt (v:=vI 3) E) (fun W2 f=>⟨E,f.none⟩)
  ·refine cF (vB g) (cK (eT (cS ?_)))
   refine aK 9 cm (by kernel_rfl) (by kernel_rfl) ?_
   refine qY E (yN 0 [vI p0.x0,vI p0.x1,vI p0.x2] bm E E E) (qY E (yN 1 [vI p1.x0,vI p1.x1,vI p1.x2] bm E E E) ?_)
   obtain⟨u,G,h⟩:=bOs h
   refine qY E (yC [.agg #[vI p0.x0,vI p0.x1,vI p0.x2],.agg #[vI p1.x0,vI p1.x1,vI p1.x2]] go_39 E (fun W2 f=>gh p0 p1 u G W2 ) E) (qY E (yN 0 [vI p0.x0,vI p0.x1,vI p0.x2] bm E E E) ?_)
   obtain⟨d,H,h⟩:=bOs h
   refine qY E (yC [.agg #[vI p0.x0,vI p0.x1,vI p0.x2]] jy E (fun W2 f=>bo p0 d H W2 ) E) (qY E (yN 1 [vI p1.x0,vI p1.x1,vI p1.x2] bm E E E) ?_)
   obtain⟨w,I,h⟩:=bOs h
   refine qY E (yC [.agg #[vI p1.x0,vI p1.x1,vI p1.x2]] jy E (fun W2 f=>bo p1 w I W2 ) E) ?_
   obtain⟨D,K,h⟩:=bOs h
   refine qY E (yC [vI d,vI w] jP E (fun W2 f=>bh d w D K W2 ) E) ?_
   obtain⟨o,M,h⟩:=bOs h
   refine qY E (yC [vI u,vI D] go_38 E (fun W2 f=>dj u D o M W2 ) E) (bt (cg E (yS 2 [vI o.fNum,vI o.fDen] g0 E (nB E) E E E) (oY E (yAI E) (oN (eT (ag ?_))))))
   obtain rfl:=sI h
   exact aW (.inl E) E (av 2 [vI o.fNum,vI o.fDen] dF E E E) (rVt (v:=vI 0) E) (fun W2 f=>⟨E,f.none⟩)
theorem dp (p0:Int) (f:TBatch) (res:Int) (h:dk p0 f=some res) (W:World) (g:Nat) (o:Rd W (some ⟨g,0,none⟩) 1 1 (aE f)) :
  Calls Try.prog 62 [vI p0,.pointer (some ⟨g,0,none⟩)].toArray W fun e W2=>e=.returned (vI res)∧Ext W W2 []:=by
 unfold dk at h
 refine ad (m:=14) Try.func62 E E (nB E) (cS (cR (oY E (yAI E) (oN (eT (cS ?_))))))
 refine aK 11 cm (by kernel_rfl) (by kernel_rfl) ?_
 refine qY E (yMI E) (qY E (yFR (A:=(some ⟨g,0,none⟩)) (j:=0) bA E) ?_)
 obtain⟨r,h⟩:=gOs h
 refine qY E (dW (A:=(some ⟨g,0,none⟩)) (j:=(0+1)) cY r.1 r.2 E E) ?_
 refine qY E (yR (A:=(some ⟨g,0,none⟩)) (j:=((0+1)+Int.toNat p0*1)) (v:=vI (aH f.fSeen.x0 f.fSeen.x1 f.fSeen.x2 p0)) az (RdL.arg o) E (by rcases in3 r with e|e|e <;> rw[e] <;> rfl)) ?_
 refine qY E (yMI E) (qY E (yFR (A:=(some ⟨g,0,none⟩)) (j:=0) d5 E) ?_)
 obtain⟨u,h⟩:=gOs h
 refine qY E (dW (A:=(some ⟨g,0,none⟩)) (j:=(0+4)) iS u.1 u.2 E E) (qY E (yFR (A:=(some ⟨g,0,none⟩)) (j:=((0+4)+Int.toNat p0*2)) dc E) ?_)
 refine qY E (yR (A:=(some ⟨g,0,none⟩)) (j:=(((0+4)+Int.toNat p0*2)+0)) (v:=vI (aH f.fKnown.x0.fLo f.fKnown.x1.fLo f.fKnown.x2.fLo p0)) az (RdL.arg o) E (by rcases in3 u with e|e|e <;> rw[e] <;> rfl)) ?_
 refine qY E (kP E E) (qY E (yAI E) (bt (oN (eT (ag ?_)))))
 obtain rfl:=sI h
 exact am (.inl E) E (rVt (v:=vI (max (aH f.fSeen.x0 f.fSeen.x1 f.fSeen.x2 p0) (aH f.fKnown.x0.fLo f.fKnown.x1.fLo f.fKnown.x2.fLo p0))) E) (fun W2 d=>⟨E,d.none⟩)
theorem ck (b:TBatch) (hok:be b) (w:World) (bl bb:Nat) (h1:w.heap[bl]? = some (.cells #[.func (.func 62) #[] #[.pointer (some ⟨bb,0,none⟩)]] 94 (0,0))) (h2:w.heap[bb]? = some (.cells (aE b).toArray 28 (0,0))) :
  SeqX Try.prog 63 [.pointer (some ⟨bl,0,none⟩),.pointer (some ⟨bb,0,none⟩)] (fun x:TKinds=>[.agg #[vI x.x0,vI x.x1,vI x.x2]]) [bl,bb] (dG b) w:=by
 intro l J Jx W hb hJ hJx hy h0
 obtain⟨xs,hxs⟩:∃xs,xs=dG b:=⟨_,E⟩
 rw[←hxs]at hy ⊢
 let H:World→Prop:=fun W=>W.heap[bl]? = some (.cells #[.func (.func 62) #[] #[.pointer (some ⟨bb,0,none⟩)]] 94 (0,0))∧W.heap[bb]? = some (.cells (aE b).toArray 28 (0,0))
 have hHE:∀{A B:World},H A→Ext A B []→H B:=fun {A B} hA hE=>⟨(hE.below.block bl (bv hA.1)).trans hA.1,(hE.below.block bb (bv hA.2)).trans hA.2⟩
 have hH:H W:=⟨(hb.block bl (bv h1)).trans h1,(hb.block bb (bv h2)).trans h2⟩
 have hJE:∀{i:Nat} {A B:World},J i A→Ext A B []→J i B:=fun {i A B} hA hE=>AbidesFrom.ext hJ hA hE
 have hxE:∀{A B:World},Jx A→Ext A B []→Jx B:=fun {A B} hA hE=>AbidesFrom.ext (J:=fun(_:Unit)=>Jx) hJx (s:=()) hA hE
 unfold be at hok
 have lo:∀(i:Int),0≤i∧i<3→dk i b=some (max (aH b.fSeen.x0 b.fSeen.x1 b.fSeen.x2 i) (aH b.fKnown.x0.fLo b.fKnown.x1.fLo b.fKnown.x2.fLo i)):=fun i hi=>by
  unfold dk
  rw[ah hi,ah hi]
 refine jc (vs:=[.func (.yield l) #[] #[],.pointer (some ⟨bl,0,none⟩),.pointer (some ⟨bb,0,none⟩)]) (m:=50) Try.func63 E E (nB E) (cS (cR (oY E (yR (A:=(some ⟨bl,0,none⟩)) (j:=0) (v:=.func (.func 62) #[] #[.pointer (some ⟨bb,0,none⟩)]) sc_94 (RdL.arg (Rd.blk hH.1)) E E) ?_)))
 refine oY E (gl (caps:=[.pointer (some ⟨bb,0,none⟩)]) [vI 0] go_62 E E (fun W2 f=>dp 0 b _ (lo 0 (by decide)) W2 bb (Rd.blk (hHE hH f).2))) ?_
 refine oY E (yAI E) (oN (eT (cB ?_)))
 let hi0:=b.fKnown.x0.fHi
 let lo1:=max b.fSeen.x1 b.fKnown.x1.fLo
 let hi1:=b.fKnown.x1.fHi
 refine kk (S:=Int × Nat) (fun s o=>upd (upd (upd (upd o 0 (.func (.yield l) #[] #[])) 1 (.pointer (some ⟨bl,0,none⟩))) 2 (.pointer (some ⟨bb,0,none⟩))) 4 (vI s.1))
  (fun s W=>H W∧J s.2 W∧s.2≤xs.length∧0≤s.1∧s.1≤51∧xs.drop s.2=di b (hi0+1-s.1).toNat s.1) (fun s=>(hi0+1-s.1).toNat) (max b.fSeen.x0 b.fKnown.x0.fLo,0) _ (kp4 E)
  (fun W' hW'=>⟨hHE hH hW',hJE h0 hW',Nat.zero_le _,(by simp only[];omega),(by simp only[];omega),(by rw[List.drop_zero,hxs];rfl)⟩) ?_
 rintro⟨x,i⟩ o W1 ⟨hH1,hJ1,hi1',hx0,hx1,hdr⟩
 simp only[]at hJ1 hi1' hx0 hx1 hdr
 refine cS (cS (cR (oY E (yMI E) (oY E (yFR (A:=(some ⟨bb,0,none⟩)) (j:=0) d5 E) ?_))))
 refine oY E (dW (A:=(some ⟨bb,0,none⟩)) (j:=0+4) iS (by decide) (by decide) E E) ?_
 refine oY E (yFR (A:=(some ⟨bb,0,none⟩)) (j:=0+4+Int.toNat 0*2) cz E) (oY E (yR (A:=(some ⟨bb,0,none⟩)) (j:=0+4+Int.toNat 0*2+1) (v:=vI b.fKnown.x0.fHi) az (RdL.arg (Rd.blk hH1.2)) E E) (oY E (jx E E) (oN (eT ?_))))
 rcases ar (decide (x≤hi0))with hp|hp
 ·have hxh:x≤hi0:=of_decide_eq_true hp
  obtain⟨c,hc⟩:∃c,(hi0+1-x).toNat=c+1:=⟨(hi0+1-x).toNat-1,by omega⟩
  have hc':(hi0+1-(x+1)).toNat=c:=by omega
  rw[hc]at hdr
  refine cT (vB hp) (cK (eT (cS (cB (cS (cR (oY E (yR (A:=(some ⟨bl,0,none⟩)) (j:=0) (v:=.func (.func 62) #[] #[.pointer (some ⟨bb,0,none⟩)]) sc_94 (RdL.arg (Rd.blk hH1.1)) E E) ?_)))))))
  refine oY E (gl (caps:=[.pointer (some ⟨bb,0,none⟩)]) [vI 1] go_62 E E (fun W2 f=>dp 1 b _ (lo 1 (by decide)) W2 bb (Rd.blk (hHE hH1 f).2))) ?_
  refine oY E (yAI E) (oN (eT (cB ?_)))
  refine kk (S:=Int × Nat) (fun s o=>upd (upd (upd (upd (upd o 0 (.func (.yield l) #[] #[])) 1 (.pointer (some ⟨bl,0,none⟩))) 2 (.pointer (some ⟨bb,0,none⟩))) 4 (vI x)) 5 (vI s.1))
   (fun s W=>H W∧J s.2 W∧s.2≤xs.length∧0≤s.1∧s.1≤51∧xs.drop s.2=dh b x (hi1+1-s.1).toNat s.1++di b c (x+1)) (fun s=>(hi1+1-s.1).toNat) (lo1,i) _ (kp4 (kp E))
   (fun W' hW'=>⟨hHE hH1 hW',hJE hJ1 hW',hi1',(by simp only[lo1];omega),(by simp only[lo1];omega),hdr⟩) ?_
  rintro⟨y,j⟩ D W2 ⟨hH2,hJ2,hj1,u,d,hdy⟩
  simp only[]at hJ2 hj1 u d hdy
  refine cS (cS (cR (oY E (yMI E) (oY E (yFR (A:=(some ⟨bb,0,none⟩)) (j:=0) d5 E) ?_))))
  refine oY E (dW (A:=(some ⟨bb,0,none⟩)) (j:=0+4) iS (by decide) (by decide) E E) ?_
  refine oY E (yFR (A:=(some ⟨bb,0,none⟩)) (j:=0+4+Int.toNat 1*2) cz E) (oY E (yR (A:=(some ⟨bb,0,none⟩)) (j:=0+4+Int.toNat 1*2+1) (v:=vI b.fKnown.x1.fHi) az (RdL.arg (Rd.blk hH2.2)) E E) (oY E (jx E E) (oN (eT ?_))))
  rcases ar (decide (y≤hi1))with hq|hq
  ·have hyh:y≤hi1:=of_decide_eq_true hq
   obtain⟨r,hc2⟩:∃r,(hi1+1-y).toNat=r+1:=⟨(hi1+1-y).toNat-1,by omega⟩
   have hc2':(hi1+1-(y+1)).toNat=r:=by omega
   rw[hc2]at hdy
   have hz1:w64 (b.fBarrows-x)=b.fBarrows-x:=bJ (by omega) (by omega)
   have hz:w64 (w64 (b.fBarrows-x)-y)=b.fBarrows-x-y:=by rw[hz1,bJ (by omega) (by omega)]
   refine cT (vB hq) (cK (eT (cS (cB (cS (cR (oY E (yFR (A:=(some ⟨bb,0,none⟩)) (j:=0) cU E) (oY E (yR (A:=(some ⟨bb,0,none⟩)) (j:=0+0) (v:=vI b.fBarrows) az (RdL.arg (Rd.blk hH2.2)) E E) (oY E (yMI E) (oY E (cG E E) (oY E (yMI E) (oY E (cG E E) ?_))))))))))))
   rw[hz]
   refine oY E (yAI E) (oN (eT (cS ?_)))
   refine aK 14 cm (by kernel_rfl) (by kernel_rfl) ?_
   refine qY E (yMI E) (qY E (yR (A:=(some ⟨bl,0,none⟩)) (j:=0) (v:=.func (.func 62) #[] #[.pointer (some ⟨bb,0,none⟩)]) sc_94 (RdL.arg (Rd.blk hH2.1)) E E) ?_)
   refine qY E (gl (caps:=[.pointer (some ⟨bb,0,none⟩)]) [vI 2] go_62 E E (fun W2 f=>dp 2 b _ (lo 2 (by decide)) W2 bb (Rd.blk (hHE hH2 f).2))) ?_
   refine qY E (yFR (A:=(some ⟨bb,0,none⟩)) (j:=0) d5 E) ?_
   refine qY E (dW (A:=(some ⟨bb,0,none⟩)) (j:=0+4) iS (by decide) (by decide) E E) ?_
   refine qY E (yFR (A:=(some ⟨bb,0,none⟩)) (j:=0+4+Int.toNat 2*2) cz E) (qY E (yR (A:=(some ⟨bb,0,none⟩)) (j:=0+4+Int.toNat 2*2+1) (v:=vI b.fKnown.x2.fHi) az (RdL.arg (Rd.blk hH2.2)) E E) ?_)
   let lo2:=max b.fSeen.x2 b.fKnown.x2.fLo
   let hi2:=b.fKnown.x2.fHi
   let z:=b.fBarrows-x-y
   have hwi:aQ z lo2 hi2=some (decide (lo2≤z)&&decide (z≤hi2)):=rfl
   refine qY E (yC [vI z,vI lo2,vI hi2] iO E (fun W2 f=>aS z lo2 hi2 _ hwi W2) E) (qY E (yMB E) ?_)
   have hyy:w64 (y+1)=y+1:=bJ (by omega) (by omega)
   unfold dh at hdy
   rcases ar (decide (lo2≤z)&&decide (z≤hi2))with hw|hw
   ·have hwp:lo2≤z∧z≤hi2:=by simpa using hw
    rw[if_pos hwp,List.append_assoc,List.singleton_append]at hdy
    have hget:xs[j]? = some ⟨x,y,z⟩:=by
     have:=congrArg (fun l=>l[0]?) hdy
     simpa using this
    have hjl:j<xs.length:=(List.getElem?_eq_some_iff.1 hget).1
    have hdr2:xs.drop (j+1)=dh b x r (y+1)++di b c (x+1):=by
     have:=congrArg (List.drop 1) hdy
     simpa using this
    refine qY (sT E E E E hw) (dN (v:=.func (.yield l) #[] #[]) E) (qY (sT E E E E hw) (yMI E) (qY (sT E E E E hw) (yMI E) (qY (sT E E E E hw) (yMI E) ?_)))
    refine qY (sT E E E E hw) (dS [vI x,vI y,vI z] fF eP iR (by kernel_rfl)) ?_
    refine bt ?_
    refine ox_yield [.agg #[vI x,vI y,vI z]] (A:=fun W'=>J (j+1) W'∧H W') (B:=Jx) (sT E E E E hw) E E (fun W' hW'=>?_) (fun W' hA=>?_) (fun W' hB=>?_)
    ·obtain⟨fn,tmps,assign,body,hr,hR⟩:=hy j ⟨x,y,z⟩ W' hget (hJE hJ2 hW')
     refine⟨fn,tmps,assign,body,hr,hR.mono ?_⟩
     rintro e W3 (⟨rfl,h3,h4⟩|⟨rfl,h3⟩)
     ·have h5:=hHE hH2 hW'
      exact .inl ⟨E,h3,(h4 bl (by simp)).trans h5.1,(h4 bb (by simp)).trans h5.2⟩
     ·exact .inr ⟨E,h3⟩
    ·refine oY (sT E E E E hw) (dL E) (oY E (ai (vB hw) E) (oN (eT (cF E (cK (ay (eT (cR (oY E (yMI E) (oY E (bf E E) (oY E (yAI E) (oN ?_))))))))))))
     rw[hyy]
     refine jg (y+1,j+1) _ (kp4 (kp E)) (by simp only[];omega) (fun W3 g=>⟨hHE hA.2 g,hJE hA.1 g,hjl,(by simp only[];omega),(by simp only[];omega),?_⟩)
     simp only[]
     rw[hc2']
     exact hdr2
    ·refine oY (sT E E E E hw) (dL E) (oY E (ai (vB hw) E) (oN (eT (cT E (ag (aA (aa ?_)))))))
     refine jf (by intro h;cases h) ?_
     refine aA (aA (aa ?_))
     refine jf (by intro h;cases h) ?_
     refine aA ?_
     exact i3 (.inl E) E (fun W2 f=>⟨⟨_,E⟩,.inr (hxE hB f)⟩)
   ·have hwn:¬(lo2≤z∧z≤hi2):=fun h=>by
     rw[Bool.and_eq_false_iff]at hw
     rcases hw with hw|hw
     ·exact absurd h.1 (of_decide_eq_false hw)
     ·exact absurd h.2 (of_decide_eq_false hw)
    rw[if_neg hwn,lna]at hdy
    refine ab (sF E E E E hw) (ab (sF E E E E hw) (ab (sF E E E E hw) (ab (sF E E E E hw) (ab (sF E E E E hw) (bt (oSk (sF E E E E hw) (oSk (sF E E E E hw) (oY E (aj (vB hw) E) (oN (eT (cF E (cK (ay (eT (cR (oY E (yMI E) (oY E (bf E E) (oY E (yAI E) (oN ?_)))))))))))))))))))
    rw[hyy]
    refine jg (y+1,j) _ (kp4 (kp E)) (by simp only[];omega) (fun W3 g=>⟨hHE hH2 g,hJE hJ2 g,hj1,(by simp only[];omega),(by simp only[];omega),?_⟩)
    simp only[]
    rw[hc2']
    exact hdy
  ·refine cF (vB hq) (aR (al ?_))
   refine jf (by intro h;cases h) ?_
   refine ak (ay (eT (cR (oY E (yMI E) (oY E (bf E E) (oY E (yAI E) (oN ?_)))))))
   have hx1':w64 (x+1)=x+1:=bJ (by omega) (by omega)
   rw[hx1']
   have hyh:¬y≤hi1:=of_decide_eq_false hq
   refine jg (x+1,j) _ (kp4 E) (by simp only[];omega) (fun W' hW'=>⟨hHE hH2 hW',hJE hJ2 hW',hj1,(by simp only[];omega),(by simp only[];omega),?_⟩)
   simp only[]
   rw[hc']
   rw[show(hi1+1-y).toNat=0 by omega]at hdy
   exact hdy
 ·refine cF (vB hp) (aR (al ?_))
  refine jf (by intro h;cases h) ?_
  refine ak ?_
  have hxh:¬x≤hi0:=of_decide_eq_false hp
  rw[show(hi0+1-x).toNat=0 by omega]at hdr
  refine i3 (.inr E) E (fun W2 f=>⟨⟨_,E⟩,.inl ?_⟩)
  have hil:i=xs.length:=by
   have:=congrArg List.length hdr
   rw[List.length_drop]at this
   simp only[di,List.length_nil]at this
   omega
  rw[←hil]
  exact hJE hJ1 f
theorem c6 (p0:TBatch) (res:TBatch) (h:ci p0=some res) (W:World)  :
  Calls Try.prog 41 [.agg #[vI p0.fBarrows,vI p0.fSeen.x0,vI p0.fSeen.x1,vI p0.fSeen.x2,vI p0.fKnown.x0.fLo,vI p0.fKnown.x0.fHi,vI p0.fKnown.x1.fLo,vI p0.fKnown.x1.fHi,vI p0.fKnown.x2.fLo,vI p0.fKnown.x2.fHi]].toArray W fun e W2=>∃x:(Nat × Nat),e=.returned (.func (.func 63) #[] #[.pointer (some ⟨x.2,0,none⟩),.pointer (some ⟨x.1,0,none⟩)])∧Ext W W2 [ac x.1 28 [vI res.fBarrows,vI res.fSeen.x0,vI res.fSeen.x1,vI res.fSeen.x2,vI res.fKnown.x0.fLo,vI res.fKnown.x0.fHi,vI res.fKnown.x1.fLo,vI res.fKnown.x1.fHi,vI res.fKnown.x2.fLo,vI res.fKnown.x2.fHi],ac x.2 94 [.func (.func 62) #[] #[.pointer (some ⟨x.1,0,none⟩)]]]:=by
 unfold ci at h
 refine ad (m:=6) Try.func41 E E (nB E) (cS (cR ?_))
 refine aV [vI p0.fBarrows,vI p0.fSeen.x0,vI p0.fSeen.x1,vI p0.fSeen.x2,vI p0.fKnown.x0.fLo,vI p0.fKnown.x0.fHi,vI p0.fKnown.x1.fLo,vI p0.fKnown.x1.fHi,vI p0.fKnown.x2.fLo,vI p0.fKnown.x2.fHi] E E E (fun f=>?_)
 refine oY E (fx E) (oN (eT (cS (cR (oY E (gZ [.pointer (some ⟨f,0,none⟩)] E E) ?_)))))
 refine aG ze_94 E (fun g=>?_)
 refine cg E (dE 1 (v:=.func (.func 62) #[] #[.pointer (some ⟨f,0,none⟩)]) sz_94 E (Nat.lt_of_lt_of_le (Nat.lt_succ_self _) (nB E)) E E E) (oN (eT (cS (cR (oY E (gZ [.pointer (some ⟨g,0,none⟩),.pointer (some ⟨f,0,none⟩)] E E) (oY E (cC E) (oN (eT (ag ?_)))))))))
 obtain rfl:=sI h
 exact am (.inl E) E (rVt (v:=.func (.func 63) #[] #[.pointer (some ⟨g,0,none⟩),.pointer (some ⟨f,0,none⟩)]) E) (fun W2 o=>⟨(f,g),E,o⟩)
theorem cd (p0:TBatch) (res:Int) (h:bB p0=some res) (W:World)  :
  Calls Try.prog 27 [.agg #[vI p0.fBarrows,vI p0.fSeen.x0,vI p0.fSeen.x1,vI p0.fSeen.x2,vI p0.fKnown.x0.fLo,vI p0.fKnown.x0.fHi,vI p0.fKnown.x1.fLo,vI p0.fKnown.x1.fHi,vI p0.fKnown.x2.fLo,vI p0.fKnown.x2.fHi]].toArray W fun e W2=>e=.returned (vI res)∧Ext W W2 []:=by
 unfold bB at h
 refine eA (m:=49) Try.func27 E E (nB E) (cS (cR ?_))
 refine aV [vI p0.fBarrows,vI p0.fSeen.x0,vI p0.fSeen.x1,vI p0.fSeen.x2,vI p0.fKnown.x0.fLo,vI p0.fKnown.x0.fHi,vI p0.fKnown.x1.fLo,vI p0.fKnown.x1.fHi,vI p0.fKnown.x2.fLo,vI p0.fKnown.x2.fHi] E E E (fun N=>?_)
 refine aG ze_32 E (fun O=>?_)
 refine oN (eT (cS (cS ?_)))
 refine aK 18 cm (by kernel_rfl) (by kernel_rfl) ?_
 refine qY E (yFA cU E) (qY E (yL 0 az E E E) ?_)
 obtain⟨k,p,h⟩:=bOs h
 refine qY E (yC [vI p0.fBarrows,vI 1,vI 50] iO E (fun W2 u=>aS p0.fBarrows 1 50 k p W2 ) E) (qY E (dL E) (qY E (yMB E) ?_))
 obtain⟨y,n,h⟩:=bOs h
 refine qJ 5 (fun w=>(upd (upd (upd w 1 (.pointer (some ⟨N,0,none⟩))) 2 (.pointer (some ⟨O,0,none⟩))) 14 (.bool y))) (fun w=>?_) (fun key=>?_)
 ·refine qY E (yMB E) ?_
  obtain⟨c,Q,h⟩:=bOs h
  refine qJ 7 (fun w=>(upd (upd (upd w 1 (.pointer (some ⟨N,0,none⟩))) 2 (.pointer (some ⟨O,0,none⟩))) 22 (.bool c))) (fun w=>?_) (fun key=>?_)
  ·refine bt (oN (eT ?_))
   rcases iOs h with⟨H,h⟩|⟨H,h⟩
   ·refine cT (vB H) (cS (cR (cg E (dE 1 (v:=vI 1) sz_32 E (Nat.lt_of_lt_of_le (Nat.lt_succ_self _) (nB E)) E E E) (oN (eT (ag (aa (ex_M0 (.inl E) ?_))))))))
    obtain rfl:=sI h
    exact am (.inl E) E (f9 1 (v:=vI 1) kF E E E) (fun W2 u=>⟨E,u.none⟩)
   ·refine cF (vB H) (cK (eT (cS (cS (cR (oY E (yFA d5 E) (oY E (yN 0 [vI p0.fKnown.x0.fLo,vI p0.fKnown.x0.fHi,vI p0.fKnown.x1.fLo,vI p0.fKnown.x1.fHi,vI p0.fKnown.x2.fLo,vI p0.fKnown.x2.fHi] iE E E E) (oY E (yMI E) (oN (eT (cB ?_)))))))))))
    obtain⟨l,U,h⟩:=bOs h
    refine fu (fun(s:(Int × Int)) L tm=>∃(w:Nat→Value),L=[ac N 28 [vI p0.fBarrows,vI p0.fSeen.x0,vI p0.fSeen.x1,vI p0.fSeen.x2,vI p0.fKnown.x0.fLo,vI p0.fKnown.x0.fHi,vI p0.fKnown.x1.fLo,vI p0.fKnown.x1.fHi,vI p0.fKnown.x2.fLo,vI p0.fKnown.x2.fHi],ac O 32 [vI s.2]]∧tm=(upd (upd (upd (upd w 1 (.pointer (some ⟨N,0,none⟩))) 2 (.pointer (some ⟨O,0,none⟩))) 24 (.agg #[vI p0.fKnown.x0.fLo,vI p0.fKnown.x0.fHi,vI p0.fKnown.x1.fLo,vI p0.fKnown.x1.fHi,vI p0.fKnown.x2.fLo,vI p0.fKnown.x2.fHi])) 25 (vI s.1))) 0 U ⟨_,E,(kp4 E)⟩ ?_ ?_
    ·rintro r L tm st ⟨X,rfl,rfl⟩ h
     unfold cb at h
     refine cS (cR (oY E (cX E E) (oN (eT (cS ?_)))))
     rcases iOs h with⟨I,h⟩|⟨I,h⟩
     ·refine cT (vB I) (cK (eT (cS (cB (cS (cR ?_))))))
      obtain⟨K,h⟩:=gOs h
      refine oY E (y_indexN [vI p0.fKnown.x0.fLo,vI p0.fKnown.x0.fHi,vI p0.fKnown.x1.fLo,vI p0.fKnown.x1.fHi,vI p0.fKnown.x2.fLo,vI p0.fKnown.x2.fHi] [vI (aH p0.fKnown.x0.fLo p0.fKnown.x1.fLo p0.fKnown.x2.fLo r.1),vI (aH p0.fKnown.x0.fHi p0.fKnown.x1.fHi p0.fKnown.x2.fHi r.1)] j2 bL K.1 K.2 E E (by rcases in3 K with e|e|e <;> rw[e] <;> rfl)) ?_
      refine aG dz E (fun Y=>?_)
      refine cg E (yS 2 [vI (aH p0.fKnown.x0.fLo p0.fKnown.x1.fLo p0.fKnown.x2.fLo r.1),vI (aH p0.fKnown.x0.fHi p0.fKnown.x1.fHi p0.fKnown.x2.fHi r.1)] eK E (nB E) E E E) (oN (eT (cS (cR (oY E (yFA dc E) (oY E (yL 2 az E E E) (oY E (cX E E) (oY E (yMB E) ?_))))))))
      refine oJ 6 (fun w=>(upd (upd (upd (upd (upd (upd (upd w 1 (.pointer (some ⟨N,0,none⟩))) 2 (.pointer (some ⟨O,0,none⟩))) 24 (.agg #[vI p0.fKnown.x0.fLo,vI p0.fKnown.x0.fHi,vI p0.fKnown.x1.fLo,vI p0.fKnown.x1.fHi,vI p0.fKnown.x2.fLo,vI p0.fKnown.x2.fHi])) 25 (vI r.1)) 26 (.bool (decide (r.1<3)))) 4 (.pointer (some ⟨Y,0,none⟩))) 37 (.bool ((decide (aH p0.fKnown.x0.fLo p0.fKnown.x1.fLo p0.fKnown.x2.fLo r.1<0))||(decide (aH p0.fKnown.x0.fHi p0.fKnown.x1.fHi p0.fKnown.x2.fHi r.1<aH p0.fKnown.x0.fLo p0.fKnown.x1.fLo p0.fKnown.x2.fLo r.1)))))) (fun w=>?_) (fun key=>?_)
      ·refine oY E (yMB E) ?_
       refine oJ 6 (fun w=>(upd (upd (upd (upd (upd (upd (upd w 1 (.pointer (some ⟨N,0,none⟩))) 2 (.pointer (some ⟨O,0,none⟩))) 24 (.agg #[vI p0.fKnown.x0.fLo,vI p0.fKnown.x0.fHi,vI p0.fKnown.x1.fLo,vI p0.fKnown.x1.fHi,vI p0.fKnown.x2.fLo,vI p0.fKnown.x2.fHi])) 25 (vI r.1)) 26 (.bool (decide (r.1<3)))) 4 (.pointer (some ⟨Y,0,none⟩))) 44 (.bool (((decide (aH p0.fKnown.x0.fLo p0.fKnown.x1.fLo p0.fKnown.x2.fLo r.1<0))||(decide (aH p0.fKnown.x0.fHi p0.fKnown.x1.fHi p0.fKnown.x2.fHi r.1<aH p0.fKnown.x0.fLo p0.fKnown.x1.fLo p0.fKnown.x2.fLo r.1)))||(decide (p0.fBarrows<aH p0.fKnown.x0.fHi p0.fKnown.x1.fHi p0.fKnown.x2.fHi r.1)))))) (fun w=>?_) (fun key=>?_)
       ·refine oN (eT ?_)
        rcases iOs h with⟨M,h⟩|⟨M,h⟩
        ·refine cT (vB M) (cS (cR (cg E (dE 1 (v:=vI 1) sz_32 E (Nat.lt_of_lt_of_le (Nat.lt_succ_self _) (nB E)) E E E) (oN (eT (ag (aA (aa (bM 2 ?_)))))))))
         obtain rfl:=sI h
         exact aD ⟨E,_,E,(kp4 E)⟩
        ·refine cF (vB M) (cK (ay (eT (cR (oY E (bf E E) (oY E (yMI E) (oN (bM 2 ?_))))))))
         obtain rfl:=sI h
         exact eN ⟨_,E,(kp4 E)⟩
       ·rcases ar ((decide (aH p0.fKnown.x0.fLo p0.fKnown.x1.fLo p0.fKnown.x2.fLo r.1<0))||(decide (aH p0.fKnown.x0.fHi p0.fKnown.x1.fHi p0.fKnown.x2.fHi r.1<aH p0.fKnown.x0.fLo p0.fKnown.x1.fLo p0.fKnown.x2.fLo r.1)))with g|g
        ·refine oSk (sF E E E E g) (oSk (sF E E E E g) (oSk (sF E E E E g) (oSk (sF E E E E g) (oSk (sF E E E E g) (oY E (ai (vB g) E) ?_)))))
         exact key _ _ (keep (keep (keep (keep (keep (keep (keep E E) E) E) E) E) E) (vB (jG g)))
        ·refine oY (sT E E E E g) (yFA cz E) (oY (sT E E E E g) (yL 2 az E E E) (oY (sT E E E E g) (yFA cU E) (oY (sT E E E E g) (yL 0 az E E E) (oY (sT E E E E g) (eZ E E) (oY E (aj (vB g) E) ?_)))))
         exact key _ _ (keep (keep (keep (keep (keep (keep (keep E E) E) E) E) E) E) (vB (jH g)))
      ·rcases ar (decide (aH p0.fKnown.x0.fLo p0.fKnown.x1.fLo p0.fKnown.x2.fLo r.1<0))with o|o
       ·refine oSk (sF E E E E o) (oSk (sF E E E E o) (oSk (sF E E E E o) (oSk (sF E E E E o) (oSk (sF E E E E o) (oY E (ai (vB o) E) ?_)))))
        exact key _ _ (keep (keep (keep (keep (keep (keep (keep E E) E) E) E) E) E) (vB (jG o)))
       ·refine oY (sT E E E E o) (yFA dc E) (oY (sT E E E E o) (yL 2 az E E E) (oY (sT E E E E o) (yFA cz E) (oY (sT E E E E o) (yL 2 az E E E) (oY (sT E E E E o) (eZ E E) (oY E (aj (vB o) E) ?_)))))
        exact key _ _ (keep (keep (keep (keep (keep (keep (keep E E) E) E) E) E) E) (vB (jH o)))
     ·refine cF (vB I) (aR (al ?_))
      obtain rfl:=sI h
      exact aD ⟨E,_,E,(kp4 E)⟩
    ·intro e L tm hJ
     rcases l with t|f0
     ·dsimp only at h hJ
      obtain⟨rfl,Z,rfl,rfl⟩:=hJ
      refine⟨(by intro hc;cases hc),?_⟩
      refine aA (aa (ex_M0 (.inl E) ?_))
      obtain rfl:=sI h
      exact am (.inl E) E (f9 1 (v:=vI t.2) kF E E E) (fun W2 u=>⟨E,u.none⟩)
     ·dsimp only at h hJ
      obtain⟨rfl,V,rfl,rfl⟩:=hJ
      refine⟨(by intro hc;cases hc),?_⟩
      refine ak (eT (cS (cS (cR (oY E (yN 0 [vI p0.fBarrows,vI p0.fSeen.x0,vI p0.fSeen.x1,vI p0.fSeen.x2,vI p0.fKnown.x0.fLo,vI p0.fKnown.x0.fHi,vI p0.fKnown.x1.fLo,vI p0.fKnown.x1.fHi,vI p0.fKnown.x2.fLo,vI p0.fKnown.x2.fHi] a6 E E E) ?_)))))
      obtain⟨f,T,h⟩:=bOs h
      refine ey [.agg #[vI p0.fBarrows,vI p0.fSeen.x0,vI p0.fSeen.x1,vI p0.fSeen.x2,vI p0.fKnown.x0.fLo,vI p0.fKnown.x0.fHi,vI p0.fKnown.x1.fLo,vI p0.fKnown.x1.fHi,vI p0.fKnown.x2.fLo,vI p0.fKnown.x2.fHi]] _ _ E go_41 E (fun W2 u=>c6 p0 f T W2 ) ?_
      rintro⟨F,G⟩
      refine oN (eT (cB ?_))
      obtain⟨hok43,h⟩:=gOs h
      obtain⟨f1,S,h⟩:=bOs h
      refine ig (enc:=fun x:TKinds=>.agg #[vI x.x0,vI x.x1,vI x.x2]) (bs:=[G,F]) (caps:=[.pointer (some ⟨G,0,none⟩),.pointer (some ⟨F,0,none⟩)]) (fun(s:Int) L=>L=[ac N 28 [vI p0.fBarrows,vI p0.fSeen.x0,vI p0.fSeen.x1,vI p0.fSeen.x2,vI p0.fKnown.x0.fLo,vI p0.fKnown.x0.fHi,vI p0.fKnown.x1.fLo,vI p0.fKnown.x1.fHi,vI p0.fKnown.x2.fLo,vI p0.fKnown.x2.fHi],ac O 32 [vI s],ac F 28 [vI f.fBarrows,vI f.fSeen.x0,vI f.fSeen.x1,vI f.fSeen.x2,vI f.fKnown.x0.fLo,vI f.fKnown.x0.fHi,vI f.fKnown.x1.fLo,vI f.fKnown.x1.fHi,vI f.fKnown.x2.fLo,vI f.fKnown.x2.fHi],ac G 94 [.func (.func 62) #[] #[.pointer (some ⟨F,0,none⟩)]]]) (fun(s:Int) e L=>e=.ret∧L=[ac N 28 [vI p0.fBarrows,vI p0.fSeen.x0,vI p0.fSeen.x1,vI p0.fSeen.x2,vI p0.fKnown.x0.fLo,vI p0.fKnown.x0.fHi,vI p0.fKnown.x1.fLo,vI p0.fKnown.x1.fHi,vI p0.fKnown.x2.fLo,vI p0.fKnown.x2.fHi],ac O 32 [vI s],ac F 28 [vI f.fBarrows,vI f.fSeen.x0,vI f.fSeen.x1,vI f.fSeen.x2,vI f.fKnown.x0.fLo,vI f.fKnown.x0.fHi,vI f.fKnown.x1.fLo,vI f.fKnown.x1.fHi,vI f.fKnown.x2.fLo,vI f.fKnown.x2.fHi],ac G 94 [.func (.func 62) #[] #[.pointer (some ⟨F,0,none⟩)]]]) S E go_63 (fun W2 u=>ck f hok43 W2 G F (u.mem (i:=3) E) (u.mem (i:=2) E)) (by intro b hb;simp only[List.mem_cons,List.not_mem_nil,or_false]at hb;rcases hb with rfl|rfl;all_goals first|exact .inr ⟨_,fun s L hI=>by obtain rfl:=hI;exact⟨3,E⟩⟩|exact .inr ⟨_,fun s L hI=>by obtain rfl:=hI;exact⟨2,E⟩⟩) E (fun W2 u s L hI=>by obtain rfl:=hI;exact(.cons Cy.cells (.cons Cy.cells (.cons Cy.cells (.cons Cy.cells CyL.nil))))) (fun W2 u s e L hI=>by obtain⟨rfl,rfl⟩:=hI;exact(.cons Cy.cells (.cons Cy.cells (.cons Cy.cells (.cons Cy.cells CyL.nil))))) (fun s e L hI=>by obtain⟨rfl,_⟩:=hI;exact .inl E) ?_ ?_ ?_
      ·rintro D29 l30 rec31 f2 f3 L st hrec32 rfl h
       unfold fV at h
       refine cK (ij 5 E hrec32 (cB (cS (cR ?_))))
       try dsimp only[lna,lca,lsz,lss]
       refine cg E (dE 1 (v:=vI 0) sz_32 E (Nat.lt_of_lt_of_le (Nat.lt_succ_self _) (nB E)) E E E) (oN (eT (ag (aA ?_))))
       obtain rfl:=sI h
       exact ex_rstop [ac N 28 [vI p0.fBarrows,vI p0.fSeen.x0,vI p0.fSeen.x1,vI p0.fSeen.x2,vI p0.fKnown.x0.fLo,vI p0.fKnown.x0.fHi,vI p0.fKnown.x1.fLo,vI p0.fKnown.x1.fHi,vI p0.fKnown.x2.fLo,vI p0.fKnown.x2.fHi],ac O 32 [vI 0],ac F 28 [vI f.fBarrows,vI f.fSeen.x0,vI f.fSeen.x1,vI f.fSeen.x2,vI f.fKnown.x0.fLo,vI f.fKnown.x0.fHi,vI f.fKnown.x1.fLo,vI f.fKnown.x1.fHi,vI f.fKnown.x2.fLo,vI f.fKnown.x2.fHi],ac G 94 [.func (.func 62) #[] #[.pointer (some ⟨F,0,none⟩)]]] ⟨E,E⟩
      ·rintro D29 fr L hst rfl
       subst hst
       dsimp only at h
       refine ay (eT (cS (cR (cg E (dE 1 (v:=vI 9) sz_32 E (Nat.lt_of_lt_of_le (Nat.lt_succ_self _) (nB E)) E E E) (oN (eT (ag (k5 4 E (.inl E) ?_))))))))
       obtain rfl:=sI h
       exact am (.inl E) E (f9 1 (v:=vI 9) kF E E E) (fun W2 u=>⟨E,u.none⟩)
      ·rintro D29 a e L hst ⟨rfl,rfl⟩
       subst hst
       dsimp only at h
       refine aA (aa (k5 4 E (.inl E) ?_))
       obtain rfl:=sI h
       exact am (.inl E) E (f9 1 (v:=vI a) kF E E E) (fun W2 u=>⟨E,u.none⟩)
  ·clear h;rcases iOs Q with⟨d,h⟩|⟨d,h⟩
   ·refine ab (sF E E E E d) (ab (sF E E E E d) (ab (sF E E E E d) (ab (sF E E E E d) (ab (sF E E E E d) (ab (sF E E E E d) (qY E (ai (vB d) E) ?_))))))
    obtain rfl:=sI h
    exact key _ _ (kp (kp (kp E)))
   ·refine qY (sT E E E E d) (yFA bA E) (qY (sT E E E E d) (yN 0 [vI p0.fSeen.x0,vI p0.fSeen.x1,vI p0.fSeen.x2] bm E E E) ?_)
    obtain⟨z,R,h⟩:=bOs h
    refine qY (sT E E E E d) (yC [.agg #[vI p0.fSeen.x0,vI p0.fSeen.x1,vI p0.fSeen.x2]] jy E (fun W2 u=>bo p0.fSeen z R W2 ) E) (qY (sT E E E E d) (yFA cU E) (qY (sT E E E E d) (yL 0 az E E E) (qY (sT E E E E d) (eZ E E) (qY E (aj (vB d) E) ?_))))
    obtain rfl:=sI h
    exact key _ _ (kp (kp (kp E)))
 ·clear h;rcases iOs n with⟨D,h⟩|⟨D,h⟩
  ·refine ab (sF E E E E D) (ab (sF E E E E D) (ab (sF E E E E D) (ab (sF E E E E D) (qY E (ai (vB D) E) ?_))))
   obtain rfl:=sI h
   exact key _ _ (kp (kp (kp E)))
  ·refine qY (sT E E E E D) (yFA bA E) (qY (sT E E E E D) (yN 0 [vI p0.fSeen.x0,vI p0.fSeen.x1,vI p0.fSeen.x2] bm E E E) ?_)
   obtain⟨j,q,h⟩:=bOs h
   refine qY (sT E E E E D) (yC [.agg #[vI p0.fSeen.x0,vI p0.fSeen.x1,vI p0.fSeen.x2]] go_58 E (fun W2 u=>cw p0.fSeen j q W2 ) E) (qY (sT E E E E D) (dL E) (qY E (aj (vB D) E) ?_))
   obtain rfl:=sI h
   exact key _ _ (kp (kp (kp E)))
theorem dv (p1:TBatch) (res:(List TKinds)) (h:bz p1=some res) (W:World) (bl1:Nat) (bb1:Nat) (hsbl1:W.heap[bl1]? = some (.cells #[.func (.func 62) #[] #[.pointer (some ⟨bb1,0,none⟩)]] 94 (0,0))) (hsbb1:W.heap[bb1]? = some (.cells (aE p1).toArray 28 (0,0))) :
  Calls Try.prog 61 [.slice none 0 0,.func (.func 63) #[] #[.pointer (some ⟨bl1,0,none⟩),.pointer (some ⟨bb1,0,none⟩)]].toArray W fun e W2=>∃x:Option Addr × Nat × Nat,x.2.1=res.length∧e=.returned (.slice x.1 x.2.1 x.2.2)∧Ext W W2 [bR x.1 x.2.2 23 3 x.2.1 (aL ae res)]:=by
 unfold bz at h
 refine eA (m:=13) Try.func61 E E (nB E) (cS (cR ?_))
 refine aV [.slice none 0 0] E E E (fun U=>?_)
 refine oY E (yAS E) (oN (eT (cS (cS (cR (oY E (du E) (oN (eT (cB (gJ 23 3 ?_))))))))))
 obtain⟨hok21,h⟩:=gOs h
 obtain⟨X,H,h⟩:=bOs h
 refine ig (enc:=fun x:TKinds=>.agg #[vI x.x0,vI x.x1,vI x.x2]) (bs:=[bl1,bb1]) (caps:=[.pointer (some ⟨bl1,0,none⟩),.pointer (some ⟨bb1,0,none⟩)]) (fun(s:(List TKinds)) L=>∃(u:Option Addr) (d:Nat) (g:Nat),g=s.length∧L=[ac U 52 [.slice u g d],bR u d 23 3 g (aL ae s)]) (fun(_:Unit) _ _=>False) H E go_63 (fun W2 D=>(ck p1 hok21 _ bl1 bb1 hsbl1 hsbb1).later D.below) (by intro b hb;simp only[List.mem_cons,List.not_mem_nil,or_false]at hb;rcases hb with rfl|rfl;all_goals first|exact .inl (bv hsbl1)|exact .inl (bv hsbb1)) ⟨none,0,0,E,E⟩ (fun W2 D s L hI=>by obtain⟨u,d,g,rfl,rfl⟩:=hI;exact(.cons Cy.cells (.cons Cy.row CyL.nil))) (fun _ _ _ _ _ h=>h.elim) (fun _ _ _ h=>h.elim) ?_ ?_ ?_
 ·rintro D2 l3 rec4 w f L st hrec5 ⟨M,N,O,rfl,rfl⟩ h
  unfold bX at h
  refine cR ?_
  refine aG eP E (fun Y=>?_)
  refine cg E (yS 4 [vI f.x0,vI f.x1,vI f.x2] sz_23 E (nB E) E E E) (oN (ij 3 E hrec5 (cB (cR (oY E (yL 0 jQ E E E) (oY E (yN 4 [vI f.x0,vI f.x1,vI f.x2] bm E E E) ?_))))))
  refine aY 1 (aL ae [f]) _ j4 fR eP jh (by decide) (by decide) (by kernel_rfl) (eL aB E) E (fun Z=>?_)
  try dsimp only[lna,lca,lsz,lss]
  obtain⟨I,h⟩:=gOs h
  refine dt 1 fR eP jh E E E (RdL.row 5 E) (eL aB E) (fm da _) (ff I (by decide)) E (fun F G=>?_)
  refine cg E (dE 0 (v:=.slice F (w.length+1) G) sz_52 E (Nat.lt_of_lt_of_le (Nat.lt_succ_self _) (nB E)) E E E) (oN (ay (bM 4 ?_)))
  obtain rfl:=sI h
  exact je [ac U 52 [.slice F (w.length+1) G],bR F G 23 3 (w.length+1) (aL ae (w++[f]))] ⟨F,G,(w.length+1),(gB E E),E⟩
 ·rintro D2 K L hst ⟨o,r,Q,rfl,rfl⟩
  subst hst
  dsimp only at h
  refine ay (eT (cS (cR (oY E (yL 0 jQ E E E) (oY E (yAS E) (oN (eT (ag (k5 2 E (.inl E) ?_)))))))))
  obtain rfl:=sI h
  exact am (.inl E) E (rVt (v:=.slice o K.length r) E) (fun W2 D=>⟨(o,K.length,r),E,E,(D.pick 1 E)⟩)
 ·intro D2 t e L _ hh
  exact hh.elim
theorem fk (p0:TBatch) (res:(List TKinds)) (h:cV p0=some res) (W:World) (bl0:Nat) (bb0:Nat) (hsbl0:W.heap[bl0]? = some (.cells #[.func (.func 62) #[] #[.pointer (some ⟨bb0,0,none⟩)]] 94 (0,0))) (hsbb0:W.heap[bb0]? = some (.cells (aE p0).toArray 28 (0,0))) :
  Calls Try.prog 40 [.func (.func 63) #[] #[.pointer (some ⟨bl0,0,none⟩),.pointer (some ⟨bb0,0,none⟩)]].toArray W fun e W2=>∃x:Option Addr × Nat × Nat,x.2.1=res.length∧e=.returned (.slice x.1 x.2.1 x.2.2)∧Ext W W2 [bR x.1 x.2.2 23 3 x.2.1 (aL ae res)]:=by
 unfold cV at h
 refine ad (m:=5) Try.func40 E E (nB E) (cS (cR (oY E (yAS E) (oN (eT (cS (cR (oY E (du E) ?_))))))))
 obtain⟨o,r,h⟩:=bOs h
 refine oC [.slice none 0 0,.func (.func 63) #[] #[.pointer (some ⟨bl0,0,none⟩),.pointer (some ⟨bb0,0,none⟩)]] _ _ _ E go_61 E (fun W2 f=>dv p0 o r W2 bl0 bb0 ((f.below.block _ (bv hsbl0)).trans hsbl0) ((f.below.block _ (bv hsbb0)).trans hsbb0)) ?_
 rintro⟨u,w,d⟩ g
 replace g:w=o.length:=g;subst g
 refine oY E (yAS E) (oN (eT (ag ?_)))
 obtain rfl:=sI h
 exact am (.inl E) E (rVt (v:=.slice u o.length d) E) (fun W2 f=>⟨(u,o.length,d),E,E,(f.pick 0 E)⟩)
theorem hY (p0:TBatch) (res:((List TKinds) × Int)) (h:fp p0=some res) (W:World)  :
  Calls Try.prog 14 [.agg #[vI p0.fBarrows,vI p0.fSeen.x0,vI p0.fSeen.x1,vI p0.fSeen.x2,vI p0.fKnown.x0.fLo,vI p0.fKnown.x0.fHi,vI p0.fKnown.x1.fLo,vI p0.fKnown.x1.fHi,vI p0.fKnown.x2.fLo,vI p0.fKnown.x2.fHi]].toArray W fun e W2=>∃x:Option Addr × Nat × Nat,x.2.1=res.1.length∧e=.returned (.tuple #[.slice x.1 x.2.1 x.2.2,vI res.2])∧Ext W W2 [bR x.1 x.2.2 23 3 x.2.1 (aL ae res.1)]:=by
 unfold fp at h
 refine ad (m:=13) Try.func14 E E (nB E) (cS (cR ?_))
 refine aV [vI p0.fBarrows,vI p0.fSeen.x0,vI p0.fSeen.x1,vI p0.fSeen.x2,vI p0.fKnown.x0.fLo,vI p0.fKnown.x0.fHi,vI p0.fKnown.x1.fLo,vI p0.fKnown.x1.fHi,vI p0.fKnown.x2.fLo,vI p0.fKnown.x2.fHi] E E E (fun N=>?_)
 refine oY E (yAS E) (oY E (yAI E) (oN (eT (cS (cS (cR (oY E (yN 0 [vI p0.fBarrows,vI p0.fSeen.x0,vI p0.fSeen.x1,vI p0.fSeen.x2,vI p0.fKnown.x0.fLo,vI p0.fKnown.x0.fHi,vI p0.fKnown.x1.fLo,vI p0.fKnown.x1.fHi,vI p0.fKnown.x2.fLo,vI p0.fKnown.x2.fHi] a6 E E E) ?_)))))))
 obtain⟨H,D,h⟩:=bOs h
 refine oY E (yC [.agg #[vI p0.fBarrows,vI p0.fSeen.x0,vI p0.fSeen.x1,vI p0.fSeen.x2,vI p0.fKnown.x0.fLo,vI p0.fKnown.x0.fHi,vI p0.fKnown.x1.fLo,vI p0.fKnown.x1.fHi,vI p0.fKnown.x2.fLo,vI p0.fKnown.x2.fHi]] kE E (fun W2 f=>cd p0 H D W2 ) E) (oY E (yAI E) (oN (eT (cS (cR (oY E (yMI E) (oY E (bO E E) (oN (eT ?_)))))))))
 rcases iOs h with⟨o,h⟩|⟨o,h⟩
 ·refine cT (vB o) (cS (cR (oY E (yMI E) (oY E (yAS E) (oY E (yAI E) (oN (eT (ag (aa ?_)))))))))
  obtain rfl:=sI h
  exact aW (.inl E) E (rVt (v:=.slice none 0 0) E) (rVt (v:=vI H) E) (fun W2 f=>⟨(none,0,0),E,E,((f.nilrow 23 3).pick 1 E)⟩)
 ·refine cF (vB o) (cK (eT (cS (cR (oY E (yN 0 [vI p0.fBarrows,vI p0.fSeen.x0,vI p0.fSeen.x1,vI p0.fSeen.x2,vI p0.fKnown.x0.fLo,vI p0.fKnown.x0.fHi,vI p0.fKnown.x1.fLo,vI p0.fKnown.x1.fHi,vI p0.fKnown.x2.fLo,vI p0.fKnown.x2.fHi] a6 E E E) ?_)))))
  obtain⟨I,F,h⟩:=bOs h
  refine ey [.agg #[vI p0.fBarrows,vI p0.fSeen.x0,vI p0.fSeen.x1,vI p0.fSeen.x2,vI p0.fKnown.x0.fLo,vI p0.fKnown.x0.fHi,vI p0.fKnown.x1.fLo,vI p0.fKnown.x1.fHi,vI p0.fKnown.x2.fLo,vI p0.fKnown.x2.fHi]] _ _ E go_41 E (fun W2 f=>c6 p0 I F W2 ) ?_
  rintro⟨K,M⟩
  obtain⟨w,r,h⟩:=bOs h
  refine oC [.func (.func 63) #[] #[.pointer (some ⟨M,0,none⟩),.pointer (some ⟨K,0,none⟩)]] _ _ _ E go_40 E (fun W2 f=>fk I w r W2 M K (f.mem (i:=2) E) (f.mem (i:=1) E)) ?_
  rintro⟨u,G,d⟩ g
  replace g:G=w.length:=g;subst g
  refine oY E (yAS E) (oY E (yAI E) (oN (eT (ag ?_))))
  obtain rfl:=sI h
  exact aW (.inl E) E (rVt (v:=.slice u w.length d) E) (rVt (v:=vI 0) E) (fun W2 f=>⟨(u,w.length,d),E,E,(f.pick 3 E)⟩)
theorem fA (p0:Int) (res:Bool) (h:dQ p0=some res) (W:World)  :
  Calls Try.prog 53 [vI p0].toArray W fun e W2=>e=.returned (.bool res)∧Ext W W2 []:=by
 unfold dQ at h
 refine ad (m:=5) Try.func53 E E (nB E) (cS (cR (oY E (yAB E) (oN (eT (cS (cR (oY E (yMI E) ?_))))))))
 obtain⟨o,g,h⟩:=bOs h
 refine oY E (yC [vI p0,vI 0,vI 2] iO E (fun W2 f=>aS p0 0 2 o g W2 ) E) (oY E (yAB E) (oN (eT (ag ?_))))
 obtain rfl:=sI h
 exact am (.inl E) E (rVt (v:=.bool o) E) (fun W2 f=>⟨E,f.none⟩)
theorem c3 (p0:TBatch) (p1:Int) (res:Int) (h:cH p0 p1=some res) (W:World)  :
  Calls Try.prog 42 [.agg #[vI p0.fBarrows,vI p0.fSeen.x0,vI p0.fSeen.x1,vI p0.fSeen.x2,vI p0.fKnown.x0.fLo,vI p0.fKnown.x0.fHi,vI p0.fKnown.x1.fLo,vI p0.fKnown.x1.fHi,vI p0.fKnown.x2.fLo,vI p0.fKnown.x2.fHi],vI p1].toArray W fun e W2=>e=.returned (vI res)∧Ext W W2 []:=by
 unfold cH at h
 refine ad (m:=14) Try.func42 E E (nB E) (cS (cR ?_))
 refine aV [vI p0.fBarrows,vI p0.fSeen.x0,vI p0.fSeen.x1,vI p0.fSeen.x2,vI p0.fKnown.x0.fLo,vI p0.fKnown.x0.fHi,vI p0.fKnown.x1.fLo,vI p0.fKnown.x1.fHi,vI p0.fKnown.x2.fLo,vI p0.fKnown.x2.fHi] E E E (fun D=>?_)
 refine oY E (yAI E) (oN (eT (cS (cS (cR (oY E (yN 0 [vI p0.fBarrows,vI p0.fSeen.x0,vI p0.fSeen.x1,vI p0.fSeen.x2,vI p0.fKnown.x0.fLo,vI p0.fKnown.x0.fHi,vI p0.fKnown.x1.fLo,vI p0.fKnown.x1.fHi,vI p0.fKnown.x2.fLo,vI p0.fKnown.x2.fHi] a6 E E E) ?_))))))
 obtain⟨d,r,h⟩:=bOs h
 refine oY E (yC [.agg #[vI p0.fBarrows,vI p0.fSeen.x0,vI p0.fSeen.x1,vI p0.fSeen.x2,vI p0.fKnown.x0.fLo,vI p0.fKnown.x0.fHi,vI p0.fKnown.x1.fLo,vI p0.fKnown.x1.fHi,vI p0.fKnown.x2.fLo,vI p0.fKnown.x2.fHi]] kE E (fun W2 f=>cd p0 d r W2 ) E) (oY E (yAI E) (oN (eT (cS (cR (oY E (yMI E) (oY E (bO E E) (oN (eT ?_)))))))))
 rcases iOs h with⟨g,h⟩|⟨g,h⟩
 ·refine cT (vB g) (cS (cR (oY E (yMI E) (oY E (yAI E) (oN (eT (ag (aa ?_))))))))
  obtain rfl:=sI h
  exact am (.inl E) E (rVt (v:=vI d) E) (fun W2 f=>⟨E,f.none⟩)
 ·refine cF (vB g) (cK (eT (cS (cS (cR (oY E (yMI E) ?_))))))
  obtain⟨w,u,h⟩:=bOs h
  refine oY E (yC [vI p1] go_53 E (fun W2 f=>fA p1 w u W2 ) E) (oY E (dL E) (oN (eT ?_)))
  rcases iOs h with⟨o,h⟩|⟨o,h⟩
  ·refine cT (vB o) (cS (cR (oY E (yAI E) (oN (eT (ag (aa ?_)))))))
   obtain rfl:=sI h
   exact am (.inl E) E (rVt (v:=vI 1) E) (fun W2 f=>⟨E,f.none⟩)
  ·refine cF (vB o) (cK (eT (cS (cR (oY E (yAI E) (oN (eT (ag ?_))))))))
   obtain rfl:=sI h
   exact am (.inl E) E (rVt (v:=vI 0) E) (fun W2 f=>⟨E,f.none⟩)
theorem cO (p0:TBatch) (p1:Int) (res:(List Int)) (h:cq p0 p1=some res) (W:World)  :
  Calls Try.prog 43 [.agg #[vI p0.fBarrows,vI p0.fSeen.x0,vI p0.fSeen.x1,vI p0.fSeen.x2,vI p0.fKnown.x0.fLo,vI p0.fKnown.x0.fHi,vI p0.fKnown.x1.fLo,vI p0.fKnown.x1.fHi,vI p0.fKnown.x2.fLo,vI p0.fKnown.x2.fHi],vI p1].toArray W fun e W2=>∃x:Option Addr × Nat × Nat,x.2.1=res.length∧e=.returned (.slice x.1 x.2.1 x.2.2)∧Ext W W2 [bR x.1 x.2.2 3 1 x.2.1 (aL cI res)]:=by
 unfold cq at h
 refine eA (m:=40) Try.func43 E E (nB E) (cS (cR ?_))
 refine aV [vI p0.fBarrows,vI p0.fSeen.x0,vI p0.fSeen.x1,vI p0.fSeen.x2,vI p0.fKnown.x0.fLo,vI p0.fKnown.x0.fHi,vI p0.fKnown.x1.fLo,vI p0.fKnown.x1.fHi,vI p0.fKnown.x2.fLo,vI p0.fKnown.x2.fHi] E E E (fun p=>?_)
 refine aV [vI p1] E E E (fun n=>?_)
 refine oY E (yAS E) (oN (eT (cS (cR ?_))))
 refine jZ 3 kI ki kI 0 E (fun H=>?_)
 refine aG ze_107 E (fun q=>?_)
 refine cg E (dE 3 (v:=.map (some H)) sz_107 E (Nat.lt_of_lt_of_le (Nat.lt_succ_self _) (nB E)) E E E) (oN (eT (cS (cS (cR (oY E (yN 0 [vI p0.fBarrows,vI p0.fSeen.x0,vI p0.fSeen.x1,vI p0.fSeen.x2,vI p0.fKnown.x0.fLo,vI p0.fKnown.x0.fHi,vI p0.fKnown.x1.fLo,vI p0.fKnown.x1.fHi,vI p0.fKnown.x2.fLo,vI p0.fKnown.x2.fHi] a6 E E E) ?_))))))
 obtain⟨g,l,h⟩:=bOs h
 refine ey [.agg #[vI p0.fBarrows,vI p0.fSeen.x0,vI p0.fSeen.x1,vI p0.fSeen.x2,vI p0.fKnown.x0.fLo,vI p0.fKnown.x0.fHi,vI p0.fKnown.x1.fLo,vI p0.fKnown.x1.fHi,vI p0.fKnown.x2.fLo,vI p0.fKnown.x2.fHi]] _ _ E go_41 E (fun W2 r=>c6 p0 g l W2 ) ?_
 rintro⟨F,O⟩
 try dsimp only[lna,lca,lsz,lss]
 refine oN (eT (cB ?_))
 obtain⟨hok29,h⟩:=gOs h
 obtain⟨z,Q,h⟩:=bOs h
 refine ig (enc:=fun x:TKinds=>.agg #[vI x.x0,vI x.x1,vI x.x2]) (bs:=[O,F]) (caps:=[.pointer (some ⟨O,0,none⟩),.pointer (some ⟨F,0,none⟩)]) (fun(s:(List (Int × Int))) L=>L=[ac p 28 [vI p0.fBarrows,vI p0.fSeen.x0,vI p0.fSeen.x1,vI p0.fSeen.x2,vI p0.fKnown.x0.fLo,vI p0.fKnown.x0.fHi,vI p0.fKnown.x1.fLo,vI p0.fKnown.x1.fHi,vI p0.fKnown.x2.fLo,vI p0.fKnown.x2.fHi],ac n 3 [vI p1],mapV Try.prog 3 kI ki kI 0 H s,ac q 107 [.map (some H)],ac F 28 [vI g.fBarrows,vI g.fSeen.x0,vI g.fSeen.x1,vI g.fSeen.x2,vI g.fKnown.x0.fLo,vI g.fKnown.x0.fHi,vI g.fKnown.x1.fLo,vI g.fKnown.x1.fHi,vI g.fKnown.x2.fLo,vI g.fKnown.x2.fHi],ac O 94 [.func (.func 62) #[] #[.pointer (some ⟨F,0,none⟩)]]]) (fun(_:Unit) _ _=>False) Q E go_63 (fun W2 r=>ck g hok29 W2 O F (r.mem (i:=5) E) (r.mem (i:=4) E)) (by intro b hb;simp only[List.mem_cons,List.not_mem_nil,or_false]at hb;rcases hb with rfl|rfl;all_goals first|exact .inr ⟨_,fun s L hI=>by obtain rfl:=hI;exact⟨5,E⟩⟩|exact .inr ⟨_,fun s L hI=>by obtain rfl:=hI;exact⟨4,E⟩⟩) E (fun W2 r s L hI=>by obtain rfl:=hI;exact(.cons Cy.cells (.cons Cy.cells (.cons (Cy.mapV (Res.inb (mapV Try.prog 3 kI ki kI 0 H _) W2 (r.mem (i:=2) E) _ E)) (.cons Cy.cells (.cons Cy.cells (.cons Cy.cells CyL.nil))))))) (fun _ _ _ _ _ h=>h.elim) (fun _ _ _ h=>h.elim) ?_ ?_ ?_
 ·rintro D9 l10 rec11 K f L st hrec12 rfl h
  unfold fe at h
  refine cR ?_
  try dsimp only[lna,lca,lsz,lss]
  refine aG eP E (fun j=>?_)
  try dsimp only[lna,lca,lsz,lss]
  refine cg E (yS 8 [vI f.x0,vI f.x1,vI f.x2] sz_23 E (nB E) E E E) (oN (ij 7 E hrec12 (cB ?_)))
  refine aK 10 cm (by kernel_rfl) (by kernel_rfl) ?_
  refine qY E (yL 3 sc_107 E E E) (qY E (yL 1 az E E E) ?_)
  obtain⟨d,h⟩:=gOs h
  refine qY E (aq cY d.1 d.2 E E) ?_
  refine qY E (yL 8 (v:=vI (aH f.x0 f.x1 f.x2 p1)) az E E (by rcases in3 d with e|e|e <;> rw[e] <;> rfl)) ?_
  obtain⟨U,h⟩:=gOs h
  refine qY E (jD (k:=aH f.x0 f.x1 f.x2 p1) (MpL.own 2 E) ke_3 lk ze_3 E E U) (qY E (yN 8 [vI f.x0,vI f.x1,vI f.x2] bm E E E) (qY E (yFA bA E) (qY E (yN 0 [vI p0.fSeen.x0,vI p0.fSeen.x1,vI p0.fSeen.x2] bm E E E) ?_)))
  obtain⟨M,X,h⟩:=bOs h
  refine qY E (yC [.agg #[vI f.x0,vI f.x1,vI f.x2],.agg #[vI p0.fSeen.x0,vI p0.fSeen.x1,vI p0.fSeen.x2]] go_39 E (fun W2 r=>gh f p0.fSeen M X W2 ) E) (qY E (bf E E) (bt ?_))
  obtain⟨Y,h⟩:=gOs h
  refine cg E (lg 2 (k:=aH f.x0 f.x1 f.x2 p1) (v:=w64 ((bi 0 K (aH f.x0 f.x1 f.x2 p1))+M)) E ke_3 lk E E E Y) (oN (ay (bM 8 ?_)))
  obtain rfl:=sI h
  exact je [ac p 28 [vI p0.fBarrows,vI p0.fSeen.x0,vI p0.fSeen.x1,vI p0.fSeen.x2,vI p0.fKnown.x0.fLo,vI p0.fKnown.x0.fHi,vI p0.fKnown.x1.fLo,vI p0.fKnown.x1.fHi,vI p0.fKnown.x2.fLo,vI p0.fKnown.x2.fHi],ac n 3 [vI p1],mapV Try.prog 3 kI ki kI 0 H ((aH f.x0 f.x1 f.x2 p1,w64 ((bi 0 K (aH f.x0 f.x1 f.x2 p1))+M))::K),ac q 107 [.map (some H)],ac F 28 [vI g.fBarrows,vI g.fSeen.x0,vI g.fSeen.x1,vI g.fSeen.x2,vI g.fKnown.x0.fLo,vI g.fKnown.x0.fHi,vI g.fKnown.x1.fLo,vI g.fKnown.x1.fHi,vI g.fKnown.x2.fLo,vI g.fKnown.x2.fHi],ac O 94 [.func (.func 62) #[] #[.pointer (some ⟨F,0,none⟩)]]] E
 ·rintro D9 Z L hst rfl
  subst hst
  dsimp only at h
  refine ay (eT (cS (cR ?_)))
  try dsimp only[lna,lca,lsz,lss]
  refine oY E (yFA cU E) (oY E (yL 0 az E E E) (oY E (bf E E) ?_))
  obtain⟨I,h⟩:=gOs h
  refine ox_make (aL cI (List.replicate (Int.toNat (w64 (p0.fBarrows+1))) 0)) hU ze_3 by_3 I.1 I.2 E (made_enc _ _ _ E E) E (fun G=>?_)
  try dsimp only[lna,lca,lsz,lss]
  refine oY E (yAS E) (oN (eT (cS (cS (cR (oY E (yMS E) (oY E (bZ (us:=[]) hU E) (oY E (yMI E) (oN (eT (cB ?_)))))))))))
  obtain⟨y,V,h⟩:=bOs h
  refine a8 (fun(s:(Int × (List Int))) L tm=>∃(a:Nat→Value),Int.toNat (w64 (p0.fBarrows+1))=s.2.length∧L=[ac p 28 [vI p0.fBarrows,vI p0.fSeen.x0,vI p0.fSeen.x1,vI p0.fSeen.x2,vI p0.fKnown.x0.fLo,vI p0.fKnown.x0.fHi,vI p0.fKnown.x1.fLo,vI p0.fKnown.x1.fHi,vI p0.fKnown.x2.fLo,vI p0.fKnown.x2.fHi],ac n 3 [vI p1],mapV Try.prog 3 kI ki kI 0 H Z,ac q 107 [.map (some H)],ac F 28 [vI g.fBarrows,vI g.fSeen.x0,vI g.fSeen.x1,vI g.fSeen.x2,vI g.fKnown.x0.fLo,vI g.fKnown.x0.fHi,vI g.fKnown.x1.fLo,vI g.fKnown.x1.fHi,vI g.fKnown.x2.fLo,vI g.fKnown.x2.fHi],ac O 94 [.func (.func 62) #[] #[.pointer (some ⟨F,0,none⟩)]],dfR D9,bR (some ⟨G,0,none⟩) (Int.toNat (w64 (p0.fBarrows+1))) 3 1 (Int.toNat (w64 (p0.fBarrows+1))) (aL cI s.2)]∧tm=(upd (upd (upd (upd (upd a 4 (.slice none 0 0)) 5 (.pointer (some ⟨q,0,none⟩))) 7 (.slice (some ⟨G,0,none⟩) (Int.toNat (w64 (p0.fBarrows+1))) (Int.toNat (w64 (p0.fBarrows+1))))) 28 (vI ((Int.toNat (w64 (p0.fBarrows+1)):Nat):Int))) 29 (vI s.1))) 2 V ⟨_,(List.length_replicate).symm,E,(kp4 (kp E))⟩ ?_ ?_
  ·rintro N L tm st ⟨T,o,rfl,rfl⟩ h
   unfold eX at h
   refine cS (cR (oY E (cX E E) (oN (eT (cS ?_)))))
   rcases iOs h with⟨w,h⟩|⟨w,h⟩
   ·refine cT (vB w) (cK (eT (cS (cB (cS (cR (oY E (yMI E) (oY E (yAI E) (oN (eT (cR (oY E (yMS E) (oY E (yMI E) (oY E (yL 3 sc_107 E E E) (oY E (yMI E) ?_)))))))))))))))
    obtain⟨S,h⟩:=gOs h
    refine oY E (jD (k:=N.1) (MpL.own 2 E) ke_3 lk ze_3 E E S) ?_
    obtain⟨u,h⟩:=gOs h
    refine oY E (yI kA (by decide) u.1 u.2 (RdL.row 7 E) (eL fw o) E E) ?_
    refine cg E (lD 7 (xs:=N.2) fw (bi 0 Z N.1) iR E u.1 (bC u.2 o) E E E E) (oN (ay (eT (cR (oY E (bf E E) (oY E (yMI E) (oN ?_)))))))
    obtain rfl:=sI h
    exact eN ⟨_,(hn_set o),E,(kp4 (kp E))⟩
   ·refine cF (vB w) (aR (al ?_))
    obtain rfl:=sI h
    exact aD ⟨E,_,o,E,(kp4 (kp E))⟩
  ·intro e L tm hJ
   obtain⟨rfl,R,D,rfl,rfl⟩:=hJ
   refine⟨(by intro hc;cases hc),?_⟩
   refine ak (eT (cS (cR (oY E (yMS E) (oY E (yAS E) (oN (eT (ag (k5 6 E (.inl E) ?_)))))))))
   obtain rfl:=sI h
   exact am (.inl E) E (rVt (v:=.slice (some ⟨G,0,none⟩) (Int.toNat (w64 (p0.fBarrows+1))) (Int.toNat (w64 (p0.fBarrows+1)))) E) (fun W2 r=>⟨((some ⟨G,0,none⟩),Int.toNat (w64 (p0.fBarrows+1)),Int.toNat (w64 (p0.fBarrows+1))),D,E,(r.pick 7 E)⟩)
 ·intro D9 t e L _ hh
  exact hh.elim
theorem g3 (p0:TBatch) (p1:Int) (res:((List Int) × Int)) (h:eJ p0 p1=some res) (W:World)  :
  Calls Try.prog 15 [.agg #[vI p0.fBarrows,vI p0.fSeen.x0,vI p0.fSeen.x1,vI p0.fSeen.x2,vI p0.fKnown.x0.fLo,vI p0.fKnown.x0.fHi,vI p0.fKnown.x1.fLo,vI p0.fKnown.x1.fHi,vI p0.fKnown.x2.fLo,vI p0.fKnown.x2.fHi],vI p1].toArray W fun e W2=>∃x:Option Addr × Nat × Nat,x.2.1=res.1.length∧e=.returned (.tuple #[.slice x.1 x.2.1 x.2.2,vI res.2])∧Ext W W2 [bR x.1 x.2.2 3 1 x.2.1 (aL cI res.1)]:=by
 unfold eJ at h
 refine ad (m:=16) Try.func15 E E (nB E) (cS (cR ?_))
 refine aV [vI p0.fBarrows,vI p0.fSeen.x0,vI p0.fSeen.x1,vI p0.fSeen.x2,vI p0.fKnown.x0.fLo,vI p0.fKnown.x0.fHi,vI p0.fKnown.x1.fLo,vI p0.fKnown.x1.fHi,vI p0.fKnown.x2.fLo,vI p0.fKnown.x2.fHi] E E E (fun H=>?_)
 refine oY E (yAS E) (oY E (yAI E) (oN (eT (cS (cS (cR (oY E (yN 0 [vI p0.fBarrows,vI p0.fSeen.x0,vI p0.fSeen.x1,vI p0.fSeen.x2,vI p0.fKnown.x0.fLo,vI p0.fKnown.x0.fHi,vI p0.fKnown.x1.fLo,vI p0.fKnown.x1.fHi,vI p0.fKnown.x2.fLo,vI p0.fKnown.x2.fHi] a6 E E E) (oY E (yMI E) ?_))))))))
 obtain⟨w,u,h⟩:=bOs h
 refine oY E (yC [.agg #[vI p0.fBarrows,vI p0.fSeen.x0,vI p0.fSeen.x1,vI p0.fSeen.x2,vI p0.fKnown.x0.fLo,vI p0.fKnown.x0.fHi,vI p0.fKnown.x1.fLo,vI p0.fKnown.x1.fHi,vI p0.fKnown.x2.fLo,vI p0.fKnown.x2.fHi],vI p1] go_42 E (fun W2 f=>c3 p0 p1 w u W2 ) E) (oY E (yAI E) (oN (eT (cS (cR (oY E (yMI E) (oY E (bO E E) (oN (eT ?_)))))))))
 rcases iOs h with⟨o,h⟩|⟨o,h⟩
 ·refine cT (vB o) (cS (cR (oY E (yMI E) (oY E (yAS E) (oY E (yAI E) (oN (eT (ag (aa ?_)))))))))
  obtain rfl:=sI h
  exact aW (.inl E) E (rVt (v:=.slice none 0 0) E) (rVt (v:=vI w) E) (fun W2 f=>⟨(none,0,0),E,E,((f.nilrow 3 1).pick 1 E)⟩)
 ·refine cF (vB o) (cK (eT (cS (cR (oY E (yN 0 [vI p0.fBarrows,vI p0.fSeen.x0,vI p0.fSeen.x1,vI p0.fSeen.x2,vI p0.fKnown.x0.fLo,vI p0.fKnown.x0.fHi,vI p0.fKnown.x1.fLo,vI p0.fKnown.x1.fHi,vI p0.fKnown.x2.fLo,vI p0.fKnown.x2.fHi] a6 E E E) (oY E (yMI E) ?_))))))
  obtain⟨r,d,h⟩:=bOs h
  refine oC [.agg #[vI p0.fBarrows,vI p0.fSeen.x0,vI p0.fSeen.x1,vI p0.fSeen.x2,vI p0.fKnown.x0.fLo,vI p0.fKnown.x0.fHi,vI p0.fKnown.x1.fLo,vI p0.fKnown.x1.fHi,vI p0.fKnown.x2.fLo,vI p0.fKnown.x2.fHi],vI p1] _ _ _ E go_43 E (fun W2 f=>cO p0 p1 r d W2 ) ?_
  rintro⟨D,G,F⟩ g
  replace g:G=r.length:=g;subst g
  refine oY E (yAS E) (oY E (yAI E) (oN (eT (ag ?_))))
  obtain rfl:=sI h
  exact aW (.inl E) E (rVt (v:=.slice D r.length F) E) (rVt (v:=vI 0) E) (fun W2 f=>⟨(D,r.length,F),E,E,(f.pick 1 E)⟩)
theorem fK (p0:(List Int)) (p1:Int) (res:Int) (h:eD p0 p1=some res) (W:World) (Aa:Option Addr) (f ca:Nat) (r:f=p0.length) (g:Rd W Aa f ca (aL cI p0)) :
  Calls Try.prog 44 [.slice Aa f ca,vI p1].toArray W fun e W2=>e=.returned (vI res)∧Ext W W2 []:=by
 subst r
 unfold eD at h
 refine ad (m:=24) Try.func44 E E (nB E) (cS (cR (oY E (yAI E) (oN (eT (cS (cR (oY E (yAI E) (oN (eT (cS (cS (cR (oY E (yMS E) (oY E (bZ (us:=[]) hU E) (oY E (yMI E) (oN (eT (cB ?_)))))))))))))))))))
 obtain⟨I,D,h⟩:=bOs h
 refine a8 (fun(s:(Int × Int)) L tm=>∃(F:Nat→Value),L=[]∧tm=(upd (upd (upd (upd (upd (upd F 1 (vI p1)) 4 (vI 0)) 5 (vI s.1)) 8 (.slice Aa p0.length ca)) 9 (vI (p0.length:Int))) 10 (vI s.2))) 0 D ⟨_,E,(kp4 (kp (kp E)))⟩ ?_ ?_
 ·rintro H L tm st ⟨d,rfl,rfl⟩ h
  unfold fW at h
  refine cS (cR (oY E (cX E E) (oN (eT (cS ?_)))))
  rcases iOs h with⟨u,h⟩|⟨u,h⟩
  ·refine cT (vB u) (cK (eT (cS (cB (cS (cR (oY E (yMI E) ?_)))))))
   obtain⟨o,h⟩:=gOs h
   refine oY E (yI kA (by decide) o.1 o.2 (RdL.arg g) (eL fw E) E E) ?_
   refine oY E (yR (A:=Aa) (j:=(Int.toNat H.2*1)) (v:=vI (rdL p0 H.2)) az (RdL.arg g) E (gv fw o.1 (bC o.2 E) E)) (oY E (yAI E) (oY E (yAI E) (oN (eT (cR (oY E (yMI E) (oY E (yMI E) (oY E (yMI E) (oY E (cG E E) (oY E (yMI E) (oY E (jo E E) (oY E (bf E E) (oY E (yAI E) (oN (ay (eT (cR (oY E (bf E E) (oY E (yMI E) (oN ?_))))))))))))))))))))
   obtain rfl:=sI h
   exact eN ⟨_,E,(kp4 (kp (kp E)))⟩
  ·refine cF (vB u) (aR (al ?_))
   obtain rfl:=sI h
   exact aD ⟨E,_,E,(kp4 (kp (kp E)))⟩
 ·intro e L tm hJ
  obtain⟨rfl,w,rfl,rfl⟩:=hJ
  refine⟨(by intro hc;cases hc),?_⟩
  refine ak (eT (cS (cR (oY E (yMI E) (oY E (yAI E) (oN (eT (ag ?_))))))))
  obtain rfl:=sI h
  exact am (.inl E) E (rVt (v:=vI I.1) E) (fun W2 G=>⟨E,G.none⟩)
theorem dP (p0:Int) (res:Int) (h:cn p0=some res) (W:World)  :
  Calls Try.prog 46 [vI p0].toArray W fun e W2=>e=.returned (vI res)∧Ext W W2 []:=by
 unfold cn at h
 refine ad (m:=4) Try.func46 E E (nB E) (cS (cR (oY E (yAI E) (oN (eT (cS (cR (oY E (yMI E) (oY E (yAI E) (oN (eT (ag ?_))))))))))))
 obtain rfl:=sI h
 exact am (.inl E) E (rVt (v:=vI p0) E) (fun W2 f=>⟨E,f.none⟩)
theorem iU (p0:TBatch) (p1:Int) (res:(TRatio × Int)) (h:gm p0 p1=some res) (W:World)  :
  Calls Try.prog 16 [.agg #[vI p0.fBarrows,vI p0.fSeen.x0,vI p0.fSeen.x1,vI p0.fSeen.x2,vI p0.fKnown.x0.fLo,vI p0.fKnown.x0.fHi,vI p0.fKnown.x1.fLo,vI p0.fKnown.x1.fHi,vI p0.fKnown.x2.fLo,vI p0.fKnown.x2.fHi],vI p1].toArray W fun e W2=>e=.returned (.tuple #[.agg #[vI res.1.fNum,vI res.1.fDen],vI res.2])∧Ext W W2 []:=by
 unfold gm at h
 refine ad (m:=23) Try.func16 E E (nB E) (cS (cR ?_))
 refine aV [vI p0.fBarrows,vI p0.fSeen.x0,vI p0.fSeen.x1,vI p0.fSeen.x2,vI p0.fKnown.x0.fLo,vI p0.fKnown.x0.fHi,vI p0.fKnown.x1.fLo,vI p0.fKnown.x1.fHi,vI p0.fKnown.x2.fLo,vI p0.fKnown.x2.fHi] E E E (fun U=>?_)
 refine aG ee E (fun X=>?_)
 refine oY E (yAI E) (oN (eT (cS (cS (cR (oY E (yN 0 [vI p0.fBarrows,vI p0.fSeen.x0,vI p0.fSeen.x1,vI p0.fSeen.x2,vI p0.fKnown.x0.fLo,vI p0.fKnown.x0.fHi,vI p0.fKnown.x1.fLo,vI p0.fKnown.x1.fHi,vI p0.fKnown.x2.fLo,vI p0.fKnown.x2.fHi] a6 E E E) (oY E (yMI E) ?_)))))))
 obtain⟨Q,K,h⟩:=bOs h
 refine oY E (yC [.agg #[vI p0.fBarrows,vI p0.fSeen.x0,vI p0.fSeen.x1,vI p0.fSeen.x2,vI p0.fKnown.x0.fLo,vI p0.fKnown.x0.fHi,vI p0.fKnown.x1.fLo,vI p0.fKnown.x1.fHi,vI p0.fKnown.x2.fLo,vI p0.fKnown.x2.fHi],vI p1] go_42 E (fun W2 f=>c3 p0 p1 Q K W2 ) E) (oY E (yAI E) (oN (eT (cS (cR (oY E (yMI E) (oY E (bO E E) (oN (eT ?_)))))))))
 rcases iOs h with⟨u,h⟩|⟨u,h⟩
 ·refine cT (vB u) (cS (cR ?_))
  refine oY E (aw [vI 0,vI 0] [(0,1),(1,1)] eu ee (by kernel_rfl)) ?_
  refine oY E (yMI E) (cg E (yS 1 [vI 0,vI 0] g0 E (nB E) E E E) (oY E (yAI E) (oN (eT (ag (aa ?_))))))
  obtain rfl:=sI h
  exact aW (.inl E) E (av 1 [vI 0,vI 0] dF E E E) (rVt (v:=vI Q) E) (fun W2 f=>⟨E,f.none⟩)
 ·refine cF (vB u) (cK (eT (cS (cR (oY E (yN 0 [vI p0.fBarrows,vI p0.fSeen.x0,vI p0.fSeen.x1,vI p0.fSeen.x2,vI p0.fKnown.x0.fLo,vI p0.fKnown.x0.fHi,vI p0.fKnown.x1.fLo,vI p0.fKnown.x1.fHi,vI p0.fKnown.x2.fLo,vI p0.fKnown.x2.fHi] a6 E E E) (oY E (yMI E) ?_))))))
  obtain⟨r,M,h⟩:=bOs h
  refine oC [.agg #[vI p0.fBarrows,vI p0.fSeen.x0,vI p0.fSeen.x1,vI p0.fSeen.x2,vI p0.fKnown.x0.fLo,vI p0.fKnown.x0.fHi,vI p0.fKnown.x1.fLo,vI p0.fKnown.x1.fHi,vI p0.fKnown.x2.fLo,vI p0.fKnown.x2.fHi],vI p1] _ _ _ E go_43 E (fun W2 f=>cO p0 p1 r M W2 ) ?_
  rintro⟨H,N,I⟩ g
  replace g:N=r.length:=g;subst g
  refine oY E (yAS E) (oN (eT (cS (cR (oY E (yMS E) ?_)))))
  obtain⟨d,D,h⟩:=bOs h
  refine oY E (yC [.slice H r.length I,vI 0] go_44 E (fun W2 f=>fK r 0 d D W2 H r.length I E ((RdL.row 2 E) W2 f)) E) (oY E (yMS E) ?_)
  obtain⟨w,F,h⟩:=bOs h
  refine oY E (yC [.slice H r.length I,.func (.func 46) #[] #[]] lf E (fun W2 f=>ce r (fun O=>cn O) w F W2 H r.length I E ((RdL.row 2 E) W2 f) 46 [] [] go_46 (fun W3 hb x y hxy=>dP  x  y hxy W3 )) E) ?_
  obtain⟨o,G,h⟩:=bOs h
  refine oY E (yC [vI d,vI w] go_38 E (fun W2 f=>dj d w o G W2 ) E) (cg E (yS 1 [vI o.fNum,vI o.fDen] g0 E (nB E) E E E) (oY E (yAI E) (oN (eT (ag ?_)))))
  obtain rfl:=sI h
  exact aW (.inl E) E (av 1 [vI o.fNum,vI o.fDen] dF E E E) (rVt (v:=vI 0) E) (fun W2 f=>⟨E,f.none⟩)
end Go.Proofs.Ytcleeakjghgbdaa
