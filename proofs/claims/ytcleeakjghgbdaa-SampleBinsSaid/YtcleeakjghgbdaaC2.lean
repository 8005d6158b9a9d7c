import Derived.Test.YtcleeakjghgbdaaF
import Derived.Test.YtcleeakjghgbdaaGr
import Derived.Test.YtcleeakjghgbdaaC0
set_option maxHeartbeats 4000000
set_option maxRecDepth 100000
set_option linter.unusedVariables false
namespace Go.Proofs.Ytcleeakjghgbdaa
open Go.RowKit (Below)
attribute [local irreducible] OX QX CX EX OpY Calls CallsIn
theorem iT (p0:TBatch) (p1:Int) (res:(TRatio × Int)) (h:gp p0 p1=some res) (W:World)  :
  Calls Try.prog 17 [.agg #[vI p0.fBarrows,vI p0.fSeen.x0,vI p0.fSeen.x1,vI p0.fSeen.x2,vI p0.fKnown.x0.fLo,vI p0.fKnown.x0.fHi,vI p0.fKnown.x1.fLo,vI p0.fKnown.x1.fHi,vI p0.fKnown.x2.fLo,vI p0.fKnown.x2.fHi],vI p1].toArray W fun e W2=>e=.returned (.tuple #[.agg #[vI res.1.fNum,vI res.1.fDen],vI res.2])∧Ext W W2 []:=by
 unfold gp at h
 refine ad (m:=39) Try.func17 E E (nB E) (cS (cR ?_))
 refine aV [vI p0.fBarrows,vI p0.fSeen.x0,vI p0.fSeen.x1,vI p0.fSeen.x2,vI p0.fKnown.x0.fLo,vI p0.fKnown.x0.fHi,vI p0.fKnown.x1.fLo,vI p0.fKnown.x1.fHi,vI p0.fKnown.x2.fLo,vI p0.fKnown.x2.fHi] E E E (fun V=>?_)
 refine aG ee E (fun T=>?_)
 refine oY E (yAI E) (oN (eT (cS (cS (cR (oY E (yN 0 [vI p0.fBarrows,vI p0.fSeen.x0,vI p0.fSeen.x1,vI p0.fSeen.x2,vI p0.fKnown.x0.fLo,vI p0.fKnown.x0.fHi,vI p0.fKnown.x1.fLo,vI p0.fKnown.x1.fHi,vI p0.fKnown.x2.fLo,vI p0.fKnown.x2.fHi] a6 E E E) (oY E (yMI E) ?_)))))))
 obtain⟨Z,O,h⟩:=bOs h
 refine oY E (yC [.agg #[vI p0.fBarrows,vI p0.fSeen.x0,vI p0.fSeen.x1,vI p0.fSeen.x2,vI p0.fKnown.x0.fLo,vI p0.fKnown.x0.fHi,vI p0.fKnown.x1.fLo,vI p0.fKnown.x1.fHi,vI p0.fKnown.x2.fLo,vI p0.fKnown.x2.fHi],vI p1] go_42 E (fun W2 f=>c3 p0 p1 Z O W2 ) E) (oY E (yAI E) (oN (eT (cS (cR (oY E (yMI E) (oY E (bO E E) (oN (eT ?_)))))))))
 rcases iOs h with⟨D,h⟩|⟨D,h⟩
 ·refine cT (vB D) (cS (cR ?_))
  refine oY E (aw [vI 0,vI 0] [(0,1),(1,1)] eu ee (by kernel_rfl)) ?_
  refine oY E (yMI E) (cg E (yS 1 [vI 0,vI 0] g0 E (nB E) E E E) (oY E (yAI E) (oN (eT (ag (aa ?_))))))
  obtain rfl:=sI h
  exact aW (.inl E) E (av 1 [vI 0,vI 0] dF E E E) (rVt (v:=vI Z) E) (fun W2 f=>⟨E,f.none⟩)
 ·refine cF (vB D) (cK (eT (cS ?_)))
  refine aK 7 cm (by kernel_rfl) (by kernel_rfl) ?_
  refine qY E (yFA cU E) (qY E (yL 0 az E E E) (qY E (yFA bA E) (qY E (yN 0 [vI p0.fSeen.x0,vI p0.fSeen.x1,vI p0.fSeen.x2] bm E E E) ?_)))
  obtain⟨Q,U,h⟩:=bOs h
  refine qY E (yC [.agg #[vI p0.fSeen.x0,vI p0.fSeen.x1,vI p0.fSeen.x2]] jy E (fun W2 f=>bo p0.fSeen Q U W2 ) E) (qY E (cG E E) (qY E (yAI E) (bt (oN (eT (cS (cS (cR (oY E (yMI E) (oY E (fc E E) (oN (eT ?_))))))))))))
  rcases iOs h with⟨F,h⟩|⟨F,h⟩
  ·refine cT (vB F) (cS (cR ?_))
   refine oY E (aw [vI 0,vI 0] [(0,1),(1,1)] eu ee (by kernel_rfl)) ?_
   refine cg E (yS 1 [vI 0,vI 0] g0 E (nB E) E E E) (oY E (yAI E) (oN (eT (ag (aa ?_)))))
   obtain rfl:=sI h
   exact aW (.inl E) E (av 1 [vI 0,vI 0] dF E E E) (rVt (v:=vI 5) E) (fun W2 f=>⟨E,f.none⟩)
  ·refine cF (vB F) (cK (eT (cS (cR (oY E (yN 0 [vI p0.fBarrows,vI p0.fSeen.x0,vI p0.fSeen.x1,vI p0.fSeen.x2,vI p0.fKnown.x0.fLo,vI p0.fKnown.x0.fHi,vI p0.fKnown.x1.fLo,vI p0.fKnown.x1.fHi,vI p0.fKnown.x2.fLo,vI p0.fKnown.x2.fHi] a6 E E E) (oY E (yMI E) ?_))))))
   obtain⟨w,I,h⟩:=bOs h
   refine oC [.agg #[vI p0.fBarrows,vI p0.fSeen.x0,vI p0.fSeen.x1,vI p0.fSeen.x2,vI p0.fKnown.x0.fLo,vI p0.fKnown.x0.fHi,vI p0.fKnown.x1.fLo,vI p0.fKnown.x1.fHi,vI p0.fKnown.x2.fLo,vI p0.fKnown.x2.fHi],vI p1] _ _ _ E go_43 E (fun W2 f=>cO p0 p1 w I W2 ) ?_
   rintro⟨u,X,d⟩ g
   replace g:X=w.length:=g;subst g
   refine oY E (yAS E) (oN (eT (cS (cR (oY E (yMS E) (oY E (yMI E) (oY E (yFA bA E) ?_)))))))
   obtain⟨o,h⟩:=gOs h
   refine oY E (aq cY o.1 o.2 E E) ?_
   refine oY E (yL 0 (v:=vI (aH p0.fSeen.x0 p0.fSeen.x1 p0.fSeen.x2 p1)) az E E (by rcases in3 o with e|e|e <;> rw[e] <;> rfl)) ?_
   obtain⟨G,K,h⟩:=bOs h
   refine oY E (yC [.slice u w.length d,vI (aH p0.fSeen.x0 p0.fSeen.x1 p0.fSeen.x2 p1)] go_44 E (fun W2 f=>fK w (aH p0.fSeen.x0 p0.fSeen.x1 p0.fSeen.x2 p1) G K W2 u w.length d E ((RdL.row 2 E) W2 f)) E) (oY E (yMS E) ?_)
   obtain⟨H,M,h⟩:=bOs h
   refine oY E (yC [.slice u w.length d,.func (.func 46) #[] #[]] lf E (fun W2 f=>ce w (fun Y=>cn Y) H M W2 u w.length d E ((RdL.row 2 E) W2 f) 46 [] [] go_46 (fun W3 hb x y hxy=>dP  x  y hxy W3 )) E) (oY E (yMI E) (oY E (jo E E) ?_))
   obtain⟨r,N,h⟩:=bOs h
   refine oY E (yC [vI G,vI (w64 (H*(w64 (p0.fBarrows-Q))))] go_38 E (fun W2 f=>dj G (w64 (H*(w64 (p0.fBarrows-Q)))) r N W2 ) E) (cg E (yS 1 [vI r.fNum,vI r.fDen] g0 E (nB E) E E E) (oY E (yAI E) (oN (eT (ag ?_)))))
   obtain rfl:=sI h
   exact aW (.inl E) E (av 1 [vI r.fNum,vI r.fDen] dF E E E) (rVt (v:=vI 0) E) (fun W2 f=>⟨E,f.none⟩)
theorem cL (p0:TRatio) (res:Bool) (h:cv p0=some res) (W:World)  :
  Calls Try.prog 52 [.agg #[vI p0.fNum,vI p0.fDen]].toArray W fun e W2=>e=.returned (.bool res)∧Ext W W2 []:=by
 unfold cv at h
 refine ad (m:=22) Try.func52 E E (nB E) (cS (cR ?_))
 refine aV [vI p0.fNum,vI p0.fDen] E E E (fun K=>?_)
 refine oY E (yAB E) (oN (eT (cS ?_)))
 refine aK 20 cm (by kernel_rfl) (by kernel_rfl) ?_
 refine qY E (yFA iy E) (qY E (yL 0 az E E E) ?_)
 obtain⟨M,D,h⟩:=bOs h
 refine qY E (yC [vI p0.fDen,vI 1,vI 10000] iO E (fun W2 r=>aS p0.fDen 1 10000 M D W2 ) E) (qY E (yMB E) ?_)
 obtain⟨N,F,h⟩:=bOs h
 refine qJ 6 (fun o=>(upd (upd (upd o 1 (.pointer (some ⟨K,0,none⟩))) 2 (.bool false)) 12 (.bool N))) (fun o=>?_) (fun key=>?_)
 ·refine qY E (yMB E) ?_
  obtain⟨I,G,h⟩:=bOs h
  refine qJ 8 (fun o=>(upd (upd o 2 (.bool false)) 21 (.bool I))) (fun o=>?_) (fun key=>?_)
  ·refine qY E (yAB E) (bt (oN (eT (ag ?_))))
   obtain rfl:=sI h
   exact am (.inl E) E (rVt (v:=.bool I) E) (fun W2 r=>⟨E,r.none⟩)
  ·clear h;rcases iOs G with⟨f,h⟩|⟨f,h⟩
   ·refine qY (sT E E E E f) (yFA jw E) (qY (sT E E E E f) (yL 0 az E E E) (qY (sT E E E E f) (yFA iy E) (qY (sT E E E E f) (yL 0 az E E E) ?_)))
    obtain⟨u,d,h⟩:=bOs h
    refine qY (sT E E E E f) (yC [vI p0.fNum,vI p0.fDen] go_38 E (fun W2 r=>dj p0.fNum p0.fDen u d W2 ) E) (qY (sT E E E E f) (yN 0 [vI p0.fNum,vI p0.fDen] dF E E E) (qY (sT E E E E f) (i9 (b:=((u.fNum==p0.fNum)&&(u.fDen==p0.fDen))) eg_49 E E (fun _=>(iQ fl_49 (au az E) (au az E) (au az E) (au az E) (run_equalIn_int _ _ _ _ _ _ _ cQ) (run_equalIn_int _ _ _ _ _ _ _ cQ)))) (qY E (ai (vB f) E) ?_)))
    obtain rfl:=sI h
    exact key _ _ (kp (kp E))
   ·refine ab (sF E E E E f) (ab (sF E E E E f) (ab (sF E E E E f) (ab (sF E E E E f) (ab (sF E E E E f) (ab (sF E E E E f) (ab (sF E E E E f) (qY E (aj (vB f) E) ?_)))))))
    obtain rfl:=sI h
    exact key _ _ (kp (kp E))
 ·clear h;rcases iOs F with⟨g,h⟩|⟨g,h⟩
  ·refine qY (sT E E E E g) (yFA jw E) (qY (sT E E E E g) (yL 0 az E E E) (qY (sT E E E E g) (yFA iy E) (qY (sT E E E E g) (yL 0 az E E E) ?_)))
   obtain⟨H,w,h⟩:=bOs h
   refine qY (sT E E E E g) (yC [vI p0.fNum,vI 0,vI p0.fDen] iO E (fun W2 r=>aS p0.fNum 0 p0.fDen H w W2 ) E) (qY E (ai (vB g) E) ?_)
   obtain rfl:=sI h
   exact key _ _ (kp (kp (kp E)))
  ·refine ab (sF E E E E g) (ab (sF E E E E g) (ab (sF E E E E g) (ab (sF E E E E g) (ab (sF E E E E g) (qY E (aj (vB g) E) ?_)))))
   obtain rfl:=sI h
   exact key _ _ (kp (kp (kp E)))
theorem gW (p0:TBatch) (p1:Int) (p2:TRatio) (res:Int) (h:eQ p0 p1 p2=some res) (W:World)  :
  Calls Try.prog 47 [.agg #[vI p0.fBarrows,vI p0.fSeen.x0,vI p0.fSeen.x1,vI p0.fSeen.x2,vI p0.fKnown.x0.fLo,vI p0.fKnown.x0.fHi,vI p0.fKnown.x1.fLo,vI p0.fKnown.x1.fHi,vI p0.fKnown.x2.fLo,vI p0.fKnown.x2.fHi],vI p1,.agg #[vI p2.fNum,vI p2.fDen]].toArray W fun e W2=>e=.returned (vI res)∧Ext W W2 []:=by
 unfold eQ at h
 refine ad (m:=17) Try.func47 E E (nB E) (cS (cR ?_))
 refine aV [vI p0.fBarrows,vI p0.fSeen.x0,vI p0.fSeen.x1,vI p0.fSeen.x2,vI p0.fKnown.x0.fLo,vI p0.fKnown.x0.fHi,vI p0.fKnown.x1.fLo,vI p0.fKnown.x1.fHi,vI p0.fKnown.x2.fLo,vI p0.fKnown.x2.fHi] E E E (fun D=>?_)
 refine aV [vI p2.fNum,vI p2.fDen] E E E (fun F=>?_)
 refine oY E (yAI E) (oN (eT (cS (cS (cR (oY E (yN 0 [vI p0.fBarrows,vI p0.fSeen.x0,vI p0.fSeen.x1,vI p0.fSeen.x2,vI p0.fKnown.x0.fLo,vI p0.fKnown.x0.fHi,vI p0.fKnown.x1.fLo,vI p0.fKnown.x1.fHi,vI p0.fKnown.x2.fLo,vI p0.fKnown.x2.fHi] a6 E E E) (oY E (yMI E) ?_)))))))
 obtain⟨d,r,h⟩:=bOs h
 refine oY E (yC [.agg #[vI p0.fBarrows,vI p0.fSeen.x0,vI p0.fSeen.x1,vI p0.fSeen.x2,vI p0.fKnown.x0.fLo,vI p0.fKnown.x0.fHi,vI p0.fKnown.x1.fLo,vI p0.fKnown.x1.fHi,vI p0.fKnown.x2.fLo,vI p0.fKnown.x2.fHi],vI p1] go_42 E (fun W2 f=>c3 p0 p1 d r W2 ) E) (oY E (yAI E) (oN (eT (cS (cR (oY E (yMI E) (oY E (bO E E) (oN (eT ?_)))))))))
 rcases iOs h with⟨g,h⟩|⟨g,h⟩
 ·refine cT (vB g) (cS (cR (oY E (yMI E) (oY E (yAI E) (oN (eT (ag (aa ?_))))))))
  obtain rfl:=sI h
  exact am (.inl E) E (rVt (v:=vI d) E) (fun W2 f=>⟨E,f.none⟩)
 ·refine cF (vB g) (cK (eT (cS (cS (cR (oY E (yN 1 [vI p2.fNum,vI p2.fDen] dF E E E) ?_))))))
  obtain⟨w,u,h⟩:=bOs h
  refine oY E (yC [.agg #[vI p2.fNum,vI p2.fDen]] go_52 E (fun W2 f=>cL p2 w u W2 ) E) (oY E (dL E) (oN (eT ?_)))
  rcases iOs h with⟨o,h⟩|⟨o,h⟩
  ·refine cT (vB o) (cS (cR (oY E (yAI E) (oN (eT (ag (aa ?_)))))))
   obtain rfl:=sI h
   exact am (.inl E) E (rVt (v:=vI 1) E) (fun W2 f=>⟨E,f.none⟩)
  ·refine cF (vB o) (cK (eT (cS (cR (oY E (yAI E) (oN (eT (ag ?_))))))))
   obtain rfl:=sI h
   exact am (.inl E) E (rVt (v:=vI 0) E) (fun W2 f=>⟨E,f.none⟩)
theorem cl (p0:Int) (f:TRatio) (g:Int) (res:Bool) (h:bN p0 f g=some res) (W:World) (o:Nat) (r:Rd W (some ⟨o,0,none⟩) 1 1 (jC f)) (u:Nat) (d:Rd W (some ⟨u,0,none⟩) 1 1 (cI g)) :
  Calls Try.prog 65 [vI p0,.pointer (some ⟨o,0,none⟩),.pointer (some ⟨u,0,none⟩)].toArray W fun e W2=>e=.returned (.bool res)∧Ext W W2 []:=by
 unfold bN at h
 refine ad (m:=14) Try.func65 E E (nB E) (cS (cR (oY E (yAB E) (oN (eT (cS (cR (oY E (yMI E) (oY E (yFR (A:=(some ⟨o,0,none⟩)) (j:=0) iy E) (oY E (yR (A:=(some ⟨o,0,none⟩)) (j:=(0+1)) (v:=vI f.fDen) az (RdL.arg r) E E) (oY E (jo E E) (oY E (yFR (A:=(some ⟨o,0,none⟩)) (j:=0) jw E) (oY E (yR (A:=(some ⟨o,0,none⟩)) (j:=(0+0)) (v:=vI f.fNum) az (RdL.arg r) E E) (oY E (yR (A:=(some ⟨u,0,none⟩)) (j:=0) (v:=vI g) az (RdL.arg d) E E) (oY E (jo E E) (oY E (js E E) (oY E (yAB E) (oN (eT (ag ?_))))))))))))))))))))
 obtain rfl:=sI h
 exact am (.inl E) E (rVt (v:=.bool (decide (w64 (f.fNum*g)≤w64 (p0*f.fDen)))) E) (fun W2 w=>⟨E,w.none⟩)
theorem cJ (p0:TRatio) (p1:Int) (res:(TRatio × Int)) (h:ct p0 p1=some res) (W:World)  :
  Calls Try.prog 50 [.agg #[vI p0.fNum,vI p0.fDen],vI p1].toArray W fun e W2=>∃x:(Nat × Nat),e=.returned (.func (.func 65) #[] #[.pointer (some ⟨x.1,0,none⟩),.pointer (some ⟨x.2,0,none⟩)])∧Ext W W2 [ac x.1 49 [vI res.1.fNum,vI res.1.fDen],ac x.2 3 [vI res.2]]:=by
 unfold ct at h
 refine ad (m:=6) Try.func50 E E (nB E) (cS (cR ?_))
 refine aV [vI p0.fNum,vI p0.fDen] E E E (fun f=>?_)
 refine aV [vI p1] E E E (fun g=>?_)
 refine oY E (fx E) (oN (eT (cS (cR (oY E (gZ [.pointer (some ⟨f,0,none⟩),.pointer (some ⟨g,0,none⟩)] E E) (oY E (cC E) (oN (eT (ag ?_)))))))))
 obtain rfl:=sI h
 exact am (.inl E) E (rVt (v:=.func (.func 65) #[] #[.pointer (some ⟨f,0,none⟩),.pointer (some ⟨g,0,none⟩)]) E) (fun W2 o=>⟨(f,g),E,o⟩)
theorem hZ (p0:(List Int)) (p1:TSpan) (res:Int) (h:fj p0 p1=some res) (W:World) (Aa:Option Addr) (g ca:Nat) (u:g=p0.length) (o:Rd W Aa g ca (aL cI p0)) :
  Calls Try.prog 64 [.slice Aa g ca,.agg #[vI p1.fLo,vI p1.fHi]].toArray W fun e W2=>e=.returned (vI res)∧Ext W W2 []:=by
 subst u
 unfold fj at h
 refine ad (m:=25) Try.func64 E E (nB E) (cS (cR ?_))
 refine aV [vI p1.fLo,vI p1.fHi] E E E (fun G=>?_)
 refine oY E (yAI E) (oN (eT (cS ?_)))
 refine aK 11 cm (by kernel_rfl) (by kernel_rfl) ?_
 refine qY E (yFA dc E) (qY E (yL 0 az E E E) (qY E (kP E E) (qY E (yMS E) (qY E (bZ (us:=[]) hU E) (qY E (cG E E) (qY E (yFA cz E) (qY E (yL 0 az E E E) (qY E (jX E E) (qY E (yAI E) (qY E (yAI E) (bt (oN (eT (cS (cS (cR (oY E (yMI E) (oY E (yMI E) (oY E (eZ E E) (oN (eT ?_)))))))))))))))))))))
 rcases iOs h with⟨d,h⟩|⟨d,h⟩
 ·refine cT (vB d) (cS (cR (oY E (yAI E) (oN (eT (ag (aa ?_)))))))
  obtain rfl:=sI h
  exact am (.inl E) E (rVt (v:=vI 0) E) (fun W2 r=>⟨E,r.none⟩)
 ·refine cF (vB d) (cK (eT (cS (cR (oY E (yMS E) (oY E (yMI E) (oY E (yMI E) (oY E (bf E E) ?_))))))))
  obtain⟨f,h⟩:=gOs h
  refine oY E (y_cut kA f.1 f.2.1 f.2.2 (RdL.arg o) E E E) ?_
  obtain⟨D,w,h⟩:=bOs h
  refine oY E (yC [.slice (if ca=Int.toNat (max 0 p1.fLo)then Aa else Option.map (fun x=>x.add (Int.toNat (max 0 p1.fLo)*1)) Aa) (Int.toNat (w64 ((min (w64 ((p0.length:Int)-1)) p1.fHi)+1))-Int.toNat (max 0 p1.fLo)) (ca-Int.toNat (max 0 p1.fLo)),.func (.func 46) #[] #[]] lf E (fun W2 r=>ce ((p0.drop (Int.toNat (max 0 p1.fLo))).take (Int.toNat (w64 ((min (w64 ((p0.length:Int)-1)) p1.fHi)+1))-Int.toNat (max 0 p1.fLo))) (fun F=>cn F) D w W2 (if ca=Int.toNat (max 0 p1.fLo)then Aa else Option.map (fun x=>x.add (Int.toNat (max 0 p1.fLo)*1)) Aa) (Int.toNat (w64 ((min (w64 ((p0.length:Int)-1)) p1.fHi)+1))-Int.toNat (max 0 p1.fLo)) (ca-Int.toNat (max 0 p1.fLo)) (cut_len f.1 f.2.1 f.2.2 E) ((RdL.cut fw (RdL.arg o) f.1 f.2.1 f.2.2 E) W2 r) 46 [] [] go_46 (fun W3 hb x y hxy=>dP  x  y hxy W3 )) E) (oY E (yAI E) (oN (eT (ag ?_))))
  obtain rfl:=sI h
  exact am (.inl E) E (rVt (v:=vI D) E) (fun W2 r=>⟨E,r.none⟩)
theorem gM (p0:(List Int)) (p1:TRatio) (res:TSpan) (h:ed p0 p1=some res) (W:World) (Aa:Option Addr) (D ca:Nat) (Q:D=p0.length) (F:Rd W Aa D ca (aL cI p0)) :
  Calls Try.prog 48 [.slice Aa D ca,.agg #[vI p1.fNum,vI p1.fDen]].toArray W fun e W2=>e=.returned (.agg #[vI res.fLo,vI res.fHi])∧Ext W W2 []:=by
 subst Q
 unfold ed at h
 refine ad (m:=44) Try.func48 E E (nB E) (cS (cR ?_))
 refine aV [vI p1.fNum,vI p1.fDen] E E E (fun N=>?_)
 refine aG dz E (fun O=>?_)
 refine oN (eT (kq (cS ?_)))
 refine aK 3 cm (by kernel_rfl) (by kernel_rfl) ?_
 refine qY E (yN 0 [vI p1.fNum,vI p1.fDen] dF E E E) (qY E (yMS E) ?_)
 obtain⟨n,l,h⟩:=bOs h
 refine qY E (yC [.slice Aa p0.length ca,.func (.func 46) #[] #[]] lf E (fun W2 o=>ce p0 (fun i=>cn i) n l W2 Aa p0.length ca E ((RdL.arg F) W2 o) 46 [] [] go_46 (fun W3 hb x y hxy=>dP  x  y hxy W3 )) E) (bt ?_)
 obtain⟨u,t,h⟩:=bOs h
 refine ey [.agg #[vI p1.fNum,vI p1.fDen],vI n] _ _ E go_50 E (fun W2 o=>cJ p1 n u t W2 ) ?_
 rintro⟨K,M⟩
 refine oY E (cC E) (oN (eT (cS (cR (oY E (yMS E) (oY E (bZ (us:=[]) hU E) (oY E (cG E E) ?_)))))))
 refine oY E (aw [vI 0,vI (w64 ((p0.length:Int)-1))] [(0,1),(1,1)] eh dz (by kernel_rfl)) ?_
 refine aG dz E (fun r=>?_)
 refine cg E (yS 4 [vI 0,vI (w64 ((p0.length:Int)-1))] eK E (nB E) E E E) (oN (eT (cS (ku (eT (cS (cS (cR (oY E (yMS E) (oY E (bZ (us:=[]) hU E) (oY E (yMI E) (oN (eT (cB ?_))))))))))))))
 obtain⟨w,X,h⟩:=bOs h
 refine a8 (fun(s:(Int × Int × Int)) L tm=>∃(d:Nat→Value),L=[ac N 49 [vI p1.fNum,vI p1.fDen],ac O 25 [vI 0,vI 0],ac K 49 [vI u.1.fNum,vI u.1.fDen],ac M 3 [vI u.2],ac r 25 [vI s.2.1,vI s.2.2]]∧tm=(upd (upd (upd (upd (upd (upd (upd (upd d 0 (.slice Aa p0.length ca)) 1 (.agg #[vI p1.fNum,vI p1.fDen])) 3 (.pointer (some ⟨N,0,none⟩))) 4 (.pointer (some ⟨O,0,none⟩))) 5 (.func (.func 65) #[] #[.pointer (some ⟨K,0,none⟩),.pointer (some ⟨M,0,none⟩)])) 6 (.pointer (some ⟨r,0,none⟩))) 19 (vI (p0.length:Int))) 20 (vI s.1))) 0 X ⟨_,E,(kp4 (kp4 E))⟩ ?_ ?_
 ·rintro f L tm st ⟨Y,rfl,rfl⟩ h
  unfold er at h
  refine cS (cR (oY E (cX E E) (oN (eT (cS ?_)))))
  rcases iOs h with⟨G,h⟩|⟨G,h⟩
  ·refine cT (vB G) (cK (eT (cS (cB (cS (cR (oY E (yMI E) (oY E (yAI E) (oN (eT (cS (cR (oY E (yMS E) (oY E (bZ (us:=[]) hU E) (oY E (yMI E) (oY E (cG E E) (oY E (yMI E) (oN (eT (cB ?_))))))))))))))))))))
   obtain⟨a,Z,h⟩:=bOs h
   refine jA (fun(s:(Int × Int × Int)) L tm=>∃(d:Nat→Value),L=[ac N 49 [vI p1.fNum,vI p1.fDen],ac O 25 [vI 0,vI 0],ac K 49 [vI u.1.fNum,vI u.1.fDen],ac M 3 [vI u.2],ac r 25 [vI s.2.1,vI s.2.2]]∧tm=(upd (upd (upd (upd (upd (upd (upd (upd (upd (upd (upd (upd d 0 (.slice Aa p0.length ca)) 1 (.agg #[vI p1.fNum,vI p1.fDen])) 3 (.pointer (some ⟨N,0,none⟩))) 4 (.pointer (some ⟨O,0,none⟩))) 5 (.func (.func 65) #[] #[.pointer (some ⟨K,0,none⟩),.pointer (some ⟨M,0,none⟩)])) 6 (.pointer (some ⟨r,0,none⟩))) 19 (vI (p0.length:Int))) 20 (vI f.1)) 21 (.bool (decide (f.1<(p0.length:Int))))) 7 (vI f.1)) 26 (vI (w64 ((p0.length:Int)-f.1)))) 27 (vI s.1))) (fun|(.inl s),e,L,tm=>e=.exit 0∧∃(d:Nat→Value),L=[ac N 49 [vI p1.fNum,vI p1.fDen],ac O 25 [vI 0,vI 0],ac K 49 [vI u.1.fNum,vI u.1.fDen],ac M 3 [vI u.2],ac r 25 [vI s.2.1,vI s.2.2]]∧tm=(upd (upd (upd (upd (upd (upd (upd (upd (upd (upd (upd (upd d 0 (.slice Aa p0.length ca)) 1 (.agg #[vI p1.fNum,vI p1.fDen])) 3 (.pointer (some ⟨N,0,none⟩))) 4 (.pointer (some ⟨O,0,none⟩))) 5 (.func (.func 65) #[] #[.pointer (some ⟨K,0,none⟩),.pointer (some ⟨M,0,none⟩)])) 6 (.pointer (some ⟨r,0,none⟩))) 19 (vI (p0.length:Int))) 20 (vI f.1)) 21 (.bool (decide (f.1<(p0.length:Int))))) 7 (vI f.1)) 26 (vI (w64 ((p0.length:Int)-f.1)))) 27 (vI s.1))|(.inr s),e,L,tm=>e=.exit 2∧∃(d:Nat→Value),L=[ac N 49 [vI p1.fNum,vI p1.fDen],ac O 25 [vI 0,vI 0],ac K 49 [vI u.1.fNum,vI u.1.fDen],ac M 3 [vI u.2],ac r 25 [vI s.2.1,vI s.2.2]]∧tm=(upd (upd (upd (upd (upd (upd (upd (upd (upd (upd (upd (upd d 0 (.slice Aa p0.length ca)) 1 (.agg #[vI p1.fNum,vI p1.fDen])) 3 (.pointer (some ⟨N,0,none⟩))) 4 (.pointer (some ⟨O,0,none⟩))) 5 (.func (.func 65) #[] #[.pointer (some ⟨K,0,none⟩),.pointer (some ⟨M,0,none⟩)])) 6 (.pointer (some ⟨r,0,none⟩))) 19 (vI (p0.length:Int))) 20 (vI f.1)) 21 (.bool (decide (f.1<(p0.length:Int))))) 7 (vI f.1)) 26 (vI (w64 ((p0.length:Int)-f.1)))) 27 (vI s.1))) Z ⟨_,E,(kp4 (kp4 (kp4 E)))⟩ ?_ ?_
   ·rintro g L tm st ⟨V,rfl,rfl⟩ h
    unfold eB at h
    refine cS (cR (oY E (cX E E) (oN (eT (cS ?_)))))
    rcases iOs h with⟨H,h⟩|⟨H,h⟩
    ·refine cT (vB H) (cK (eT (cS (cB (cS (cR (oY E (yMI E) (oY E (yAI E) (oN (eT (cS (cR (oY E (yMI E) (oY E (yMI E) (oY E (yMI E) (oY E (bf E E) ?_))))))))))))))))
     refine oY E (aw [vI g.1,vI (w64 (g.1+f.1))] [(0,1),(1,1)] eh dz (by kernel_rfl)) ?_
     refine aG dz E (fun j=>?_)
     try dsimp only[lna,lca,lsz,lss]
     refine cg E (yS 5 [vI g.1,vI (w64 (g.1+f.1))] eK E (nB E) E E E) (oN (eT (cS (cR (oY E (du E) (oY E (yMS E) (oY E (yN 5 [vI g.1,vI (w64 (g.1+f.1))] bL E E E) ?_)))))))
     obtain⟨U,T,h⟩:=bOs h
     refine oY E (yC [.slice Aa p0.length ca,.agg #[vI g.1,vI (w64 (g.1+f.1))]] go_64 E (fun W2 o=>hZ p0 (TSpan.mk g.1 (w64 (g.1+f.1))) U T W2 Aa p0.length ca E ((RdL.arg F) W2 o)) E) ?_
     obtain⟨z,S,h⟩:=bOs h
     refine oY E (gl (caps:=[.pointer (some ⟨K,0,none⟩),.pointer (some ⟨M,0,none⟩)]) [vI U] go_65 E E (fun W2 o=>cl U u.1 u.2 z S W2 K ((RdL.cells 2 E) W2 o) M ((RdL.cells 3 E) W2 o))) (oN (eT ?_))
     rcases iOs h with⟨I,h⟩|⟨I,h⟩
     ·refine cT (vB I) (cS (cR (oY E (yN 5 [vI g.1,vI (w64 (g.1+f.1))] bL E E E) (cg E (yS 4 [vI g.1,vI (w64 (g.1+f.1))] eK E (nB E) E E E) (oN (eT (aR (cN E (al (bM 5 ?_))))))))))
      obtain rfl:=sI h
      exact aD ⟨E,_,E,(kp4 (kp4 (kp4 E)))⟩
     ·refine cF (vB I) (cK (ay (eT (cR (oY E (bf E E) (oY E (yMI E) (oN (bM 5 ?_))))))))
      obtain rfl:=sI h
      exact eN ⟨_,E,(kp4 (kp4 (kp4 E)))⟩
    ·refine cF (vB H) (aR (al ?_))
     obtain rfl:=sI h
     exact aD ⟨E,_,E,(kp4 (kp4 (kp4 E)))⟩
   ·intro e L tm hJ
    rcases a with k|b
    ·dsimp only at h hJ
     obtain⟨rfl,R,rfl,rfl⟩:=hJ
     refine⟨(by intro hc;cases hc),?_⟩
     refine cN E (cN E (al ?_))
     obtain rfl:=sI h
     exact aD ⟨E,_,E,(kp4 (kp4 E))⟩
    ·dsimp only at h hJ
     obtain⟨rfl,q,rfl,rfl⟩:=hJ
     refine⟨(by intro hc;cases hc),?_⟩
     refine ak (ay (eT (cR (oY E (bf E E) (oY E (yMI E) (oN ?_))))))
     obtain rfl:=sI h
     exact eN ⟨_,E,(kp4 (kp4 E))⟩
  ·refine cF (vB G) (aR (al ?_))
   obtain rfl:=sI h
   exact aD ⟨E,_,E,(kp4 (kp4 E))⟩
 ·intro e L tm hJ
  obtain⟨rfl,p,rfl,rfl⟩:=hJ
  refine⟨(by intro hc;cases hc),?_⟩
  refine ak (eT (cS (cR (oY E (yN 4 [vI w.2.1,vI w.2.2] bL E E E) (cg E (yS 1 [vI w.2.1,vI w.2.2] eK E (nB E) E E E) (oN (eT (ag (ep ?_)))))))))
  obtain rfl:=sI h
  exact am (.inl E) E (av 1 [vI w.2.1,vI w.2.2] bL E E E) (fun W2 o=>⟨E,o.none⟩)
theorem gQ (p0:TBatch) (p1:Int) (p2:TRatio) (res:(TSpan × Int)) (h:dX p0 p1 p2=some res) (W:World)  :
  Calls Try.prog 18 [.agg #[vI p0.fBarrows,vI p0.fSeen.x0,vI p0.fSeen.x1,vI p0.fSeen.x2,vI p0.fKnown.x0.fLo,vI p0.fKnown.x0.fHi,vI p0.fKnown.x1.fLo,vI p0.fKnown.x1.fHi,vI p0.fKnown.x2.fLo,vI p0.fKnown.x2.fHi],vI p1,.agg #[vI p2.fNum,vI p2.fDen]].toArray W fun e W2=>e=.returned (.tuple #[.agg #[vI res.1.fLo,vI res.1.fHi],vI res.2])∧Ext W W2 []:=by
 unfold dX at h
 refine ad (m:=22) Try.func18 E E (nB E) (cS (cR ?_))
 refine aV [vI p0.fBarrows,vI p0.fSeen.x0,vI p0.fSeen.x1,vI p0.fSeen.x2,vI p0.fKnown.x0.fLo,vI p0.fKnown.x0.fHi,vI p0.fKnown.x1.fLo,vI p0.fKnown.x1.fHi,vI p0.fKnown.x2.fLo,vI p0.fKnown.x2.fHi] E E E (fun K=>?_)
 refine aV [vI p2.fNum,vI p2.fDen] E E E (fun M=>?_)
 refine aG dz E (fun N=>?_)
 refine oY E (yAI E) (oN (eT (cS (cS (cR (oY E (yN 0 [vI p0.fBarrows,vI p0.fSeen.x0,vI p0.fSeen.x1,vI p0.fSeen.x2,vI p0.fKnown.x0.fLo,vI p0.fKnown.x0.fHi,vI p0.fKnown.x1.fLo,vI p0.fKnown.x1.fHi,vI p0.fKnown.x2.fLo,vI p0.fKnown.x2.fHi] a6 E E E) (oY E (yMI E) (oY E (yN 1 [vI p2.fNum,vI p2.fDen] dF E E E) ?_))))))))
 obtain⟨H,D,h⟩:=bOs h
 refine oY E (yC [.agg #[vI p0.fBarrows,vI p0.fSeen.x0,vI p0.fSeen.x1,vI p0.fSeen.x2,vI p0.fKnown.x0.fLo,vI p0.fKnown.x0.fHi,vI p0.fKnown.x1.fLo,vI p0.fKnown.x1.fHi,vI p0.fKnown.x2.fLo,vI p0.fKnown.x2.fHi],vI p1,.agg #[vI p2.fNum,vI p2.fDen]] go_47 E (fun W2 f=>gW p0 p1 p2 H D W2 ) E) (oY E (yAI E) (oN (eT (cS (cR (oY E (yMI E) (oY E (bO E E) (oN (eT ?_)))))))))
 rcases iOs h with⟨r,h⟩|⟨r,h⟩
 ·refine cT (vB r) (cS (cR ?_))
  refine oY E (aw [vI 0,vI 0] [(0,1),(1,1)] eh dz (by kernel_rfl)) ?_
  refine oY E (yMI E) (cg E (yS 2 [vI 0,vI 0] eK E (nB E) E E E) (oY E (yAI E) (oN (eT (ag (aa ?_))))))
  obtain rfl:=sI h
  exact aW (.inl E) E (av 2 [vI 0,vI 0] bL E E E) (rVt (v:=vI H) E) (fun W2 f=>⟨E,f.none⟩)
 ·refine cF (vB r) (cK (eT (cS ?_)))
  obtain⟨u,F,h⟩:=bOs h
  refine lw 2 4 (fun v L1=>∃x:(Option Addr × Nat × Nat),x.2.1=u.length∧v=.slice x.1 x.2.1 x.2.2∧L1=[bR x.1 x.2.2 3 1 x.2.1 (aL cI u)]) cm (by kernel_rfl) (by kernel_rfl) (by kernel_rfl) ?_
  refine bx_y E (fun _=>yN 0 [vI p0.fBarrows,vI p0.fSeen.x0,vI p0.fSeen.x1,vI p0.fSeen.x2,vI p0.fKnown.x0.fLo,vI p0.fKnown.x0.fHi,vI p0.fKnown.x1.fLo,vI p0.fKnown.x1.fHi,vI p0.fKnown.x2.fLo,vI p0.fKnown.x2.fHi] a6 E E E) (bx_y E (fun _=>yMI E) (bx_q E (oC [.agg #[vI p0.fBarrows,vI p0.fSeen.x0,vI p0.fSeen.x1,vI p0.fSeen.x2,vI p0.fKnown.x0.fLo,vI p0.fKnown.x0.fHi,vI p0.fKnown.x1.fLo,vI p0.fKnown.x1.fHi,vI p0.fKnown.x2.fLo,vI p0.fKnown.x2.fHi],vI p1] _ _ _ E go_43 E (fun W2 f=>cO p0 p1 u F W2 ) (fun x hx=>oN (ex_cap ⟨x,hx,E,E⟩))) (kx_y E (fun _=>yN 1 [vI p2.fNum,vI p2.fDen] dF E E E) (kx_nil E ?_))))
  rintro v L1 ⟨⟨I,G,d⟩,g,rfl,rfl⟩
  replace g:G=u.length:=g;subst g
  obtain⟨o,w,h⟩:=bOs h
  refine oY E (yC [.slice I u.length d,.agg #[vI p2.fNum,vI p2.fDen]] go_48 E (fun W2 f=>gM u p2 o w W2 I u.length d E ((RdL.row 3 E) W2 f)) E) (cg E (yS 2 [vI o.fLo,vI o.fHi] eK E (nB E) E E E) (oY E (yAI E) (oN (jW (eT (ag ?_))))))
  obtain rfl:=sI h
  exact aW (.inl E) E (av 2 [vI o.fLo,vI o.fHi] bL E E E) (rVt (v:=vI 0) E) (fun W2 f=>⟨E,f.none⟩)
theorem gx (p0:(List TKinds)) (p1:(List TKinds)) (res:Bool) (h:d7 p0 p1=some res) (W:World) (Aa:Option Addr) (g ca:Nat) (F:g=p0.length) (o:Rd W Aa g ca (aL ae p0)) (Ac:Option Addr) (r cc:Nat) (G:r=p1.length) (u:Rd W Ac r cc (aL ae p1)) :
  Calls Try.prog 19 [.slice Aa g ca,.slice Ac r cc].toArray W fun e W2=>e=.returned (.bool res)∧Ext W W2 []:=by
 subst F
 subst G
 unfold d7 at h
 refine ad (m:=26) Try.func19 E E (nB E) (cS (cR (oY E (yAB E) (oN (eT (cS (cS (cR (oY E (yMS E) (oY E (bZ (us:=[]) fR E) (oY E (yMS E) (oY E (bZ (us:=[]) fR E) (oY E (bO E E) (oN (eT ?_)))))))))))))))
 rcases iOs h with⟨H,h⟩|⟨H,h⟩
 ·refine cT (vB H) (cS (cR (oY E (yAB E) (oN (eT (ag (aa ?_)))))))
  obtain rfl:=sI h
  exact am (.inl E) E (rVt (v:=.bool false) E) (fun W2 d=>⟨E,d.none⟩)
 ·refine cF (vB H) (cK (eT (cS (cS (cR (oY E (yAI E) (oN (eT (cB ?_)))))))))
  obtain⟨Y,Q,h⟩:=bOs h
  refine fu (fun(s:(Bool × Int)) L tm=>∃(U:Nat→Value),L=[]∧tm=(upd (upd (upd (upd U 0 (.slice Aa p0.length ca)) 1 (.slice Ac p1.length cc)) 4 (.bool s.1)) 5 (vI s.2))) 0 Q ⟨_,E,(kp4 E)⟩ ?_ ?_
  ·rintro f L tm st ⟨O,rfl,rfl⟩ h
   unfold ei at h
   refine cS (cS (cR (oY E (yMI E) (oY E (yMS E) (oY E (bZ (us:=[]) fR E) (oY E (cX E E) (oN (eT ?_))))))))
   rcases iOs h with⟨I,h⟩|⟨I,h⟩
   ·refine cT (vB I) (cK (eT (cS (cB (cS ?_)))))
    refine aK 9 cm (by kernel_rfl) (by kernel_rfl) ?_
    refine qY E (yMS E) (qY E (yMI E) ?_)
    obtain⟨w,h⟩:=gOs h
    refine qY E (yI sl_52 (by decide) w.1 w.2 (RdL.arg o) (eL aB E) E E) ?_
    refine qY E (yM (A:=Aa) (j:=(Int.toNat f.2*3)) [vI ((rdL p0 f.2).x0),vI ((rdL p0 f.2).x1),vI ((rdL p0 f.2).x2)] bm (Nat.succ_pos _) (RdL.arg o) E (bx aB w.1 (bC w.2 E))) (qY E (yMS E) (qY E (yMI E) ?_))
    obtain⟨D,h⟩:=gOs h
    refine qY E (yI sl_52 (by decide) D.1 D.2 (RdL.arg u) (eL aB E) E E) ?_
    refine qY E (yM (A:=Ac) (j:=(Int.toNat f.2*3)) [vI ((rdL p1 f.2).x0),vI ((rdL p1 f.2).x1),vI ((rdL p1 f.2).x2)] bm (Nat.succ_pos _) (RdL.arg u) E (bx aB D.1 (bC D.2 E))) (qY E (iz (b:=(((rdL p0 f.2).x0==(rdL p1 f.2).x0)&&((rdL p0 f.2).x1==(rdL p1 f.2).x1)&&((rdL p0 f.2).x2==(rdL p1 f.2).x2))) eg_23 E E (fun _=>(lB fF iR (au az E) (au az E) (au az E) (au az E) (au az E) (au az E) (run_equalIn_int _ _ _ _ _ _ _ cQ) (run_equalIn_int _ _ _ _ _ _ _ cQ) (run_equalIn_int _ _ _ _ _ _ _ cQ)))) (bt (oN (eT ?_))))
    rcases iOs h with⟨K,h⟩|⟨K,h⟩
    ·refine cT (vB K) (cS (cR (oY E (yAB E) (oN (eT (ag (aA (aa ?_))))))))
     obtain rfl:=sI h
     exact aD ⟨E,_,E,(kp4 E)⟩
    ·refine cF (vB K) (cK (ay (eT (cR (oY E (yMI E) (oY E (bf E E) (oY E (yAI E) (oN ?_))))))))
     obtain rfl:=sI h
     exact eN ⟨_,E,(kp4 E)⟩
   ·refine cF (vB I) (aR (al ?_))
    obtain rfl:=sI h
    exact aD ⟨E,_,E,(kp4 E)⟩
  ·intro e L tm hJ
   rcases Y with X|Z
   ·dsimp only at h hJ
    obtain⟨rfl,M,rfl,rfl⟩:=hJ
    refine⟨(by intro hc;cases hc),?_⟩
    refine aA (aa ?_)
    obtain rfl:=sI h
    exact am (.inl E) E (rVt (v:=.bool X.1) E) (fun W2 d=>⟨E,d.none⟩)
   ·dsimp only at h hJ
    obtain⟨rfl,N,rfl,rfl⟩:=hJ
    refine⟨(by intro hc;cases hc),?_⟩
    refine ak (eT (cS (cR (oY E (yAB E) (oN (eT (ag ?_)))))))
    obtain rfl:=sI h
    exact am (.inl E) E (rVt (v:=.bool true) E) (fun W2 d=>⟨E,d.none⟩)
theorem gY (p0:(List Int)) (p1:(List Int)) (res:Bool) (h:eF p0 p1=some res) (W:World) (Aa:Option Addr) (f ca:Nat) (D:f=p0.length) (g:Rd W Aa f ca (aL cI p0)) (Ac:Option Addr) (o cc:Nat) (F:o=p1.length) (r:Rd W Ac o cc (aL cI p1)) :
  Calls Try.prog 20 [.slice Aa f ca,.slice Ac o cc].toArray W fun e W2=>e=.returned (.bool res)∧Ext W W2 []:=by
 subst D
 subst F
 unfold eF at h
 refine ad (m:=26) Try.func20 E E (nB E) (cS (cR (oY E (yAB E) (oN (eT (cS (cS (cR (oY E (yMS E) (oY E (bZ (us:=[]) hU E) (oY E (yMS E) (oY E (bZ (us:=[]) hU E) (oY E (bO E E) (oN (eT ?_)))))))))))))))
 rcases iOs h with⟨G,h⟩|⟨G,h⟩
 ·refine cT (vB G) (cS (cR (oY E (yAB E) (oN (eT (ag (aa ?_)))))))
  obtain rfl:=sI h
  exact am (.inl E) E (rVt (v:=.bool false) E) (fun W2 u=>⟨E,u.none⟩)
 ·refine cF (vB G) (cK (eT (cS (cS (cR (oY E (yAI E) (oN (eT (cB ?_)))))))))
  obtain⟨Y,Q,h⟩:=bOs h
  refine fu (fun(s:(Bool × Int)) L tm=>∃(U:Nat→Value),L=[]∧tm=(upd (upd (upd (upd U 0 (.slice Aa p0.length ca)) 1 (.slice Ac p1.length cc)) 4 (.bool s.1)) 5 (vI s.2))) 0 Q ⟨_,E,(kp4 E)⟩ ?_ ?_
  ·rintro N L tm st ⟨O,rfl,rfl⟩ h
   unfold fa at h
   refine cS (cS (cR (oY E (yMI E) (oY E (yMS E) (oY E (bZ (us:=[]) hU E) (oY E (cX E E) (oN (eT ?_))))))))
   rcases iOs h with⟨H,h⟩|⟨H,h⟩
   ·refine cT (vB H) (cK (eT (cS (cB (cS ?_)))))
    refine aK 9 cm (by kernel_rfl) (by kernel_rfl) ?_
    refine qY E (yMS E) (qY E (yMI E) ?_)
    obtain⟨d,h⟩:=gOs h
    refine qY E (yI kA (by decide) d.1 d.2 (RdL.arg g) (eL fw E) E E) ?_
    refine qY E (yR (A:=Aa) (j:=(Int.toNat N.2*1)) (v:=vI (rdL p0 N.2)) az (RdL.arg g) E (gv fw d.1 (bC d.2 E) E)) (qY E (yMS E) (qY E (yMI E) ?_))
    obtain⟨w,h⟩:=gOs h
    refine qY E (yI kA (by decide) w.1 w.2 (RdL.arg r) (eL fw E) E E) ?_
    refine qY E (yR (A:=Ac) (j:=(Int.toNat N.2*1)) (v:=vI (rdL p1 N.2)) az (RdL.arg r) E (gv fw w.1 (bC w.2 E) E)) (qY E (bO E E) (bt (oN (eT ?_))))
    rcases iOs h with⟨I,h⟩|⟨I,h⟩
    ·refine cT (vB I) (cS (cR (oY E (yAB E) (oN (eT (ag (aA (aa ?_))))))))
     obtain rfl:=sI h
     exact aD ⟨E,_,E,(kp4 E)⟩
    ·refine cF (vB I) (cK (ay (eT (cR (oY E (yMI E) (oY E (bf E E) (oY E (yAI E) (oN ?_))))))))
     obtain rfl:=sI h
     exact eN ⟨_,E,(kp4 E)⟩
   ·refine cF (vB H) (aR (al ?_))
    obtain rfl:=sI h
    exact aD ⟨E,_,E,(kp4 E)⟩
  ·intro e L tm hJ
   rcases Y with X|Z
   ·dsimp only at h hJ
    obtain⟨rfl,K,rfl,rfl⟩:=hJ
    refine⟨(by intro hc;cases hc),?_⟩
    refine aA (aa ?_)
    obtain rfl:=sI h
    exact am (.inl E) E (rVt (v:=.bool X.1) E) (fun W2 u=>⟨E,u.none⟩)
   ·dsimp only at h hJ
    obtain⟨rfl,M,rfl,rfl⟩:=hJ
    refine⟨(by intro hc;cases hc),?_⟩
    refine ak (eT (cS (cR (oY E (yAB E) (oN (eT (ag ?_)))))))
    obtain rfl:=sI h
    exact am (.inl E) E (rVt (v:=.bool true) E) (fun W2 u=>⟨E,u.none⟩)
theorem fO (p0:Int) (p1:Int) (p2:Int) (p3:TRatio) (res:Int) (h:ej p0 p1 p2 p3=some res) (W:World)  :
  Calls Try.prog 49 [vI p0,vI p1,vI p2,.agg #[vI p3.fNum,vI p3.fDen]].toArray W fun e W2=>e=.returned (vI res)∧Ext W W2 []:=by
 unfold ej at h
 refine ad (m:=29) Try.func49 E E (nB E) (cS (cR ?_))
 refine aV [vI p3.fNum,vI p3.fDen] E E E (fun U=>?_)
 refine oY E (yAI E) (oN (eT (cS (cS (cR (oY E (yMI E) ?_))))))
 obtain⟨X,H,h⟩:=bOs h
 refine oY E (yC [vI p0,vI 1,vI 50] iO E (fun W2 u=>aS p0 1 50 X H W2 ) E) (oY E (dL E) (oY E (yMB E) ?_))
 obtain⟨Y,I,h⟩:=bOs h
 refine oJ 5 (fun r=>(upd (upd (upd (upd (upd r 1 (vI p1)) 2 (vI p2)) 7 (.pointer (some ⟨U,0,none⟩))) 8 (vI 0)) 17 (.bool Y))) (fun r=>?_) (fun key=>?_)
 ·refine oY E (yMB E) ?_
  obtain⟨Z,K,h⟩:=bOs h
  refine oJ 5 (fun r=>(upd (upd (upd r 7 (.pointer (some ⟨U,0,none⟩))) 8 (vI 0)) 23 (.bool Z))) (fun r=>?_) (fun key=>?_)
  ·refine oY E (yMB E) ?_
   obtain⟨M,w,h⟩:=bOs h
   refine oJ 4 (fun r=>(upd (upd r 8 (vI 0)) 28 (.bool M))) (fun r=>?_) (fun key=>?_)
   ·refine oN (eT ?_)
    rcases iOs h with⟨d,h⟩|⟨d,h⟩
    ·refine cT (vB d) (cS (cR (oY E (yAI E) (oN (eT (ag (aa ?_)))))))
     obtain rfl:=sI h
     exact am (.inl E) E (rVt (v:=vI 1) E) (fun W2 u=>⟨E,u.none⟩)
    ·refine cF (vB d) (cK (eT (cS (cR (oY E (yAI E) (oN (eT (ag ?_))))))))
     obtain rfl:=sI h
     exact am (.inl E) E (rVt (v:=vI 0) E) (fun W2 u=>⟨E,u.none⟩)
   ·clear h;rcases iOs w with⟨f,h⟩|⟨f,h⟩
    ·refine oSk (sF E E E E f) (oSk (sF E E E E f) (oSk (sF E E E E f) (oY E (ai (vB f) E) ?_)))
     obtain rfl:=sI h
     exact key _ _ (kp (kp E))
    ·refine oY (sT E E E E f) (yN 0 [vI p3.fNum,vI p3.fDen] dF E E E) ?_
     obtain⟨N,D,h⟩:=bOs h
     refine oY (sT E E E E f) (yC [.agg #[vI p3.fNum,vI p3.fDen]] go_52 E (fun W2 u=>cL p3 N D W2 ) E) (oY (sT E E E E f) (dL E) (oY E (aj (vB f) E) ?_))
     obtain rfl:=sI h
     exact key _ _ (kp (kp E))
  ·clear h;rcases iOs K with⟨g,h⟩|⟨g,h⟩
   ·refine oSk (sF E E E E g) (oSk (sF E E E E g) (oSk (sF E E E E g) (oSk (sF E E E E g) (oY E (ai (vB g) E) ?_))))
    obtain rfl:=sI h
    exact key _ _ (kp (kp (kp E)))
   ·refine oY (sT E E E E g) (yMI E) (oY (sT E E E E g) (yMI E) ?_)
    obtain⟨O,F,h⟩:=bOs h
    refine oY (sT E E E E g) (yC [vI p2,vI 0,vI p1] iO E (fun W2 u=>aS p2 0 p1 O F W2 ) E) (oY (sT E E E E g) (dL E) (oY E (aj (vB g) E) ?_))
    obtain rfl:=sI h
    exact key _ _ (kp (kp (kp E)))
 ·clear h;rcases iOs I with⟨o,h⟩|⟨o,h⟩
  ·refine oSk (sF E E E E o) (oSk (sF E E E E o) (oSk (sF E E E E o) (oSk (sF E E E E o) (oY E (ai (vB o) E) ?_))))
   obtain rfl:=sI h
   exact key _ _ (kp4 (kp E))
  ·refine oY (sT E E E E o) (yMI E) (oY (sT E E E E o) (yMI E) ?_)
   obtain⟨Q,G,h⟩:=bOs h
   refine oY (sT E E E E o) (yC [vI p1,vI 0,vI p0] iO E (fun W2 u=>aS p1 0 p0 Q G W2 ) E) (oY (sT E E E E o) (dL E) (oY E (aj (vB o) E) ?_))
   obtain rfl:=sI h
   exact key _ _ (kp4 (kp E))
theorem c5 (p0:Int) (p1:Int) (p2:Int) (p3:Int) (res:Int) (h:cE p0 p1 p2 p3=some res) (W:World)  :
  Calls Try.prog 51 [vI p0,vI p1,vI p2,vI p3].toArray W fun e W2=>e=.returned (vI res)∧Ext W W2 []:=by
 unfold cE at h
 refine ad (m:=34) Try.func51 E E (nB E) (cS (cR (oY E (yAI E) (oN (eT (cS (cR (oY E (yAI E) (oN (eT (cS (cS (cR (oY E (yMI E) (oY E (yMI E) (oY E (yMI E) (oY E (y_min3 E E E) (oY E (bf E E) (oY E (yMI E) (oN (eT (cB ?_))))))))))))))))))))))
 obtain⟨G,d,h⟩:=bOs h
 refine a8 (fun(s:(Int × Int)) L tm=>∃(w:Nat→Value),L=[]∧tm=(upd (upd (upd (upd (upd (upd (upd w 0 (vI p0)) 1 (vI p1)) 2 (vI p2)) 8 (vI 0)) 9 (vI s.1)) 15 (vI (w64 ((min (min p3 p1) p2)+1)))) 16 (vI s.2))) 0 d ⟨_,E,(kp4 (kp (kp (kp E))))⟩ ?_ ?_
 ·rintro o L tm st ⟨r,rfl,rfl⟩ h
  unfold fC at h
  refine cS (cR (oY E (cX E E) (oN (eT (cS ?_)))))
  rcases iOs h with⟨f,h⟩|⟨f,h⟩
  ·refine cT (vB f) (cK (eT (cS (cB (cS (cR (oY E (yMI E) (oY E (yAI E) (oN (eT (cR (oY E (yMI E) (oY E (yMI E) (oY E (yMI E) ?_))))))))))))))
   obtain⟨H,D,h⟩:=bOs h
   refine oY E (yC [vI p1,vI o.2] jP E (fun W2 g=>bh p1 o.2 H D W2 ) E) (oY E (yMI E) (oY E (yMI E) (oY E (cG E E) (oY E (yMI E) (oY E (yMI E) (oY E (cG E E) ?_))))))
   obtain⟨I,F,h⟩:=bOs h
   refine oY E (yC [vI (w64 (p0-p1)),vI (w64 (p2-o.2))] jP E (fun W2 g=>bh (w64 (p0-p1)) (w64 (p2-o.2)) I F W2 ) E) (oY E (jo E E) (oY E (bf E E) (oY E (yAI E) (oN (ay (eT (cR (oY E (bf E E) (oY E (yMI E) (oN ?_))))))))))
   obtain rfl:=sI h
   exact eN ⟨_,E,(kp4 (kp (kp (kp E))))⟩
  ·refine cF (vB f) (aR (al ?_))
   obtain rfl:=sI h
   exact aD ⟨E,_,E,(kp4 (kp (kp (kp E))))⟩
 ·intro e L tm hJ
  obtain⟨rfl,u,rfl,rfl⟩:=hJ
  refine⟨(by intro hc;cases hc),?_⟩
  refine ak (eT (cS (cR (oY E (yMI E) (oY E (yAI E) (oN (eT (ag ?_))))))))
  obtain rfl:=sI h
  exact am (.inl E) E (rVt (v:=vI G.1) E) (fun W2 g=>⟨E,g.none⟩)
theorem iB (p0:Int) (p1:Int) (p2:Int) (p3:TRatio) (res:(Int × Int)) (h:fX p0 p1 p2 p3=some res) (W:World)  :
  Calls Try.prog 21 [vI p0,vI p1,vI p2,.agg #[vI p3.fNum,vI p3.fDen]].toArray W fun e W2=>e=.returned (.tuple #[vI res.1,vI res.2])∧Ext W W2 []:=by
 unfold fX at h
 refine ad (m:=38) Try.func21 E E (nB E) (cS (cR ?_))
 refine aV [vI p3.fNum,vI p3.fDen] E E E (fun V=>?_)
 refine oY E (yAI E) (oY E (yAI E) (oN (eT (cS (cS (cR (oY E (yMI E) (oY E (yMI E) (oY E (yMI E) (oY E (yN 0 [vI p3.fNum,vI p3.fDen] dF E E E) ?_))))))))))
 obtain⟨Z,M,h⟩:=bOs h
 refine oY E (yC [vI p0,vI p1,vI p2,.agg #[vI p3.fNum,vI p3.fDen]] go_49 E (fun W2 f=>fO p0 p1 p2 p3 Z M W2 ) E) (oY E (yAI E) (oN (eT (cS (cR (oY E (yMI E) (oY E (bO E E) (oN (eT ?_)))))))))
 rcases iOs h with⟨r,h⟩|⟨r,h⟩
 ·refine cT (vB r) (cS (cR (oY E (yMI E) (oY E (yAI E) (oY E (yAI E) (oN (eT (ag (aa ?_)))))))))
  obtain rfl:=sI h
  exact aW (.inl E) E (rVt (v:=vI 0) E) (rVt (v:=vI Z) E) (fun W2 f=>⟨E,f.none⟩)
 ·refine cF (vB r) (cK (eT (cS ?_)))
  refine aK 4 cm (by kernel_rfl) (by kernel_rfl) ?_
  refine qY E (yN 0 [vI p3.fNum,vI p3.fDen] dF E E E) (qY E (yMI E) (qY E (yMI E) ?_))
  obtain⟨N,O,h⟩:=bOs h
  refine qY E (yC [vI p0,vI p1] jP E (fun W2 f=>bh p0 p1 N O W2 ) E) (bt ?_)
  obtain⟨d,Q,h⟩:=bOs h
  refine ey [.agg #[vI p3.fNum,vI p3.fDen],vI N] _ _ E go_50 E (fun W2 f=>cJ p3 N d Q W2 ) ?_
  rintro⟨K,o⟩
  refine oY E (cC E) (oN (eT (cS (cR (oY E (yMI E) (oY E (yAI E) (oN (eT (cS (cB ?_))))))))))
  obtain⟨U,w,h⟩:=bOs h
  refine a8 (fun(s:Int) L tm=>∃(X:Nat→Value),L=[ac V 49 [vI p3.fNum,vI p3.fDen],ac K 49 [vI d.1.fNum,vI d.1.fDen],ac o 3 [vI d.2]]∧tm=(upd (upd (upd (upd (upd (upd (upd X 0 (vI p0)) 1 (vI p1)) 2 (vI p2)) 8 (vI 0)) 9 (vI 0)) 11 (.func (.func 65) #[] #[.pointer (some ⟨K,0,none⟩),.pointer (some ⟨o,0,none⟩)])) 12 (vI s))) 0 w ⟨_,E,(kp4 (kp (kp (kp E))))⟩ ?_ ?_
  ·rintro D L tm st ⟨F,rfl,rfl⟩ h
   unfold fZ at h
   refine cS (cS (cR (oY E (du E) (oY E (yMI E) (oY E (yMI E) (oY E (yMI E) (oY E (yMI E) ?_)))))))
   obtain⟨u,G,h⟩:=bOs h
   refine oY E (yC [vI p0,vI D,vI p1,vI p2] go_51 E (fun W2 f=>c5 p0 D p1 p2 u G W2 ) E) ?_
   obtain⟨Y,H,h⟩:=bOs h
   refine oY E (gl (caps:=[.pointer (some ⟨K,0,none⟩),.pointer (some ⟨o,0,none⟩)]) [vI u] go_65 E E (fun W2 f=>cl u d.1 d.2 Y H W2 K ((RdL.cells 1 E) W2 f) o ((RdL.cells 2 E) W2 f))) (oY E (dL E) (oN (eT ?_)))
   rcases iOs h with⟨g,h⟩|⟨g,h⟩
   ·refine cT (vB g) (cK (eT (cB (cR (oY E (yMI E) (oY E (cG E E) (oY E (yAI E) (oN (ay ?_)))))))))
    obtain rfl:=sI h
    exact eN ⟨_,E,(kp4 (kp (kp (kp E))))⟩
   ·refine cF (vB g) (aR (al ?_))
    obtain rfl:=sI h
    exact aD ⟨E,_,E,(kp4 (kp (kp (kp E))))⟩
  ·intro e L tm hJ
   obtain⟨rfl,I,rfl,rfl⟩:=hJ
   refine⟨(by intro hc;cases hc),?_⟩
   refine ak (eT (cS (cR (oY E (yMI E) (oY E (yAI E) (oY E (yAI E) (oN (eT (ag ?_)))))))))
   obtain rfl:=sI h
   exact aW (.inl E) E (rVt (v:=vI U) E) (rVt (v:=vI 0) E) (fun W2 f=>⟨E,f.none⟩)
theorem iP (p0:Int) (p1:Int) (p2:Int) (p3:TRatio) (res:(Int × Int)) (h:fQ p0 p1 p2 p3=some res) (W:World)  :
  Calls Try.prog 22 [vI p0,vI p1,vI p2,.agg #[vI p3.fNum,vI p3.fDen]].toArray W fun e W2=>e=.returned (.tuple #[vI res.1,vI res.2])∧Ext W W2 []:=by
 unfold fQ at h
 refine ad (m:=42) Try.func22 E E (nB E) (cS (cR ?_))
 refine aV [vI p3.fNum,vI p3.fDen] E E E (fun V=>?_)
 refine oY E (yAI E) (oY E (yAI E) (oN (eT (cS (cS (cR (oY E (yMI E) (oY E (yMI E) (oY E (yMI E) (oY E (yN 0 [vI p3.fNum,vI p3.fDen] dF E E E) ?_))))))))))
 obtain⟨Z,N,h⟩:=bOs h
 refine oY E (yC [vI p0,vI p1,vI p2,.agg #[vI p3.fNum,vI p3.fDen]] go_49 E (fun W2 f=>fO p0 p1 p2 p3 Z N W2 ) E) (oY E (yAI E) (oN (eT (cS (cR (oY E (yMI E) (oY E (bO E E) (oN (eT ?_)))))))))
 rcases iOs h with⟨r,h⟩|⟨r,h⟩
 ·refine cT (vB r) (cS (cR (oY E (yMI E) (oY E (yAI E) (oY E (yAI E) (oN (eT (ag (aa ?_)))))))))
  obtain rfl:=sI h
  exact aW (.inl E) E (rVt (v:=vI 0) E) (rVt (v:=vI Z) E) (fun W2 f=>⟨E,f.none⟩)
 ·refine cF (vB r) (cK (eT (cS (cR (oY E (yMI E) (oY E (yMI E) ?_))))))
  obtain⟨d,O,h⟩:=bOs h
  refine oY E (yC [vI p0,vI p1] jP E (fun W2 f=>bh p0 p1 d O W2 ) E) (oY E (yAI E) (oN (eT (cS (cR (oY E (yN 0 [vI p3.fNum,vI p3.fDen] dF E E E) (oY E (yMI E) ?_)))))))
  obtain⟨w,Q,h⟩:=bOs h
  refine ey [.agg #[vI p3.fNum,vI p3.fDen],vI d] _ _ E go_50 E (fun W2 f=>cJ p3 d w Q W2 ) ?_
  rintro⟨M,o⟩
  refine oY E (cC E) (oN (eT (cS (cR (oY E (yAI E) (oN (eT (cS (cB ?_)))))))))
  obtain⟨U,D,h⟩:=bOs h
  refine a8 (fun(s:Int) L tm=>∃(X:Nat→Value),L=[ac V 49 [vI p3.fNum,vI p3.fDen],ac M 49 [vI w.1.fNum,vI w.1.fDen],ac o 3 [vI w.2]]∧tm=(upd (upd (upd (upd (upd (upd (upd (upd X 0 (vI p0)) 1 (vI p1)) 2 (vI p2)) 8 (vI 0)) 9 (vI 0)) 11 (vI d)) 12 (.func (.func 65) #[] #[.pointer (some ⟨M,0,none⟩),.pointer (some ⟨o,0,none⟩)])) 13 (vI s))) 0 D ⟨_,E,(kp4 (kp4 E))⟩ ?_ ?_
  ·rintro F L tm st ⟨G,rfl,rfl⟩ h
   unfold fT at h
   refine cS (cS (cR (oY E (du E) (oY E (yMI E) (oY E (yMI E) (oY E (yMI E) (oY E (yMI E) (oY E (yMI E) (oY E (cG E E) ?_)))))))))
   obtain⟨u,H,h⟩:=bOs h
   refine oY E (yC [vI p0,vI F,vI p1,vI (w64 (p2-1))] go_51 E (fun W2 f=>c5 p0 F p1 (w64 (p2-1)) u H W2 ) E) (oY E (cG E E) ?_)
   obtain⟨Y,I,h⟩:=bOs h
   refine oY E (gl (caps:=[.pointer (some ⟨M,0,none⟩),.pointer (some ⟨o,0,none⟩)]) [vI (w64 (d-u))] go_65 E E (fun W2 f=>cl (w64 (d-u)) w.1 w.2 Y I W2 M ((RdL.cells 1 E) W2 f) o ((RdL.cells 2 E) W2 f))) (oY E (dL E) (oN (eT ?_)))
   rcases iOs h with⟨g,h⟩|⟨g,h⟩
   ·refine cT (vB g) (cK (eT (cB (cR (oY E (yMI E) (oY E (bf E E) (oY E (yAI E) (oN (ay ?_)))))))))
    obtain rfl:=sI h
    exact eN ⟨_,E,(kp4 (kp4 E))⟩
   ·refine cF (vB g) (aR (al ?_))
    obtain rfl:=sI h
    exact aD ⟨E,_,E,(kp4 (kp4 E))⟩
  ·intro e L tm hJ
   obtain⟨rfl,K,rfl,rfl⟩:=hJ
   refine⟨(by intro hc;cases hc),?_⟩
   refine ak (eT (cS (cR (oY E (yMI E) (oY E (yAI E) (oY E (yAI E) (oN (eT (ag ?_)))))))))
   obtain rfl:=sI h
   exact aW (.inl E) E (rVt (v:=vI U) E) (rVt (v:=vI 0) E) (fun W2 f=>⟨E,f.none⟩)
theorem g2  (res:TRatio) (h:eM=some res) (W:World)  :
  Calls Try.prog 23 [].toArray W fun e W2=>e=.returned (.agg #[vI res.fNum,vI res.fDen])∧Ext W W2 []:=by
 unfold eM at h
 refine ad (m:=2) Try.func23 E E (nB E) (cS (cR ?_))
 refine aG ee E (fun g=>?_)
 refine oN (eT (cS (cR ?_)))
 refine oY E (aw [vI 1,vI 2] [(0,1),(1,1)] eu ee (by kernel_rfl)) ?_
 refine cg E (yS 0 [vI 1,vI 2] g0 E (nB E) E E E) (oN (eT (ag ?_)))
 obtain rfl:=sI h
 exact am (.inl E) E (av 0 [vI 1,vI 2] dF E E E) (fun W2 f=>⟨E,f.none⟩)
theorem gw (p0:Int) (p1:Int) (p2:Int) (p3:TRatio) (p4:TRatio) (res:(TTrial × Int)) (h:eb p0 p1 p2 p3 p4=some res) (W:World)  :
  Calls Try.prog 24 [vI p0,vI p1,vI p2,.agg #[vI p3.fNum,vI p3.fDen],.agg #[vI p4.fNum,vI p4.fDen]].toArray W fun e W2=>e=.returned (.tuple #[.agg #[vI res.1.fSample,vI res.1.fAccept],vI res.2])∧Ext W W2 []:=by
 unfold eb at h
 refine ad (m:=93) Try.func24 E E (nB E) (cS (cR ?_))
 refine aV [vI p3.fNum,vI p3.fDen] E E E (fun K=>?_)
 refine aV [vI p4.fNum,vI p4.fDen] E E E (fun M=>?_)
 refine aG j8 E (fun N=>?_)
 refine oY E (yAI E) (oN (eT (kq (cS (cS (cR (oY E (yMI E) ?_)))))))
 obtain⟨T,fE,h⟩:=bOs h
 refine oY E (yC [vI p0,vI 1,vI 50] iO E (fun W2 r=>aS p0 1 50 T fE W2 ) E) (oY E (dL E) (oY E (yMB E) ?_))
 refine oJ 3 (fun g=>(upd (upd (upd (upd (upd (upd (upd (upd (upd (upd g 0 (vI p0)) 1 (vI p1)) 2 (vI p2)) 3 (.agg #[vI p3.fNum,vI p3.fDen])) 4 (.agg #[vI p4.fNum,vI p4.fDen])) 8 (.pointer (some ⟨K,0,none⟩))) 9 (.pointer (some ⟨M,0,none⟩))) 10 (.pointer (some ⟨N,0,none⟩))) 11 (vI 0)) 24 (.bool ((!T)||(decide (p1<0)))))) (fun g=>?_) (fun key=>?_)
 ·refine oY E (yMB E) ?_
  refine oJ 4 (fun g=>(upd (upd (upd (upd (upd (upd (upd (upd (upd (upd g 0 (vI p0)) 1 (vI p1)) 2 (vI p2)) 3 (.agg #[vI p3.fNum,vI p3.fDen])) 4 (.agg #[vI p4.fNum,vI p4.fDen])) 8 (.pointer (some ⟨K,0,none⟩))) 9 (.pointer (some ⟨M,0,none⟩))) 10 (.pointer (some ⟨N,0,none⟩))) 11 (vI 0)) 29 (.bool (((!T)||(decide (p1<0)))||(decide (p2≤p1)))))) (fun g=>?_) (fun key=>?_)
  ·refine oY E (yMB E) ?_
   refine oJ 4 (fun g=>(upd (upd (upd (upd (upd (upd (upd (upd (upd (upd g 0 (vI p0)) 1 (vI p1)) 2 (vI p2)) 3 (.agg #[vI p3.fNum,vI p3.fDen])) 4 (.agg #[vI p4.fNum,vI p4.fDen])) 8 (.pointer (some ⟨K,0,none⟩))) 9 (.pointer (some ⟨M,0,none⟩))) 10 (.pointer (some ⟨N,0,none⟩))) 11 (vI 0)) 34 (.bool ((((!T)||(decide (p1<0)))||(decide (p2≤p1)))||(decide (p0<p2)))))) (fun g=>?_) (fun key=>?_)
   ·refine oY E (yMB E) ?_
    obtain⟨fn,n,h⟩:=bOs h
    refine oJ 4 (fun g=>(upd (upd (upd (upd (upd (upd (upd (upd (upd (upd g 0 (vI p0)) 1 (vI p1)) 2 (vI p2)) 3 (.agg #[vI p3.fNum,vI p3.fDen])) 4 (.agg #[vI p4.fNum,vI p4.fDen])) 8 (.pointer (some ⟨K,0,none⟩))) 9 (.pointer (some ⟨M,0,none⟩))) 10 (.pointer (some ⟨N,0,none⟩))) 11 (vI 0)) 39 (.bool fn))) (fun g=>?_) (fun key=>?_)
    ·refine oY E (yMB E) ?_
     obtain⟨O,l,h⟩:=bOs h
     refine oJ 4 (fun g=>(upd (upd (upd (upd (upd (upd (upd (upd (upd (upd g 0 (vI p0)) 1 (vI p1)) 2 (vI p2)) 3 (.agg #[vI p3.fNum,vI p3.fDen])) 4 (.agg #[vI p4.fNum,vI p4.fDen])) 8 (.pointer (some ⟨K,0,none⟩))) 9 (.pointer (some ⟨M,0,none⟩))) 10 (.pointer (some ⟨N,0,none⟩))) 11 (vI 0)) 44 (.bool O))) (fun g=>?_) (fun key=>?_)
     ·refine oN (eT ?_)
      rcases iOs h with⟨U,h⟩|⟨U,h⟩
      ·refine cT (vB U) (cS (cR ?_))
       refine oY E (aw [vI 0,vI 0] [(0,1),(1,1)] km j8 (by kernel_rfl)) ?_
       refine cg E (yS 2 [vI 0,vI 0] lu E (nB E) E E E) (oY E (yAI E) (oN (eT (ag (aa (ep ?_))))))
       obtain rfl:=sI h
       exact aW (.inl E) E (av 2 [vI 0,vI 0] ls E E E) (rVt (v:=vI 1) E) (fun W2 r=>⟨E,r.none⟩)
      ·refine cF (vB U) (cK (eT (cS (cR ?_))))
       refine aG j8 E (fun F=>?_)
       refine oN (eT (cS (cR (oY E (yAB E) (oN (eT (cS (ku (eT (cS (cS (cR (oY E (yMI E) (oY E (bf E E) (oY E (yMI E) (oN (eT (cB ?_))))))))))))))))))
       obtain⟨Q,t,h⟩:=bOs h
       refine a8 (fun(s:(Bool × Int × Int × Int)) L tm=>∃(g:Nat→Value),L=[ac K 49 [vI p3.fNum,vI p3.fDen],ac M 49 [vI p4.fNum,vI p4.fDen],ac N 66 [vI 0,vI 0],ac F 66 [vI s.2.2.1,vI s.2.2.2]]∧tm=(upd (upd (upd (upd (upd (upd (upd (upd (upd (upd (upd (upd (upd (upd g 0 (vI p0)) 1 (vI p1)) 2 (vI p2)) 3 (.agg #[vI p3.fNum,vI p3.fDen])) 4 (.agg #[vI p4.fNum,vI p4.fDen])) 8 (.pointer (some ⟨K,0,none⟩))) 9 (.pointer (some ⟨M,0,none⟩))) 10 (.pointer (some ⟨N,0,none⟩))) 11 (vI 0)) 44 (.bool O)) 12 (.pointer (some ⟨F,0,none⟩))) 13 (.bool s.1)) 47 (vI (w64 (p0+1)))) 48 (vI s.2.1))) 0 t ⟨_,E,(kp4 (kp4 (kp4 (kp (kp E)))))⟩ ?_ ?_
       ·rintro o L tm st ⟨a,rfl,rfl⟩ h
        unfold el at h
        refine cS (cR (oY E (cX E E) (oN (eT (cS ?_)))))
        rcases iOs h with⟨X,h⟩|⟨X,h⟩
        ·refine cT (vB X) (cK (eT (cS (cB (cS (cR (oY E (yMI E) (oY E (yAI E) (oN (eT (cS (cR (oY E (yMI E) (oY E (yMI E) ?_))))))))))))))
         obtain⟨I,z,h⟩:=bOs h
         refine oY E (yC [vI p0,vI o.2.1] jP E (fun W2 r=>bh p0 o.2.1 I z W2 ) E) (oY E (yAI E) (oN (eT (cS (cR (oY E (yMI E) (oY E (bf E E) (oY E (yMI E) (oN (eT (cB ?_)))))))))))
         obtain⟨fl,i,h⟩:=bOs h
         refine jA (fun(s:(Bool × Int × Int × Int)) L tm=>∃(g:Nat→Value),L=[ac K 49 [vI p3.fNum,vI p3.fDen],ac M 49 [vI p4.fNum,vI p4.fDen],ac N 66 [vI 0,vI 0],ac F 66 [vI s.2.2.1,vI s.2.2.2]]∧tm=(upd (upd (upd (upd (upd (upd (upd (upd (upd (upd (upd (upd (upd (upd (upd (upd (upd (upd (upd g 0 (vI p0)) 1 (vI p1)) 2 (vI p2)) 3 (.agg #[vI p3.fNum,vI p3.fDen])) 4 (.agg #[vI p4.fNum,vI p4.fDen])) 8 (.pointer (some ⟨K,0,none⟩))) 9 (.pointer (some ⟨M,0,none⟩))) 10 (.pointer (some ⟨N,0,none⟩))) 11 (vI 0)) 44 (.bool O)) 12 (.pointer (some ⟨F,0,none⟩))) 13 (.bool s.1)) 47 (vI (w64 (p0+1)))) 48 (vI o.2.1)) 49 (.bool (decide (o.2.1<w64 (p0+1))))) 14 (vI o.2.1)) 15 (vI I)) 55 (vI (w64 (o.2.1+1)))) 56 (vI s.2.1))) (fun|(.inl s),e,L,tm=>e=.exit 0∧∃(g:Nat→Value),L=[ac K 49 [vI p3.fNum,vI p3.fDen],ac M 49 [vI p4.fNum,vI p4.fDen],ac N 66 [vI 0,vI 0],ac F 66 [vI s.2.2.1,vI s.2.2.2]]∧tm=(upd (upd (upd (upd (upd (upd (upd (upd (upd (upd (upd (upd (upd (upd (upd (upd (upd (upd (upd g 0 (vI p0)) 1 (vI p1)) 2 (vI p2)) 3 (.agg #[vI p3.fNum,vI p3.fDen])) 4 (.agg #[vI p4.fNum,vI p4.fDen])) 8 (.pointer (some ⟨K,0,none⟩))) 9 (.pointer (some ⟨M,0,none⟩))) 10 (.pointer (some ⟨N,0,none⟩))) 11 (vI 0)) 44 (.bool O)) 12 (.pointer (some ⟨F,0,none⟩))) 13 (.bool s.1)) 47 (vI (w64 (p0+1)))) 48 (vI o.2.1)) 49 (.bool (decide (o.2.1<w64 (p0+1))))) 14 (vI o.2.1)) 15 (vI I)) 55 (vI (w64 (o.2.1+1)))) 56 (vI s.2.1))|(.inr s),e,L,tm=>e=.exit 2∧∃(g:Nat→Value),L=[ac K 49 [vI p3.fNum,vI p3.fDen],ac M 49 [vI p4.fNum,vI p4.fDen],ac N 66 [vI 0,vI 0],ac F 66 [vI s.2.2.1,vI s.2.2.2]]∧tm=(upd (upd (upd (upd (upd (upd (upd (upd (upd (upd (upd (upd (upd (upd (upd (upd (upd (upd (upd g 0 (vI p0)) 1 (vI p1)) 2 (vI p2)) 3 (.agg #[vI p3.fNum,vI p3.fDen])) 4 (.agg #[vI p4.fNum,vI p4.fDen])) 8 (.pointer (some ⟨K,0,none⟩))) 9 (.pointer (some ⟨M,0,none⟩))) 10 (.pointer (some ⟨N,0,none⟩))) 11 (vI 0)) 44 (.bool O)) 12 (.pointer (some ⟨F,0,none⟩))) 13 (.bool s.1)) 47 (vI (w64 (p0+1)))) 48 (vI o.2.1)) 49 (.bool (decide (o.2.1<w64 (p0+1))))) 14 (vI o.2.1)) 15 (vI I)) 55 (vI (w64 (o.2.1+1)))) 56 (vI s.2.1))) i ⟨_,E,(kp4 (kp4 (kp4 (kp4 (kp (kp (kp E)))))))⟩ ?_ ?_
         ·rintro D L tm st ⟨j,rfl,rfl⟩ h
          unfold ez at h
          refine cS (cR (oY E (cX E E) (oN (eT (cS ?_)))))
          rcases iOs h with⟨Y,h⟩|⟨Y,h⟩
          ·refine cT (vB Y) (cK (eT (cS (cB (cS (cR (oY E (yMI E) (oY E (yAI E) (oN (eT (cS (cR (oY E (yMI E) (oY E (yMI E) (oY E (yMI E) (oY E (yMI E) ?_))))))))))))))))
           obtain⟨S,k,h⟩:=bOs h
           refine oY E (yC [vI p0,vI p2,vI o.2.1,vI D.2.1] go_51 E (fun W2 r=>c5 p0 p2 o.2.1 D.2.1 S k W2 ) E) (oY E (yAI E) (oN (eT (cS (cR (oY E (yN 0 [vI p3.fNum,vI p3.fDen] dF E E E) (oY E (yMI E) ?_)))))))
           obtain⟨R,x,h⟩:=bOs h
           refine ey [.agg #[vI p3.fNum,vI p3.fDen],vI I] _ _ E go_50 E (fun W2 r=>cJ p3 I R x W2 ) ?_
           rintro⟨y,b⟩
           try dsimp only[lna,lca,lsz,lss]
           refine oY E (yMI E) (oY E (yMI E) (oY E (yMI E) (oY E (yMI E) ?_)))
           obtain⟨q,c,h⟩:=bOs h
           refine oY E (yC [vI p0,vI p1,vI o.2.1,vI D.2.1] go_51 E (fun W2 r=>c5 p0 p1 o.2.1 D.2.1 q c W2 ) E) ?_
           obtain⟨p,f0,h⟩:=bOs h
           refine oY E (gl (caps:=[.pointer (some ⟨y,0,none⟩),.pointer (some ⟨b,0,none⟩)]) [vI q] go_65 E E (fun W2 r=>cl q R.1 R.2 p f0 W2 y ((RdL.cells 4 E) W2 r) b ((RdL.cells 5 E) W2 r))) (oY E (yMB E) ?_)
           refine oJ 10 (fun g=>(upd (upd (upd (upd (upd (upd (upd (upd (upd (upd (upd (upd (upd (upd (upd (upd (upd (upd (upd (upd (upd (upd (upd g 0 (vI p0)) 1 (vI p1)) 2 (vI p2)) 3 (.agg #[vI p3.fNum,vI p3.fDen])) 4 (.agg #[vI p4.fNum,vI p4.fDen])) 8 (.pointer (some ⟨K,0,none⟩))) 9 (.pointer (some ⟨M,0,none⟩))) 10 (.pointer (some ⟨N,0,none⟩))) 11 (vI 0)) 44 (.bool O)) 12 (.pointer (some ⟨F,0,none⟩))) 13 (.bool D.1)) 47 (vI (w64 (p0+1)))) 48 (vI o.2.1)) 49 (.bool (decide (o.2.1<w64 (p0+1))))) 14 (vI o.2.1)) 15 (vI I)) 55 (vI (w64 (o.2.1+1)))) 56 (vI D.2.1)) 57 (.bool (decide (D.2.1<w64 (o.2.1+1))))) 16 (vI D.2.1)) 17 (vI S)) 83 (.bool (p&&(decide (w64 (S*p4.fDen)≤w64 (p4.fNum*I))))))) (fun g=>?_) (fun key=>?_)
           ·refine oN (eT ?_)
            rcases iOs h with⟨Z,h⟩|⟨Z,h⟩
            ·refine cT (vB Z) (cS (cR (oY E (yMI E) (oY E (yMI E) ?_))))
             refine oY E (aw [vI o.2.1,vI D.2.1] [(0,1),(1,1)] km j8 (by kernel_rfl)) ?_
             refine cg E (yS 3 [vI o.2.1,vI D.2.1] lu E (nB E) E E E) (oY E (yAB E) (oN (eT (aR (cN E (al (bM 4 ?_)))))))
             obtain rfl:=sI h
             exact aD ⟨E,_,E,(kp4 (kp4 (kp4 (kp4 (kp (kp (kp E)))))))⟩
            ·refine cF (vB Z) (cK (ay (eT (cR (oY E (bf E E) (oY E (yMI E) (oN (bM 4 ?_))))))))
             obtain rfl:=sI h
             exact eN ⟨_,E,(kp4 (kp4 (kp4 (kp4 (kp (kp (kp E)))))))⟩
           ·rcases ar p with f|f
            ·refine oY (sT E E E E f) (yMI E) (oY (sT E E E E f) (yFA iy E) (oY (sT E E E E f) (yL 1 az E E E) (oY (sT E E E E f) (jo E E) (oY (sT E E E E f) (yFA jw E) (oY (sT E E E E f) (yL 1 az E E E) (oY (sT E E E E f) (yMI E) (oY (sT E E E E f) (jo E E) (oY (sT E E E E f) (jx E E) (oY E (ai (vB f) E) ?_)))))))))
             exact key _ _ (keep (keep (keep (keep (keep (keep (keep (keep (keep (keep (keep (keep (keep (keep (keep (keep (keep (keep (keep (keep (keep (keep (keep E E) E) E) E) E) E) E) E) E) E) E) E) E) E) E) E) E) E) E) E) E) E) (vB (fP f)))
            ·refine oSk (sF E E E E f) (oSk (sF E E E E f) (oSk (sF E E E E f) (oSk (sF E E E E f) (oSk (sF E E E E f) (oSk (sF E E E E f) (oSk (sF E E E E f) (oSk (sF E E E E f) (oSk (sF E E E E f) (oY E (aj (vB f) E) ?_)))))))))
             exact key _ _ (keep (keep (keep (keep (keep (keep (keep (keep (keep (keep (keep (keep (keep (keep (keep (keep (keep (keep (keep (keep (keep (keep (keep E E) E) E) E) E) E) E) E) E) E) E) E) E) E) E) E) E) E) E) E) E) E) (vB (fI f)))
          ·refine cF (vB Y) (aR (al ?_))
           obtain rfl:=sI h
           exact aD ⟨E,_,E,(kp4 (kp4 (kp4 (kp4 (kp (kp (kp E)))))))⟩
         ·intro e L tm hJ
          rcases fl with o1|o2
          ·dsimp only at h hJ
           obtain⟨rfl,f1,rfl,rfl⟩:=hJ
           refine⟨(by intro hc;cases hc),?_⟩
           refine cN E (cN E (al ?_))
           obtain rfl:=sI h
           exact aD ⟨E,_,E,(kp4 (kp4 (kp4 (kp (kp E)))))⟩
          ·dsimp only at h hJ
           obtain⟨rfl,f2,rfl,rfl⟩:=hJ
           refine⟨(by intro hc;cases hc),?_⟩
           refine ak (ay (eT (cR (oY E (bf E E) (oY E (yMI E) (oN ?_))))))
           obtain rfl:=sI h
           exact eN ⟨_,E,(kp4 (kp4 (kp4 (kp (kp E)))))⟩
        ·refine cF (vB X) (aR (al ?_))
         obtain rfl:=sI h
         exact aD ⟨E,_,E,(kp4 (kp4 (kp4 (kp (kp E)))))⟩
       ·intro e L tm hJ
        obtain⟨rfl,f3,rfl,rfl⟩:=hJ
        refine⟨(by intro hc;cases hc),?_⟩
        refine ak (eT (cS (cS (cR (oY E (yMB E) (oY E (dL E) (oN (eT ?_))))))))
        rcases iOs h with⟨V,h⟩|⟨V,h⟩
        ·refine cT (vB V) (cS (cR ?_))
         refine oY E (aw [vI 0,vI 0] [(0,1),(1,1)] km j8 (by kernel_rfl)) ?_
         refine cg E (yS 2 [vI 0,vI 0] lu E (nB E) E E E) (oY E (yAI E) (oN (eT (ag (aa (ep ?_))))))
         obtain rfl:=sI h
         exact aW (.inl E) E (av 2 [vI 0,vI 0] ls E E E) (rVt (v:=vI 5) E) (fun W2 r=>⟨E,r.none⟩)
        ·refine cF (vB V) (cK (eT (cS (cR (oY E (yN 3 [vI Q.2.2.1,vI Q.2.2.2] ls E E E) (cg E (yS 2 [vI Q.2.2.1,vI Q.2.2.2] lu E (nB E) E E E) (oY E (yAI E) (oN (eT (ag (ep ?_)))))))))))
         obtain rfl:=sI h
         exact aW (.inl E) E (av 2 [vI Q.2.2.1,vI Q.2.2.2] ls E E E) (rVt (v:=vI 0) E) (fun W2 r=>⟨E,r.none⟩)
     ·clear h;rcases iOs l with⟨u,h⟩|⟨u,h⟩
      ·refine oSk (sF E E E E u) (oSk (sF E E E E u) (oSk (sF E E E E u) (oY E (ai (vB u) E) ?_)))
       obtain rfl:=sI h
       exact key _ _ (kp4 (kp4 (kp (kp E))))
      ·refine oY (sT E E E E u) (yN 1 [vI p4.fNum,vI p4.fDen] dF E E E) ?_
       obtain⟨gf,fr,h⟩:=bOs h
       refine oY (sT E E E E u) (yC [.agg #[vI p4.fNum,vI p4.fDen]] go_52 E (fun W2 r=>cL p4 gf fr W2 ) E) (oY (sT E E E E u) (dL E) (oY E (aj (vB u) E) ?_))
       obtain rfl:=sI h
       exact key _ _ (kp4 (kp4 (kp (kp E))))
    ·clear h;rcases iOs n with⟨G,h⟩|⟨G,h⟩
     ·refine oSk (sF E E E E G) (oSk (sF E E E E G) (oSk (sF E E E E G) (oY E (ai (vB G) E) ?_)))
      obtain rfl:=sI h
      exact key _ _ (kp4 (kp4 (kp (kp E))))
     ·refine oY (sT E E E E G) (yN 0 [vI p3.fNum,vI p3.fDen] dF E E E) ?_
      obtain⟨o0,fd,h⟩:=bOs h
      refine oY (sT E E E E G) (yC [.agg #[vI p3.fNum,vI p3.fDen]] go_52 E (fun W2 r=>cL p3 o0 fd W2 ) E) (oY (sT E E E E G) (dL E) (oY E (aj (vB G) E) ?_))
      obtain rfl:=sI h
      exact key _ _ (kp4 (kp4 (kp (kp E))))
   ·rcases ar (((!T)||(decide (p1<0)))||(decide (p2≤p1)))with d|d
    ·refine oSk (sF E E E E d) (oSk (sF E E E E d) (oSk (sF E E E E d) (oY E (ai (vB d) E) ?_)))
     exact key _ _ (keep (keep (keep (keep (keep (keep (keep (keep (keep (keep E E) E) E) E) E) E) E) E) E) (vB (jG d)))
    ·refine oY (sT E E E E d) (yMI E) (oY (sT E E E E d) (yMI E) (oY (sT E E E E d) (eZ E E) (oY E (aj (vB d) E) ?_)))
     exact key _ _ (keep (keep (keep (keep (keep (keep (keep (keep (keep (keep E E) E) E) E) E) E) E) E) E) (vB (jH d)))
  ·rcases ar ((!T)||(decide (p1<0)))with w|w
   ·refine oSk (sF E E E E w) (oSk (sF E E E E w) (oSk (sF E E E E w) (oY E (ai (vB w) E) ?_)))
    exact key _ _ (keep (keep (keep (keep (keep (keep (keep (keep (keep (keep E E) E) E) E) E) E) E) E) E) (vB (jG w)))
   ·refine oY (sT E E E E w) (yMI E) (oY (sT E E E E w) (yMI E) (oY (sT E E E E w) (js E E) (oY E (aj (vB w) E) ?_)))
    exact key _ _ (keep (keep (keep (keep (keep (keep (keep (keep (keep (keep E E) E) E) E) E) E) E) E) E) (vB (jH w)))
 ·rcases ar (!T)with H|H
  ·refine oSk (sF E E E E H) (oSk (sF E E E E H) (oY E (ai (vB H) E) ?_))
   exact key _ _ (keep (keep (keep (keep (keep (keep (keep (keep (keep (keep E E) E) E) E) E) E) E) E) E) (vB (jG H)))
  ·refine oY (sT E E E E H) (yMI E) (oY (sT E E E E H) (cX E E) (oY E (aj (vB H) E) ?_))
   exact key _ _ (keep (keep (keep (keep (keep (keep (keep (keep (keep (keep E E) E) E) E) E) E) E) E) E) (vB (jH H)))
theorem iY (p0:TBatch) (p1:Int) (res:TSpan) (h:go p0 p1=some res) (W:World)  :
  Calls Try.prog 54 [.agg #[vI p0.fBarrows,vI p0.fSeen.x0,vI p0.fSeen.x1,vI p0.fSeen.x2,vI p0.fKnown.x0.fLo,vI p0.fKnown.x0.fHi,vI p0.fKnown.x1.fLo,vI p0.fKnown.x1.fHi,vI p0.fKnown.x2.fLo,vI p0.fKnown.x2.fHi],vI p1].toArray W fun e W2=>e=.returned (.agg #[vI res.fLo,vI res.fHi])∧Ext W W2 []:=by
 unfold go at h
 refine eA (m:=27) Try.func54 E E (nB E) (cS (cR ?_))
 refine aV [vI p0.fBarrows,vI p0.fSeen.x0,vI p0.fSeen.x1,vI p0.fSeen.x2,vI p0.fKnown.x0.fLo,vI p0.fKnown.x0.fHi,vI p0.fKnown.x1.fLo,vI p0.fKnown.x1.fHi,vI p0.fKnown.x2.fLo,vI p0.fKnown.x2.fHi] E E E (fun I=>?_)
 refine aV [vI p1] E E E (fun K=>?_)
 refine aG dz E (fun M=>?_)
 refine oN (eT (cS (cR (oY E (yFA cU E) (oY E (yL 0 az E E E) ?_)))))
 refine oY E (aw [vI p0.fBarrows,vI 0] [(0,1),(1,1)] eh dz (by kernel_rfl)) ?_
 refine aG dz E (fun N=>?_)
 refine cg E (yS 3 [vI p0.fBarrows,vI 0] eK E (nB E) E E E) (oN (eT (cS (cS (cR (oY E (yN 0 [vI p0.fBarrows,vI p0.fSeen.x0,vI p0.fSeen.x1,vI p0.fSeen.x2,vI p0.fKnown.x0.fLo,vI p0.fKnown.x0.fHi,vI p0.fKnown.x1.fLo,vI p0.fKnown.x1.fHi,vI p0.fKnown.x2.fLo,vI p0.fKnown.x2.fHi] a6 E E E) ?_))))))
 obtain⟨g,H,h⟩:=bOs h
 refine ey [.agg #[vI p0.fBarrows,vI p0.fSeen.x0,vI p0.fSeen.x1,vI p0.fSeen.x2,vI p0.fKnown.x0.fLo,vI p0.fKnown.x0.fHi,vI p0.fKnown.x1.fLo,vI p0.fKnown.x1.fHi,vI p0.fKnown.x2.fLo,vI p0.fKnown.x2.fHi]] _ _ E go_41 E (fun W2 o=>c6 p0 g H W2 ) ?_
 rintro⟨D,F⟩
 try dsimp only[lna,lca,lsz,lss]
 refine oN (eT (cB ?_))
 obtain⟨hok26,h⟩:=gOs h
 obtain⟨O,G,h⟩:=bOs h
 refine ig (enc:=fun x:TKinds=>.agg #[vI x.x0,vI x.x1,vI x.x2]) (bs:=[F,D]) (caps:=[.pointer (some ⟨F,0,none⟩),.pointer (some ⟨D,0,none⟩)]) (fun(s:(Int × Int)) L=>L=[ac I 28 [vI p0.fBarrows,vI p0.fSeen.x0,vI p0.fSeen.x1,vI p0.fSeen.x2,vI p0.fKnown.x0.fLo,vI p0.fKnown.x0.fHi,vI p0.fKnown.x1.fLo,vI p0.fKnown.x1.fHi,vI p0.fKnown.x2.fLo,vI p0.fKnown.x2.fHi],ac K 3 [vI p1],ac M 25 [vI 0,vI 0],ac N 25 [vI s.1,vI s.2],ac D 28 [vI g.fBarrows,vI g.fSeen.x0,vI g.fSeen.x1,vI g.fSeen.x2,vI g.fKnown.x0.fLo,vI g.fKnown.x0.fHi,vI g.fKnown.x1.fLo,vI g.fKnown.x1.fHi,vI g.fKnown.x2.fLo,vI g.fKnown.x2.fHi],ac F 94 [.func (.func 62) #[] #[.pointer (some ⟨D,0,none⟩)]]]) (fun(_:Unit) _ _=>False) G E go_63 (fun W2 o=>ck g hok26 W2 F D (o.mem (i:=5) E) (o.mem (i:=4) E)) (by intro b hb;simp only[List.mem_cons,List.not_mem_nil,or_false]at hb;rcases hb with rfl|rfl;all_goals first|exact .inr ⟨_,fun s L hI=>by obtain rfl:=hI;exact⟨5,E⟩⟩|exact .inr ⟨_,fun s L hI=>by obtain rfl:=hI;exact⟨4,E⟩⟩) E (fun W2 o s L hI=>by obtain rfl:=hI;exact(.cons Cy.cells (.cons Cy.cells (.cons Cy.cells (.cons Cy.cells (.cons Cy.cells (.cons Cy.cells CyL.nil))))))) (fun _ _ _ _ _ h=>h.elim) (fun _ _ _ h=>h.elim) ?_ ?_ ?_
 ·rintro D9 l10 rec11 r f L st hrec12 rfl h
  unfold gi at h
  refine cR ?_
  try dsimp only[lna,lca,lsz,lss]
  refine aG eP E (fun Q=>?_)
  try dsimp only[lna,lca,lsz,lss]
  refine cg E (yS 8 [vI f.x0,vI f.x1,vI f.x2] sz_23 E (nB E) E E E) (oN (ij 7 E hrec12 (cB ?_)))
  refine aK 13 cm (by kernel_rfl) (by kernel_rfl) ?_
  refine qY E (yFA dc E) (qY E (yL 3 az E E E) (qY E (yL 1 az E E E) ?_))
  obtain⟨d,h⟩:=gOs h
  refine qY E (aq cY d.1 d.2 E E) ?_
  refine qY E (yL 8 (v:=vI (aH f.x0 f.x1 f.x2 p1)) az E E (by rcases in3 d with e|e|e <;> rw[e] <;> rfl)) ?_
  refine qY E (jX E E) (qY E (yFA cz E) (qY E (yL 3 az E E E) (qY E (yL 1 az E E E) ?_)))
  obtain⟨w,h⟩:=gOs h
  refine qY E (aq cY w.1 w.2 E E) ?_
  refine qY E (yL 8 (v:=vI (aH f.x0 f.x1 f.x2 p1)) az E E (by rcases in3 w with e|e|e <;> rw[e] <;> rfl)) ?_
  refine qY E (kP E E) ?_
  refine qY E (aw [vI (min r.1 (aH f.x0 f.x1 f.x2 p1)),vI (max r.2 (aH f.x0 f.x1 f.x2 p1))] [(0,1),(1,1)] eh dz (by kernel_rfl)) ?_
  refine bt (cg E (yS 3 [vI (min r.1 (aH f.x0 f.x1 f.x2 p1)),vI (max r.2 (aH f.x0 f.x1 f.x2 p1))] eK E (nB E) E E E) (oN (ay (bM 8 ?_))))
  obtain rfl:=sI h
  exact je [ac I 28 [vI p0.fBarrows,vI p0.fSeen.x0,vI p0.fSeen.x1,vI p0.fSeen.x2,vI p0.fKnown.x0.fLo,vI p0.fKnown.x0.fHi,vI p0.fKnown.x1.fLo,vI p0.fKnown.x1.fHi,vI p0.fKnown.x2.fLo,vI p0.fKnown.x2.fHi],ac K 3 [vI p1],ac M 25 [vI 0,vI 0],ac N 25 [vI (min r.1 (aH f.x0 f.x1 f.x2 p1)),vI (max r.2 (aH f.x0 f.x1 f.x2 p1))],ac D 28 [vI g.fBarrows,vI g.fSeen.x0,vI g.fSeen.x1,vI g.fSeen.x2,vI g.fKnown.x0.fLo,vI g.fKnown.x0.fHi,vI g.fKnown.x1.fLo,vI g.fKnown.x1.fHi,vI g.fKnown.x2.fLo,vI g.fKnown.x2.fHi],ac F 94 [.func (.func 62) #[] #[.pointer (some ⟨D,0,none⟩)]]] E
 ·rintro D9 u L hst rfl
  subst hst
  dsimp only at h
  refine ay (eT (cS (cR ?_)))
  try dsimp only[lna,lca,lsz,lss]
  refine oY E (yN 3 [vI u.1,vI u.2] bL E E E) (cg E (yS 2 [vI u.1,vI u.2] eK E (nB E) E E E) (oN (eT (ag (k5 6 E (.inl E) ?_)))))
  obtain rfl:=sI h
  exact am (.inl E) E (av 2 [vI u.1,vI u.2] bL E E E) (fun W2 o=>⟨E,o.none⟩)
 ·intro D9 t e L _ hh
  exact hh.elim
theorem cA (p0:(List TSpan)) (p1:TSpan→Option Int) (res:Int) (h:bu p0 p1=some res) (W:World) (Aa:Option Addr) (f ca:Nat) (u:f=p0.length) (g:Rd W Aa f ca (aL bj p0)) (fid1:Nat) (fst1 caps1:List Value) (D:cx Try.prog fid1=true) (F:∀W2,Below W.heap.size W W2→∀x,∀y,p1 x=some y→Calls Try.prog fid1 (fst1++(([.agg #[vI x.fLo,vI x.fHi]]:List Value)++caps1)).toArray W2 fun e W3=>e=.returned (vI y)∧Ext W2 W3 []) :
  Calls Try.prog 55 [.slice Aa f ca,.func (.func fid1) fst1.toArray caps1.toArray].toArray W fun e W2=>e=.returned (vI res)∧Ext W W2 []:=by
 subst u
 unfold bu at h
 refine ad (m:=21) Try.func55 E E (nB E) (cS (cR (oY E (yAI E) (oN (eT (cS (cR (oY E (yAI E) (oN (eT (cS (cS (cR (oY E (yMS E) (oY E (bZ (us:=[]) jL E) (oY E (yMI E) (oN (eT (cB ?_)))))))))))))))))))
 obtain⟨N,I,h⟩:=bOs h
 refine a8 (fun(s:(Int × Int)) L tm=>∃(K:Nat→Value),L=[]∧tm=(upd (upd (upd (upd (upd (upd K 1 (.func (.func fid1) fst1.toArray caps1.toArray)) 4 (vI 0)) 5 (vI s.1)) 8 (.slice Aa p0.length ca)) 9 (vI (p0.length:Int))) 10 (vI s.2))) 0 I ⟨_,E,(kp4 (kp (kp E)))⟩ ?_ ?_
 ·rintro o L tm st ⟨G,rfl,rfl⟩ h
  unfold cy at h
  refine cS (cR (oY E (cX E E) (oN (eT (cS ?_)))))
  rcases iOs h with⟨d,h⟩|⟨d,h⟩
  ·refine cT (vB d) (cK (eT (cS (cB (cS (cR ?_))))))
   obtain⟨r,h⟩:=gOs h
   refine oY E (yI lF (by decide) r.1 r.2 (RdL.arg g) (eL aO E) E E) ?_
   refine oY E (yM (A:=Aa) (j:=(Int.toNat o.2*2)) [vI ((rdL p0 o.2).fLo),vI ((rdL p0 o.2).fHi)] bL (Nat.succ_pos _) (RdL.arg g) E (bx aO r.1 (bC r.2 E))) ?_
   refine aG dz E (fun Q=>?_)
   refine cg E (yS 0 [vI ((rdL p0 o.2).fLo),vI ((rdL p0 o.2).fHi)] eK E (nB E) E E E) (oN (eT (cR (oY E (yMI E) (oY E (dN (v:=.func (.func fid1) fst1.toArray caps1.toArray) E) (oY E (yN 0 [vI ((rdL p0 o.2).fLo),vI ((rdL p0 o.2).fHi)] bL E E E) ?_))))))
   obtain⟨O,M,h⟩:=bOs h
   refine oY E (kl [.agg #[vI ((rdL p0 o.2).fLo),vI ((rdL p0 o.2).fHi)]] D E E (fun W2 w=>F W2 w.below (TSpan.mk ((rdL p0 o.2).fLo) ((rdL p0 o.2).fHi)) O M)) (oY E (bf E E) (oY E (yAI E) (oN (ay (eT (cR (oY E (bf E E) (oY E (yMI E) (oN (bM 0 ?_))))))))))
   obtain rfl:=sI h
   exact eN ⟨_,E,(kp4 (kp (kp E)))⟩
  ·refine cF (vB d) (aR (al ?_))
   obtain rfl:=sI h
   exact aD ⟨E,_,E,(kp4 (kp (kp E)))⟩
 ·intro e L tm hJ
  obtain⟨rfl,H,rfl,rfl⟩:=hJ
  refine⟨(by intro hc;cases hc),?_⟩
  refine ak (eT (cS (cR (oY E (yMI E) (oY E (yAI E) (oN (eT (ag ?_))))))))
  obtain rfl:=sI h
  exact am (.inl E) E (rVt (v:=vI N.1) E) (fun W2 w=>⟨E,w.none⟩)
theorem gc (p0:TSpan) (res:Int) (h:cP p0=some res) (W:World)  :
  Calls Try.prog 56 [.agg #[vI p0.fLo,vI p0.fHi]].toArray W fun e W2=>e=.returned (vI res)∧Ext W W2 []:=by
 unfold cP at h
 refine ad (m:=5) Try.func56 E E (nB E) (cS (cR ?_))
 refine aV [vI p0.fLo,vI p0.fHi] E E E (fun g=>?_)
 refine oY E (yAI E) (oN (eT (cS (cR (oY E (yFA dc E) (oY E (yL 0 az E E E) (oY E (yAI E) (oN (eT (ag ?_))))))))))
 obtain rfl:=sI h
 exact am (.inl E) E (rVt (v:=vI p0.fLo) E) (fun W2 f=>⟨E,f.none⟩)
end Go.Proofs.Ytcleeakjghgbdaa
set_option maxHeartbeats 4000000
set_option maxRecDepth 100000
namespace Go.Proofs.Ytcleeakjghgbdaa
open Go.RowKit (Below)
attribute [local irreducible] OX QX CX EX OpY Calls CallsIn
theorem ge (p0:TSpan) (res:Int) (h:cM p0=some res) (W:World)  :
  Calls Try.prog 57 [.agg #[vI p0.fLo,vI p0.fHi]].toArray W fun e W2=>e=.returned (vI res)∧Ext W W2 []:=by
 unfold cM at h
 refine ad (m:=5) Try.func57 E E (nB E) (cS (cR ?_))
 refine aV [vI p0.fLo,vI p0.fHi] E E E (fun g=>?_)
 refine oY E (yAI E) (oN (eT (cS (cR (oY E (yFA cz E) (oY E (yL 0 az E E E) (oY E (yAI E) (oN (eT (ag ?_))))))))))
 obtain rfl:=sI h
 exact am (.inl E) E (rVt (v:=vI p0.fHi) E) (fun W2 f=>⟨E,f.none⟩)
theorem gC (p0:(List TBatch)) (p1:Int) (p2:TSpan) (res:((List TSpan) × Int)) (h:dY p0 p1 p2=some res) (W:World) (Aa:Option Addr) (U ca:Nat) (i:U=p0.length) (M:Rd W Aa U ca (aL aE p0)) :
  Calls Try.prog 25 [.slice Aa U ca,vI p1,.agg #[vI p2.fLo,vI p2.fHi]].toArray W fun e W2=>∃x:Option Addr × Nat × Nat,x.2.1=res.1.length∧e=.returned (.tuple #[.slice x.1 x.2.1 x.2.2,vI res.2])∧Ext W W2 [bR x.1 x.2.2 25 2 x.2.1 (aL bj res.1)]:=by
 subst i
 unfold dY at h
 refine ad (m:=112) Try.func25 E E (nB E) (cS (cR ?_))
 refine aV [vI p2.fLo,vI p2.fHi] E E E (fun t=>?_)
 refine oY E (yAS E) (oY E (yAI E) (oN (eT (cS (cS (cR (oY E (yMS E) (oY E (bZ (us:=[]) d9 E) (oY E (eZ E E) (oN (eT ?_)))))))))))
 rcases iOs h with⟨k,h⟩|⟨k,h⟩
 ·refine cT (vB k) (cS (cR (oY E (yAS E) (oY E (yAI E) (oN (eT (ag (aa ?_))))))))
  obtain rfl:=sI h
  exact aW (.inl E) E (rVt (v:=.slice none 0 0) E) (rVt (v:=vI 2) E) (fun W2 F=>⟨(none,0,0),E,E,((F.nilrow 25 2).pick 1 E)⟩)
 ·refine cF (vB k) (cK (eT (cS (cS (cR (oY E (yMS E) (oY E (bZ (us:=[]) d9 E) (oY E (yMI E) (oN (eT (cB ?_)))))))))))
  obtain⟨u5,f0,h⟩:=bOs h
  refine gJ 25 2 ?_
  refine fu (fun(s:(Int × Int)) L tm=>∃(K:Nat→Value),L=[ac t 25 [vI p2.fLo,vI p2.fHi],bR none 0 25 2 0 (aL bj ([]:List TSpan))]∧tm=(upd (upd (upd (upd (upd (upd (upd (upd K 0 (.slice Aa p0.length ca)) 1 (vI p1)) 5 (.pointer (some ⟨t,0,none⟩))) 6 (.slice none 0 0)) 7 (vI s.1)) 21 (.slice Aa p0.length ca)) 22 (vI (p0.length:Int))) 23 (vI s.2))) 0 f0 ⟨_,E,(kp4 (kp4 E))⟩ ?_ ?_
  ·rintro u L tm st ⟨o6,rfl,rfl⟩ h
   unfold eg at h
   refine cS (cR (oY E (cX E E) (oN (eT (cS ?_)))))
   rcases iOs h with⟨b,h⟩|⟨b,h⟩
   ·refine cT (vB b) (cK (eT (cS (cB (cS (cR ?_))))))
    obtain⟨q,h⟩:=gOs h
    refine oY E (yI iN (by decide) q.1 q.2 (RdL.arg M) (eL ao E) E E) ?_
    refine oY E (yM (A:=Aa) (j:=(Int.toNat u.2*10)) [vI ((rdL p0 u.2).fBarrows),vI ((rdL p0 u.2).fSeen.x0),vI ((rdL p0 u.2).fSeen.x1),vI ((rdL p0 u.2).fSeen.x2),vI ((rdL p0 u.2).fKnown.x0.fLo),vI ((rdL p0 u.2).fKnown.x0.fHi),vI ((rdL p0 u.2).fKnown.x1.fLo),vI ((rdL p0 u.2).fKnown.x1.fHi),vI ((rdL p0 u.2).fKnown.x2.fLo),vI ((rdL p0 u.2).fKnown.x2.fHi)] a6 (Nat.succ_pos _) (RdL.arg M) E (bx ao q.1 (bC q.2 E))) ?_
    refine aG eV E (fun b8=>?_)
    refine cg E (yS 2 [vI ((rdL p0 u.2).fBarrows),vI ((rdL p0 u.2).fSeen.x0),vI ((rdL p0 u.2).fSeen.x1),vI ((rdL p0 u.2).fSeen.x2),vI ((rdL p0 u.2).fKnown.x0.fLo),vI ((rdL p0 u.2).fKnown.x0.fHi),vI ((rdL p0 u.2).fKnown.x1.fLo),vI ((rdL p0 u.2).fKnown.x1.fHi),vI ((rdL p0 u.2).fKnown.x2.fLo),vI ((rdL p0 u.2).fKnown.x2.fHi)] gV E (nB E) E E E) (oN (eT (cS (cR (oY E (yN 2 [vI ((rdL p0 u.2).fBarrows),vI ((rdL p0 u.2).fSeen.x0),vI ((rdL p0 u.2).fSeen.x1),vI ((rdL p0 u.2).fSeen.x2),vI ((rdL p0 u.2).fKnown.x0.fLo),vI ((rdL p0 u.2).fKnown.x0.fHi),vI ((rdL p0 u.2).fKnown.x1.fLo),vI ((rdL p0 u.2).fKnown.x1.fHi),vI ((rdL p0 u.2).fKnown.x2.fLo),vI ((rdL p0 u.2).fKnown.x2.fHi)] a6 E E E) ?_)))))
    obtain⟨y9,f1,h⟩:=bOs h
    refine oY E (yC [.agg #[vI ((rdL p0 u.2).fBarrows),vI ((rdL p0 u.2).fSeen.x0),vI ((rdL p0 u.2).fSeen.x1),vI ((rdL p0 u.2).fSeen.x2),vI ((rdL p0 u.2).fKnown.x0.fLo),vI ((rdL p0 u.2).fKnown.x0.fHi),vI ((rdL p0 u.2).fKnown.x1.fLo),vI ((rdL p0 u.2).fKnown.x1.fHi),vI ((rdL p0 u.2).fKnown.x2.fLo),vI ((rdL p0 u.2).fKnown.x2.fHi)]] kE E (fun W2 F=>cd (TBatch.mk ((rdL p0 u.2).fBarrows) (TKinds.mk ((rdL p0 u.2).fSeen.x0) ((rdL p0 u.2).fSeen.x1) ((rdL p0 u.2).fSeen.x2)) (TArr3_TSpan.mk (TSpan.mk ((rdL p0 u.2).fKnown.x0.fLo) ((rdL p0 u.2).fKnown.x0.fHi)) (TSpan.mk ((rdL p0 u.2).fKnown.x1.fLo) ((rdL p0 u.2).fKnown.x1.fHi)) (TSpan.mk ((rdL p0 u.2).fKnown.x2.fLo) ((rdL p0 u.2).fKnown.x2.fHi)))) y9 f1 W2 ) E) (oY E (yAI E) (oN (eT (cS (cR (oY E (yMI E) (oY E (bO E E) (oN (eT ?_)))))))))
    rcases iOs h with⟨X,h⟩|⟨X,h⟩
    ·refine cT (vB X) (cS (cR (oY E (yMI E) (oY E (yAS E) (oY E (yAI E) (oN (eT (ag (aA (aa (bM 2 ?_)))))))))))
     obtain rfl:=sI h
     exact aD ⟨E,_,E,(kp4 (kp4 E))⟩
    ·refine cF (vB X) (cK (ay (eT (cR (oY E (bf E E) (oY E (yMI E) (oN (bM 2 ?_))))))))
     obtain rfl:=sI h
     exact eN ⟨_,E,(kp4 (kp4 E))⟩
   ·refine cF (vB b) (aR (al ?_))
    obtain rfl:=sI h
    exact aD ⟨E,_,E,(kp4 (kp4 E))⟩
  ·intro e L tm hJ
   rcases u5 with o9|p
   ·dsimp only at h hJ
    obtain⟨rfl,f2,rfl,rfl⟩:=hJ
    refine⟨(by intro hc;cases hc),?_⟩
    refine aA (aa ?_)
    obtain rfl:=sI h
    exact aW (.inl E) E (rVt (v:=.slice none 0 0) E) (rVt (v:=vI o9.1) E) (fun W2 F=>⟨(none,0,0),E,E,(F.pick 1 E)⟩)
   ·dsimp only at h hJ
    obtain⟨rfl,f3,rfl,rfl⟩:=hJ
    refine⟨(by intro hc;cases hc),?_⟩
    refine ak (eT (cS (cS (cR (oY E (yMI E) ?_)))))
    obtain⟨c,fr,h⟩:=bOs h
    refine oY E (yC [vI p1] go_53 E (fun W2 F=>fA p1 c fr W2 ) E) (oY E (dL E) (oY E (yMB E) ?_))
    refine oJ 6 (fun K=>(upd (upd (upd (upd (upd (upd K 0 (.slice Aa p0.length ca)) 1 (vI p1)) 5 (.pointer (some ⟨t,0,none⟩))) 6 (.slice none 0 0)) 7 (vI p.1)) 42 (.bool ((!c)||(decide (p2.fHi<p2.fLo)))))) (fun K=>?_) (fun key=>?_)
    ·refine oN (eT ?_)
     rcases iOs h with⟨Y,h⟩|⟨Y,h⟩
     ·refine cT (vB Y) (cS (cR (oY E (yAS E) (oY E (yAI E) (oN (eT (ag (aa ?_))))))))
      obtain rfl:=sI h
      exact aW (.inl E) E (rVt (v:=.slice none 0 0) E) (rVt (v:=vI 1) E) (fun W2 F=>⟨(none,0,0),E,E,((F.nilrow 25 2).pick 2 E)⟩)
     ·refine cF (vB Y) (cK (eT (cS (cR (oY E (yAS E) (oN (eT (cS (cS (cR (oY E (yMS E) (oY E (bZ (us:=[]) d9 E) (oY E (yMI E) (oN (eT (cB ?_))))))))))))))))
      obtain⟨G,fd,h⟩:=bOs h
      refine gJ 25 2 ?_
      refine a8 (fun(s:(Int × (List TSpan))) L tm=>∃(K:Nat→Value) (a:Option Addr) (z:Nat) (Z:Nat),Z=s.2.length∧L=[ac t 25 [vI p2.fLo,vI p2.fHi],bR none 0 25 2 0 (aL bj ([]:List TSpan)),bR a z 25 2 Z (aL bj s.2)]∧tm=(upd (upd (upd (upd (upd (upd (upd (upd K 1 (vI p1)) 5 (.pointer (some ⟨t,0,none⟩))) 6 (.slice none 0 0)) 7 (vI p.1)) 11 (.slice a Z z)) 43 (.slice Aa p0.length ca)) 44 (vI (p0.length:Int))) 45 (vI s.1))) 2 fd ⟨_,none,0,0,E,E,(kp4 (kp4 E))⟩ ?_ ?_
      ·rintro f L tm st ⟨fE,n,l,o7,rfl,rfl,rfl⟩ h
       unfold ex at h
       refine cS (cR (oY E (cX E E) (oN (eT (cS ?_)))))
       rcases iOs h with⟨V,h⟩|⟨V,h⟩
       ·refine cT (vB V) (cK (eT (cS (cB (cS (cR ?_))))))
        obtain⟨N,h⟩:=gOs h
        refine oY E (yI iN (by decide) N.1 N.2 (RdL.arg M) (eL ao E) E E) ?_
        refine oY E (yM (A:=Aa) (j:=(Int.toNat f.1*10)) [vI ((rdL p0 f.1).fBarrows),vI ((rdL p0 f.1).fSeen.x0),vI ((rdL p0 f.1).fSeen.x1),vI ((rdL p0 f.1).fSeen.x2),vI ((rdL p0 f.1).fKnown.x0.fLo),vI ((rdL p0 f.1).fKnown.x0.fHi),vI ((rdL p0 f.1).fKnown.x1.fLo),vI ((rdL p0 f.1).fKnown.x1.fHi),vI ((rdL p0 f.1).fKnown.x2.fLo),vI ((rdL p0 f.1).fKnown.x2.fHi)] a6 (Nat.succ_pos _) (RdL.arg M) E (bx ao N.1 (bC N.2 E))) ?_
        refine aG eV E (fun oE=>?_)
        refine cg E (yS 3 [vI ((rdL p0 f.1).fBarrows),vI ((rdL p0 f.1).fSeen.x0),vI ((rdL p0 f.1).fSeen.x1),vI ((rdL p0 f.1).fSeen.x2),vI ((rdL p0 f.1).fKnown.x0.fLo),vI ((rdL p0 f.1).fKnown.x0.fHi),vI ((rdL p0 f.1).fKnown.x1.fLo),vI ((rdL p0 f.1).fKnown.x1.fHi),vI ((rdL p0 f.1).fKnown.x2.fLo),vI ((rdL p0 f.1).fKnown.x2.fHi)] gV E (nB E) E E E) (oN (eT (cR (oY E (yMS E) (oY E (yN 3 [vI ((rdL p0 f.1).fBarrows),vI ((rdL p0 f.1).fSeen.x0),vI ((rdL p0 f.1).fSeen.x1),vI ((rdL p0 f.1).fSeen.x2),vI ((rdL p0 f.1).fKnown.x0.fLo),vI ((rdL p0 f.1).fKnown.x0.fHi),vI ((rdL p0 f.1).fKnown.x1.fLo),vI ((rdL p0 f.1).fKnown.x1.fHi),vI ((rdL p0 f.1).fKnown.x2.fLo),vI ((rdL p0 f.1).fKnown.x2.fHi)] a6 E E E) (oY E (yMI E) ?_))))))
        obtain⟨fn,fl,h⟩:=bOs h
        refine oY E (yC [.agg #[vI ((rdL p0 f.1).fBarrows),vI ((rdL p0 f.1).fSeen.x0),vI ((rdL p0 f.1).fSeen.x1),vI ((rdL p0 f.1).fSeen.x2),vI ((rdL p0 f.1).fKnown.x0.fLo),vI ((rdL p0 f.1).fKnown.x0.fHi),vI ((rdL p0 f.1).fKnown.x1.fLo),vI ((rdL p0 f.1).fKnown.x1.fHi),vI ((rdL p0 f.1).fKnown.x2.fLo),vI ((rdL p0 f.1).fKnown.x2.fHi)],vI p1] go_54 E (fun W2 F=>iY (TBatch.mk ((rdL p0 f.1).fBarrows) (TKinds.mk ((rdL p0 f.1).fSeen.x0) ((rdL p0 f.1).fSeen.x1) ((rdL p0 f.1).fSeen.x2)) (TArr3_TSpan.mk (TSpan.mk ((rdL p0 f.1).fKnown.x0.fLo) ((rdL p0 f.1).fKnown.x0.fHi)) (TSpan.mk ((rdL p0 f.1).fKnown.x1.fLo) ((rdL p0 f.1).fKnown.x1.fHi)) (TSpan.mk ((rdL p0 f.1).fKnown.x2.fLo) ((rdL p0 f.1).fKnown.x2.fHi)))) p1 fn fl W2 ) E) ?_
        refine aY 1 (aL bj [fn]) _ mc_25_1 jL dz by_25 (by decide) (by decide) (by kernel_rfl) (eL aO E) E (fun oF=>?_)
        obtain⟨gf,h⟩:=gOs h
        refine dt 2 jL dz by_25 E E E (RdL.row 4 E) (eL aO E) (fm iv _) (ff gf (by decide)) E (fun og oo=>?_)
        refine oY E (yAS E) (oN (ay (eT (cR (oY E (bf E E) (oY E (yMI E) (oN (bM 3 ?_))))))))
        obtain rfl:=sI h
        exact eN ⟨_,og,oo,(f.2.length+1),(gB E E),E,(kp4 (kp4 E))⟩
       ·refine cF (vB V) (aR (al ?_))
        obtain rfl:=sI h
        exact aD ⟨E,_,n,l,f.2.length,E,E,(kp4 (kp4 E))⟩
      ·intro e L tm hJ
       obtain⟨rfl,o0,o,r,o8,rfl,rfl,rfl⟩:=hJ
       refine⟨(by intro hc;cases hc),?_⟩
       refine ak (eT (cS (cR (oY E (yMS E) ?_))))
       obtain⟨H,o1,h⟩:=bOs h
       refine oY E (yC [.slice o G.2.length r,.func (.func 56) #[] #[]] go_55 E (fun W2 F=>cA G.2 (fun ou=>cP ou) H o1 W2 o G.2.length r E ((RdL.row 2 E) W2 F) 56 [] [] go_56 (fun W3 hb x y hxy=>gc  x  y hxy W3 )) E) (oY E (yAI E) (oN (eT (cS (cR (oY E (yMS E) ?_))))))
       obtain⟨I,o2,h⟩:=bOs h
       refine oY E (yC [.slice o G.2.length r,.func (.func 57) #[] #[]] go_55 E (fun W2 F=>cA G.2 (fun od=>cM od) I o2 W2 o G.2.length r E ((RdL.row 2 E) W2 F) 57 [] [] go_57 (fun W3 hb x y hxy=>ge  x  y hxy W3 )) E) (oY E (yAI E) (oN (eT (cS (cS (cR (oY E (yFA cz E) (oY E (yL 0 az E E E) (oY E (yMI E) (oY E (cX E E) (oY E (yMB E) ?_)))))))))))
       refine oJ 5 (fun K=>(upd (upd (upd (upd (upd (upd (upd K 5 (.pointer (some ⟨t,0,none⟩))) 6 (.slice none 0 0)) 7 (vI p.1)) 11 (.slice o G.2.length r)) 14 (vI H)) 15 (vI I)) 69 (.bool ((decide (p2.fHi<H))||(decide (I<p2.fLo)))))) (fun K=>?_) (fun key=>?_)
       ·refine oN (eT ?_)
        rcases iOs h with⟨T,h⟩|⟨T,h⟩
        ·refine cT (vB T) (cS (cR (oY E (yAS E) (oY E (yAI E) (oN (eT (ag (aa ?_))))))))
         obtain rfl:=sI h
         exact aW (.inl E) E (rVt (v:=.slice none 0 0) E) (rVt (v:=vI 9) E) (fun W2 F=>⟨(none,0,0),E,E,((F.nilrow 25 2).pick 3 E)⟩)
        ·refine cF (vB T) (cK (eT (cS (cR (oY E (yFA dc E) (oY E (yL 0 az E E E) (oY E (yMI E) (oY E (kP E E) (oY E (yFA cz E) (oY E (yL 0 az E E E) (oY E (yMI E) (oY E (jX E E) ?_))))))))))))
         refine oY E (aw [vI (max p2.fLo H),vI (min p2.fHi I)] [(0,1),(1,1)] eh dz (by kernel_rfl)) ?_
         refine cg E (yS 0 [vI (max p2.fLo H),vI (min p2.fHi I)] eK E (nB E) E E E) (oN (eT (cS (cS (cR (oY E (yMS E) (oY E (bZ (us:=[]) jL E) (oY E (yMI E) (oN (eT (cB ?_)))))))))))
         obtain⟨oG,o3,h⟩:=bOs h
         refine a8 (fun(s:(Int × (List TSpan))) L tm=>∃(K:Nat→Value),G.2.length=s.2.length∧L=[ac t 25 [vI (max p2.fLo H),vI (min p2.fHi I)],bR none 0 25 2 0 (aL bj ([]:List TSpan)),bR o r 25 2 G.2.length (aL bj s.2)]∧tm=(upd (upd (upd (upd (upd (upd (upd (upd (upd K 5 (.pointer (some ⟨t,0,none⟩))) 6 (.slice none 0 0)) 7 (vI p.1)) 11 (.slice o G.2.length r)) 14 (vI H)) 15 (vI I)) 79 (.slice o G.2.length r)) 80 (vI (G.2.length:Int))) 81 (vI s.1))) 4 o3 ⟨_,E,E,(kp4 (kp4 (kp E)))⟩ ?_ ?_
         ·rintro g L tm st ⟨o4,w,rfl,rfl⟩ h
          unfold em at h
          refine cS (cR (oY E (cX E E) (oN (eT (cS ?_)))))
          rcases iOs h with⟨S,h⟩|⟨S,h⟩
          ·refine cT (vB S) (cK (eT (cS (cB (cS (cR (oY E (yMI E) ?_)))))))
           obtain⟨O,h⟩:=gOs h
           refine oY E (yI lF (by decide) O.1 O.2 (RdL.row 2 E) (eL aO w) E E) ?_
           refine oY E (yM (A:=o) (j:=(Int.toNat g.1*2)) [vI ((rdL g.2 g.1).fLo),vI ((rdL g.2 g.1).fHi)] bL (Nat.succ_pos _) (RdL.row 2 E) E (bx aO O.1 (bC O.2 w))) ?_
           refine aG dz E (fun oH=>?_)
           refine oY E (yAI E) (cg E (yS 3 [vI ((rdL g.2 g.1).fLo),vI ((rdL g.2 g.1).fHi)] eK E (nB E) E E E) (oN (eT (cR (oY E (yMS E) (oY E (yMI E) (oY E (yFA dc E) (oY E (yL 3 az E E E) (oY E (yFA dc E) (oY E (yL 0 az E E E) (oY E (yMI E) (oY E (yFA cz E) (oY E (yL 3 az E E E) (oY E (cG E E) (oY E (cG E E) (oY E (kP E E) (oY E (yFA cz E) (oY E (yL 3 az E E E) (oY E (yFA cz E) (oY E (yL 0 az E E E) (oY E (yMI E) (oY E (yFA dc E) (oY E (yL 3 az E E E) (oY E (cG E E) (oY E (cG E E) (oY E (jX E E) ?_))))))))))))))))))))))))))
           refine oY E (aw [vI (max ((rdL g.2 g.1).fLo) (w64 ((max p2.fLo H)-(w64 (I-((rdL g.2 g.1).fHi)))))),vI (min ((rdL g.2 g.1).fHi) (w64 ((min p2.fHi I)-(w64 (H-((rdL g.2 g.1).fLo))))))] [(0,1),(1,1)] eh dz (by kernel_rfl)) ?_
           obtain⟨Q,h⟩:=gOs h
           refine oY E (yI lF (by decide) Q.1 Q.2 (RdL.row 2 E) (eL aO w) E E) ?_
           refine cg E (lp 2 (xs:=g.2) [vI (max ((rdL g.2 g.1).fLo) (w64 ((max p2.fLo H)-(w64 (I-((rdL g.2 g.1).fHi)))))),vI (min ((rdL g.2 g.1).fHi) (w64 ((min p2.fHi I)-(w64 (H-((rdL g.2 g.1).fLo))))))] aO (Nat.succ_pos _) (TSpan.mk (max ((rdL g.2 g.1).fLo) (w64 ((max p2.fLo H)-(w64 (I-((rdL g.2 g.1).fHi)))))) (min ((rdL g.2 g.1).fHi) (w64 ((min p2.fHi I)-(w64 (H-((rdL g.2 g.1).fLo))))))) eK E Q.1 (bC Q.2 w) E E E E) (oN (ay (eT (cR (oY E (bf E E) (oY E (yMI E) (oN (bM 3 ?_))))))))
           obtain rfl:=sI h
           exact eN ⟨_,(hn_set w),E,(kp4 (kp4 (kp E)))⟩
          ·refine cF (vB S) (aR (al ?_))
           obtain rfl:=sI h
           exact aD ⟨E,_,w,E,(kp4 (kp4 (kp E)))⟩
         ·intro e L tm hJ
          obtain⟨rfl,o5,R,rfl,rfl⟩:=hJ
          refine⟨(by intro hc;cases hc),?_⟩
          refine ak (eT (cS (cR (oY E (yMS E) (oY E (yAS E) (oY E (yAI E) (oN (eT (ag ?_)))))))))
          obtain rfl:=sI h
          exact aW (.inl E) E (rVt (v:=.slice o G.2.length r) E) (rVt (v:=vI 0) E) (fun W2 F=>⟨(o,G.2.length,r),R,E,(F.pick 2 E)⟩)
       ·rcases ar (decide (p2.fHi<H))with D|D
        ·refine oSk (sF E E E E D) (oSk (sF E E E E D) (oSk (sF E E E E D) (oSk (sF E E E E D) (oY E (ai (vB D) E) ?_))))
         exact key _ _ (keep (keep (keep (keep (keep (keep (keep E E) E) E) E) E) E) (vB (jG D)))
        ·refine oY (sT E E E E D) (yFA dc E) (oY (sT E E E E D) (yL 0 az E E E) (oY (sT E E E E D) (yMI E) (oY (sT E E E E D) (eZ E E) (oY E (aj (vB D) E) ?_))))
         exact key _ _ (keep (keep (keep (keep (keep (keep (keep E E) E) E) E) E) E) (vB (jH D)))
    ·rcases ar (!c)with d|d
     ·refine oSk (sF E E E E d) (oSk (sF E E E E d) (oSk (sF E E E E d) (oSk (sF E E E E d) (oSk (sF E E E E d) (oY E (ai (vB d) E) ?_)))))
      exact key _ _ (keep (keep (keep (keep (keep (keep E E) E) E) E) E) (vB (jG d)))
     ·refine oY (sT E E E E d) (yFA dc E) (oY (sT E E E E d) (yL 0 az E E E) (oY (sT E E E E d) (yFA cz E) (oY (sT E E E E d) (yL 0 az E E E) (oY (sT E E E E d) (eZ E E) (oY E (aj (vB d) E) ?_)))))
      exact key _ _ (keep (keep (keep (keep (keep (keep E E) E) E) E) E) (vB (jH d)))
theorem gO (p0:(List TSpan)) (p1:(List TSpan)) (res:Bool) (h:d3 p0 p1=some res) (W:World) (Aa:Option Addr) (f ca:Nat) (F:f=p0.length) (g:Rd W Aa f ca (aL bj p0)) (Ac:Option Addr) (o cc:Nat) (G:o=p1.length) (r:Rd W Ac o cc (aL bj p1)) :
  Calls Try.prog 26 [.slice Aa f ca,.slice Ac o cc].toArray W fun e W2=>e=.returned (.bool res)∧Ext W W2 []:=by
 subst F
 subst G
 unfold d3 at h
 refine ad (m:=26) Try.func26 E E (nB E) (cS (cR (oY E (yAB E) (oN (eT (cS (cS (cR (oY E (yMS E) (oY E (bZ (us:=[]) jL E) (oY E (yMS E) (oY E (bZ (us:=[]) jL E) (oY E (bO E E) (oN (eT ?_)))))))))))))))
 rcases iOs h with⟨H,h⟩|⟨H,h⟩
 ·refine cT (vB H) (cS (cR (oY E (yAB E) (oN (eT (ag (aa ?_)))))))
  obtain rfl:=sI h
  exact am (.inl E) E (rVt (v:=.bool false) E) (fun W2 u=>⟨E,u.none⟩)
 ·refine cF (vB H) (cK (eT (cS (cS (cR (oY E (yAI E) (oN (eT (cB ?_)))))))))
  obtain⟨Y,Q,h⟩:=bOs h
  refine fu (fun(s:(Bool × Int)) L tm=>∃(U:Nat→Value),L=[]∧tm=(upd (upd (upd (upd U 0 (.slice Aa p0.length ca)) 1 (.slice Ac p1.length cc)) 4 (.bool s.1)) 5 (vI s.2))) 0 Q ⟨_,E,(kp4 E)⟩ ?_ ?_
  ·rintro d L tm st ⟨O,rfl,rfl⟩ h
   unfold eo at h
   refine cS (cS (cR (oY E (yMI E) (oY E (yMS E) (oY E (bZ (us:=[]) jL E) (oY E (cX E E) (oN (eT ?_))))))))
   rcases iOs h with⟨I,h⟩|⟨I,h⟩
   ·refine cT (vB I) (cK (eT (cS (cB (cS ?_)))))
    refine aK 9 cm (by kernel_rfl) (by kernel_rfl) ?_
    refine qY E (yMS E) (qY E (yMI E) ?_)
    obtain⟨w,h⟩:=gOs h
    refine qY E (yI lF (by decide) w.1 w.2 (RdL.arg g) (eL aO E) E E) ?_
    refine qY E (yM (A:=Aa) (j:=(Int.toNat d.2*2)) [vI ((rdL p0 d.2).fLo),vI ((rdL p0 d.2).fHi)] bL (Nat.succ_pos _) (RdL.arg g) E (bx aO w.1 (bC w.2 E))) (qY E (yMS E) (qY E (yMI E) ?_))
    obtain⟨D,h⟩:=gOs h
    refine qY E (yI lF (by decide) D.1 D.2 (RdL.arg r) (eL aO E) E E) ?_
    refine qY E (yM (A:=Ac) (j:=(Int.toNat d.2*2)) [vI ((rdL p1 d.2).fLo),vI ((rdL p1 d.2).fHi)] bL (Nat.succ_pos _) (RdL.arg r) E (bx aO D.1 (bC D.2 E))) (qY E (iz (b:=(((rdL p0 d.2).fLo==(rdL p1 d.2).fLo)&&((rdL p0 d.2).fHi==(rdL p1 d.2).fHi))) eg_25 E E (fun _=>(iQ fJ (au az E) (au az E) (au az E) (au az E) (run_equalIn_int _ _ _ _ _ _ _ cQ) (run_equalIn_int _ _ _ _ _ _ _ cQ)))) (bt (oN (eT ?_))))
    rcases iOs h with⟨K,h⟩|⟨K,h⟩
    ·refine cT (vB K) (cS (cR (oY E (yAB E) (oN (eT (ag (aA (aa ?_))))))))
     obtain rfl:=sI h
     exact aD ⟨E,_,E,(kp4 E)⟩
    ·refine cF (vB K) (cK (ay (eT (cR (oY E (yMI E) (oY E (bf E E) (oY E (yAI E) (oN ?_))))))))
     obtain rfl:=sI h
     exact eN ⟨_,E,(kp4 E)⟩
   ·refine cF (vB I) (aR (al ?_))
    obtain rfl:=sI h
    exact aD ⟨E,_,E,(kp4 E)⟩
  ·intro e L tm hJ
   rcases Y with X|Z
   ·dsimp only at h hJ
    obtain⟨rfl,M,rfl,rfl⟩:=hJ
    refine⟨(by intro hc;cases hc),?_⟩
    refine aA (aa ?_)
    obtain rfl:=sI h
    exact am (.inl E) E (rVt (v:=.bool X.1) E) (fun W2 u=>⟨E,u.none⟩)
   ·dsimp only at h hJ
    obtain⟨rfl,N,rfl,rfl⟩:=hJ
    refine⟨(by intro hc;cases hc),?_⟩
    refine ak (eT (cS (cR (oY E (yAB E) (oN (eT (ag ?_)))))))
    obtain rfl:=sI h
    exact am (.inl E) E (rVt (v:=.bool true) E) (fun W2 u=>⟨E,u.none⟩)
theorem g4  (res:Bool) (h:dD=some res) (W:World)  :
  Calls Try.prog 4 [].toArray W fun e W2=>e=.returned (.bool res)∧Ext W W2 []:=by
 unfold dD at h
 refine ad (m:=188) Try.func4 E E (nB E) (cS (cR (oY E (yAB E) (oN (eT (cS (cR ?_)))))))
 obtain⟨f,oO,h⟩:=bOs h
 refine oY E (yC [] go_11 E (fun W2 G=>gR  f oO W2 ) E) ?_
 refine aG eV E (fun b3=>?_)
 refine cg E (yS 0 [vI f.fBarrows,vI f.fSeen.x0,vI f.fSeen.x1,vI f.fSeen.x2,vI f.fKnown.x0.fLo,vI f.fKnown.x0.fHi,vI f.fKnown.x1.fLo,vI f.fKnown.x1.fHi,vI f.fKnown.x2.fLo,vI f.fKnown.x2.fHi] gV E (nB E) E E E) (oN (eT (cS (cR ?_))))
 obtain⟨x,oQ,h⟩:=bOs h
 refine oY E (yC [vI 5,vI 2] go_12 E (fun W2 G=>ib 5 2 x oQ W2 ) E) (oY E (a5 E) (oY E (yE E E) (oY E (yE E E) (oY E (yAI E) (oY E (yAI E) (oN (eT (cS (cR ?_)))))))))
 refine oY E (dS [vI 2,vI 3,vI 1] fF eP iR (by kernel_rfl)) ?_
 refine oY E (dS [vI 1,vI 1,vI 0] fF eP iR (by kernel_rfl)) ?_
 obtain⟨D,oU,h⟩:=bOs h
 refine oY E (yC [.agg #[vI 2,vI 3,vI 1],.agg #[vI 1,vI 1,vI 0]] go_13 E (fun W2 G=>hQ (TKinds.mk 2 3 1) (TKinds.mk 1 1 0) D oU W2 ) E) (oY E (a5 E) (oY E (yE E E) (oY E (yE E E) ?_)))
 refine aG ee E (fun b8=>?_)
 refine cg E (yS 1 [vI D.1.fNum,vI D.1.fDen] g0 E (nB E) E E E) (oY E (yAI E) (oN (eT (cS (cR (oY E (yN 0 [vI f.fBarrows,vI f.fSeen.x0,vI f.fSeen.x1,vI f.fSeen.x2,vI f.fKnown.x0.fLo,vI f.fKnown.x0.fHi,vI f.fKnown.x1.fLo,vI f.fKnown.x1.fHi,vI f.fKnown.x2.fLo,vI f.fKnown.x2.fHi] a6 E E E) ?_))))))
 obtain⟨i,o3,h⟩:=bOs h
 refine oC [.agg #[vI f.fBarrows,vI f.fSeen.x0,vI f.fSeen.x1,vI f.fSeen.x2,vI f.fKnown.x0.fLo,vI f.fKnown.x0.fHi,vI f.fKnown.x1.fLo,vI f.fKnown.x1.fHi,vI f.fKnown.x2.fLo,vI f.fKnown.x2.fHi]] _ _ _ E go_14 E (fun W2 G=>hY f i o3 W2 ) ?_
 rintro⟨f0,oX,f1⟩ fE
 replace fE:oX=i.1.length:=fE;subst fE
 refine oY E (a5 E) (oY E (yE E E) (oY E (yE E E) (oY E (yAS E) (oY E (yAI E) (oN (eT (cS (cR (oY E (yN 0 [vI f.fBarrows,vI f.fSeen.x0,vI f.fSeen.x1,vI f.fSeen.x2,vI f.fKnown.x0.fLo,vI f.fKnown.x0.fHi,vI f.fKnown.x1.fLo,vI f.fKnown.x1.fHi,vI f.fKnown.x2.fLo,vI f.fKnown.x2.fHi] a6 E E E) ?_)))))))))
 obtain⟨H,o4,h⟩:=bOs h
 refine oC [.agg #[vI f.fBarrows,vI f.fSeen.x0,vI f.fSeen.x1,vI f.fSeen.x2,vI f.fKnown.x0.fLo,vI f.fKnown.x0.fHi,vI f.fKnown.x1.fLo,vI f.fKnown.x1.fHi,vI f.fKnown.x2.fLo,vI f.fKnown.x2.fHi],vI 1] _ _ _ E go_15 E (fun W2 G=>g3 f 1 H o4 W2 ) ?_
 rintro⟨f2,oZ,f3⟩ fn
 replace fn:oZ=H.1.length:=fn;subst fn
 refine oY E (a5 E) (oY E (yE E E) (oY E (yE E E) (oY E (yAS E) (oY E (yAI E) (oN (eT (cS (cR (oY E (yN 0 [vI f.fBarrows,vI f.fSeen.x0,vI f.fSeen.x1,vI f.fSeen.x2,vI f.fKnown.x0.fLo,vI f.fKnown.x0.fHi,vI f.fKnown.x1.fLo,vI f.fKnown.x1.fHi,vI f.fKnown.x2.fLo,vI f.fKnown.x2.fHi] a6 E E E) ?_)))))))))
 obtain⟨g,o5,h⟩:=bOs h
 refine oY E (yC [.agg #[vI f.fBarrows,vI f.fSeen.x0,vI f.fSeen.x1,vI f.fSeen.x2,vI f.fKnown.x0.fLo,vI f.fKnown.x0.fHi,vI f.fKnown.x1.fLo,vI f.fKnown.x1.fHi,vI f.fKnown.x2.fLo,vI f.fKnown.x2.fHi],vI 1] go_16 E (fun W2 G=>iU f 1 g o5 W2 ) E) (oY E (a5 E) (oY E (yE E E) (oY E (yE E E) ?_)))
 refine aG ee E (fun fd=>?_)
 refine cg E (yS 4 [vI g.1.fNum,vI g.1.fDen] g0 E (nB E) E E E) (oY E (yAI E) (oN (eT (cS (cR (oY E (yN 0 [vI f.fBarrows,vI f.fSeen.x0,vI f.fSeen.x1,vI f.fSeen.x2,vI f.fKnown.x0.fLo,vI f.fKnown.x0.fHi,vI f.fKnown.x1.fLo,vI f.fKnown.x1.fHi,vI f.fKnown.x2.fLo,vI f.fKnown.x2.fHi] a6 E E E) ?_))))))
 obtain⟨r,o6,h⟩:=bOs h
 refine oY E (yC [.agg #[vI f.fBarrows,vI f.fSeen.x0,vI f.fSeen.x1,vI f.fSeen.x2,vI f.fKnown.x0.fLo,vI f.fKnown.x0.fHi,vI f.fKnown.x1.fLo,vI f.fKnown.x1.fHi,vI f.fKnown.x2.fLo,vI f.fKnown.x2.fHi],vI 2] go_17 E (fun W2 G=>iT f 2 r o6 W2 ) E) (oY E (a5 E) (oY E (yE E E) (oY E (yE E E) ?_)))
 refine aG ee E (fun fr=>?_)
 try dsimp only[lna,lca,lsz,lss]
 refine cg E (yS 5 [vI r.1.fNum,vI r.1.fDen] g0 E (nB E) E E E) (oY E (yAI E) (oN (eT (cS (cR (oY E (yN 0 [vI f.fBarrows,vI f.fSeen.x0,vI f.fSeen.x1,vI f.fSeen.x2,vI f.fKnown.x0.fLo,vI f.fKnown.x0.fHi,vI f.fKnown.x1.fLo,vI f.fKnown.x1.fHi,vI f.fKnown.x2.fLo,vI f.fKnown.x2.fHi] a6 E E E) ?_))))))
 refine oY E (aw [vI 9,vI 10] [(0,1),(1,1)] eu ee (by kernel_rfl)) ?_
 obtain⟨u,o7,h⟩:=bOs h
 refine oY E (yC [.agg #[vI f.fBarrows,vI f.fSeen.x0,vI f.fSeen.x1,vI f.fSeen.x2,vI f.fKnown.x0.fLo,vI f.fKnown.x0.fHi,vI f.fKnown.x1.fLo,vI f.fKnown.x1.fHi,vI f.fKnown.x2.fLo,vI f.fKnown.x2.fHi],vI 1,.agg #[vI 9,vI 10]] go_18 E (fun W2 G=>gQ f 1 (TRatio.mk 9 10) u o7 W2 ) E) (oY E (a5 E) (oY E (yE E E) (oY E (yE E E) ?_)))
 refine aG dz E (fun y=>?_)
 try dsimp only[lna,lca,lsz,lss]
 refine cg E (yS 6 [vI u.1.fLo,vI u.1.fHi] eK E (nB E) E E E) (oY E (yAI E) (oN (eT (cS (cS (cR (oY E (yMI E) (oY E (bO E E) (oY E (yMB E) ?_)))))))))
 refine oJ 3 (fun o=>(upd (upd (upd (upd (upd (upd (upd (upd (upd (upd (upd (upd (upd (upd (upd o 0 (.bool false)) 1 (.pointer (some ⟨b3,0,none⟩))) 2 (vI x.1)) 4 (.pointer (some ⟨b8,0,none⟩))) 6 (.slice f0 i.1.length f1)) 7 (vI i.2)) 8 (.slice f2 H.1.length f3)) 9 (vI H.2)) 10 (.pointer (some ⟨fd,0,none⟩))) 11 (vI g.2)) 12 (.pointer (some ⟨fr,0,none⟩))) 13 (vI r.2)) 14 (.pointer (some ⟨y,0,none⟩))) 15 (vI u.2)) 69 (.bool ((x.2 !=0)||(D.2 !=0))))) (fun o=>?_) (fun key=>?_)
 ·refine oY E (yMB E) ?_
  refine oJ 3 (fun o=>(upd (upd (upd (upd (upd (upd (upd (upd (upd (upd (upd (upd (upd (upd o 0 (.bool false)) 1 (.pointer (some ⟨b3,0,none⟩))) 2 (vI x.1)) 4 (.pointer (some ⟨b8,0,none⟩))) 6 (.slice f0 i.1.length f1)) 8 (.slice f2 H.1.length f3)) 9 (vI H.2)) 10 (.pointer (some ⟨fd,0,none⟩))) 11 (vI g.2)) 12 (.pointer (some ⟨fr,0,none⟩))) 13 (vI r.2)) 14 (.pointer (some ⟨y,0,none⟩))) 15 (vI u.2)) 73 (.bool (((x.2 !=0)||(D.2 !=0))||(i.2 !=0))))) (fun o=>?_) (fun key=>?_)
  ·refine oY E (yMB E) ?_
   refine oJ 3 (fun o=>(upd (upd (upd (upd (upd (upd (upd (upd (upd (upd (upd (upd (upd o 0 (.bool false)) 1 (.pointer (some ⟨b3,0,none⟩))) 2 (vI x.1)) 4 (.pointer (some ⟨b8,0,none⟩))) 6 (.slice f0 i.1.length f1)) 8 (.slice f2 H.1.length f3)) 10 (.pointer (some ⟨fd,0,none⟩))) 11 (vI g.2)) 12 (.pointer (some ⟨fr,0,none⟩))) 13 (vI r.2)) 14 (.pointer (some ⟨y,0,none⟩))) 15 (vI u.2)) 77 (.bool ((((x.2 !=0)||(D.2 !=0))||(i.2 !=0))||(H.2 !=0))))) (fun o=>?_) (fun key=>?_)
   ·refine oY E (yMB E) ?_
    refine oJ 3 (fun o=>(upd (upd (upd (upd (upd (upd (upd (upd (upd (upd (upd (upd o 0 (.bool false)) 1 (.pointer (some ⟨b3,0,none⟩))) 2 (vI x.1)) 4 (.pointer (some ⟨b8,0,none⟩))) 6 (.slice f0 i.1.length f1)) 8 (.slice f2 H.1.length f3)) 10 (.pointer (some ⟨fd,0,none⟩))) 12 (.pointer (some ⟨fr,0,none⟩))) 13 (vI r.2)) 14 (.pointer (some ⟨y,0,none⟩))) 15 (vI u.2)) 81 (.bool (((((x.2 !=0)||(D.2 !=0))||(i.2 !=0))||(H.2 !=0))||(g.2 !=0))))) (fun o=>?_) (fun key=>?_)
    ·refine oY E (yMB E) ?_
     refine oJ 3 (fun o=>(upd (upd (upd (upd (upd (upd (upd (upd (upd (upd (upd o 0 (.bool false)) 1 (.pointer (some ⟨b3,0,none⟩))) 2 (vI x.1)) 4 (.pointer (some ⟨b8,0,none⟩))) 6 (.slice f0 i.1.length f1)) 8 (.slice f2 H.1.length f3)) 10 (.pointer (some ⟨fd,0,none⟩))) 12 (.pointer (some ⟨fr,0,none⟩))) 14 (.pointer (some ⟨y,0,none⟩))) 15 (vI u.2)) 85 (.bool ((((((x.2 !=0)||(D.2 !=0))||(i.2 !=0))||(H.2 !=0))||(g.2 !=0))||(r.2 !=0))))) (fun o=>?_) (fun key=>?_)
     ·refine oY E (yMB E) ?_
      refine oJ 3 (fun o=>(upd (upd (upd (upd (upd (upd (upd (upd (upd (upd o 0 (.bool false)) 1 (.pointer (some ⟨b3,0,none⟩))) 2 (vI x.1)) 4 (.pointer (some ⟨b8,0,none⟩))) 6 (.slice f0 i.1.length f1)) 8 (.slice f2 H.1.length f3)) 10 (.pointer (some ⟨fd,0,none⟩))) 12 (.pointer (some ⟨fr,0,none⟩))) 14 (.pointer (some ⟨y,0,none⟩))) 89 (.bool (((((((x.2 !=0)||(D.2 !=0))||(i.2 !=0))||(H.2 !=0))||(g.2 !=0))||(r.2 !=0))||(u.2 !=0))))) (fun o=>?_) (fun key=>?_)
      ·refine oY E (yMB E) ?_
       refine oJ 3 (fun o=>(upd (upd (upd (upd (upd (upd (upd (upd (upd o 0 (.bool false)) 1 (.pointer (some ⟨b3,0,none⟩))) 4 (.pointer (some ⟨b8,0,none⟩))) 6 (.slice f0 i.1.length f1)) 8 (.slice f2 H.1.length f3)) 10 (.pointer (some ⟨fd,0,none⟩))) 12 (.pointer (some ⟨fr,0,none⟩))) 14 (.pointer (some ⟨y,0,none⟩))) 93 (.bool ((((((((x.2 !=0)||(D.2 !=0))||(i.2 !=0))||(H.2 !=0))||(g.2 !=0))||(r.2 !=0))||(u.2 !=0))||(x.1 !=10))))) (fun o=>?_) (fun key=>?_)
       ·refine oN (eT ?_)
        rcases iOs h with⟨fl,h⟩|⟨fl,h⟩
        ·refine cT (vB fl) (cS (cR (oY E (yAB E) (oN (eT (ag (aa ?_)))))))
         obtain rfl:=sI h
         exact am (.inl E) E (rVt (v:=.bool false) E) (fun W2 G=>⟨E,G.none⟩)
        ·refine cF (vB fl) (cK (eT (cS (cR (oY E (yMS E) ?_)))))
         refine oY E (dS [vI 1,vI 1,vI 1] fF eP iR (by kernel_rfl)) ?_
         refine oY E (dS [vI 1,vI 2,vI 0] fF eP iR (by kernel_rfl)) ?_
         refine oY E (dS [vI 2,vI 1,vI 0] fF eP iR (by kernel_rfl)) ?_
         refine aY 3 (aL ae [(TKinds.mk 1 1 1),(TKinds.mk 1 2 0),(TKinds.mk 2 1 0)]) _ mc_23_3 fR eP jh (by decide) (by decide) (by kernel_rfl) (eL aB E) E (fun o8=>?_)
         try dsimp only[lna,lca,lsz,lss]
         obtain⟨oV,o9,h⟩:=bOs h
         refine oY E (yC [.slice f0 i.1.length f1,.slice (some ⟨o8,0,none⟩) 3 3] go_19 E (fun W2 G=>gx i.1 [(TKinds.mk 1 1 1),(TKinds.mk 1 2 0),(TKinds.mk 2 1 0)] oV o9 W2 f0 i.1.length f1 E ((RdL.row 2 E) W2 G) (some ⟨o8,0,none⟩) 3 3 E ((RdL.row 7 E) W2 G)) E) (oY E (yMB E) ?_)
         obtain⟨I,og,h⟩:=bOs h
         refine oJ 4 (fun o=>(upd (upd (upd (upd (upd (upd (upd o 0 (.bool false)) 1 (.pointer (some ⟨b3,0,none⟩))) 4 (.pointer (some ⟨b8,0,none⟩))) 10 (.pointer (some ⟨fd,0,none⟩))) 12 (.pointer (some ⟨fr,0,none⟩))) 14 (.pointer (some ⟨y,0,none⟩))) 104 (.bool I))) (fun o=>?_) (fun key=>?_)
         ·refine oY E (yAB E) (oN (eT (cS (cR ?_))))
          refine oY E (aw [vI 3,vI 10] [(0,1),(1,1)] eu ee (by kernel_rfl)) ?_
          obtain⟨d,oo,h⟩:=bOs h
          refine oY E (yC [vI 5,vI 2,vI 0,.agg #[vI 3,vI 10]] go_21 E (fun W2 G=>iB 5 2 0 (TRatio.mk 3 10) d oo W2 ) E) (oY E (a5 E) (oY E (yE E E) (oY E (yE E E) (oY E (yAI E) (oY E (yAI E) (oN (eT (cS (cR ?_)))))))))
          obtain⟨o0,ou,h⟩:=bOs h
          refine oY E (yC [] go_23 E (fun W2 G=>g2  o0 ou W2 ) E) ?_
          obtain⟨w,od,h⟩:=bOs h
          refine oY E (yC [vI 5,vI 2,vI 1,.agg #[vI o0.fNum,vI o0.fDen]] go_22 E (fun W2 G=>iP 5 2 1 o0 w od W2 ) E) (oY E (a5 E) (oY E (yE E E) (oY E (yE E E) (oY E (yAI E) (oY E (yAI E) (oN (eT (cS (cR ?_)))))))))
          refine oY E (aw [vI 1,vI 1] [(0,1),(1,1)] eu ee (by kernel_rfl)) ?_
          refine oY E (aw [vI 1,vI 10] [(0,1),(1,1)] eu ee (by kernel_rfl)) ?_
          obtain⟨F,ow,h⟩:=bOs h
          refine oY E (yC [vI 5,vI 0,vI 3,.agg #[vI 1,vI 1],.agg #[vI 1,vI 10]] go_24 E (fun W2 G=>gw 5 0 3 (TRatio.mk 1 1) (TRatio.mk 1 10) F ow W2 ) E) (oY E (a5 E) (oY E (yE E E) (oY E (yE E E) ?_)))
          refine aG j8 E (fun c=>?_)
          try dsimp only[lna,lca,lsz,lss]
          refine cg E (yS 8 [vI F.1.fSample,vI F.1.fAccept] lu E (nB E) E E E) (oY E (yAI E) (oN (eT (cS (cR (oY E (yN 0 [vI f.fBarrows,vI f.fSeen.x0,vI f.fSeen.x1,vI f.fSeen.x2,vI f.fKnown.x0.fLo,vI f.fKnown.x0.fHi,vI f.fKnown.x1.fLo,vI f.fKnown.x1.fHi,vI f.fKnown.x2.fLo,vI f.fKnown.x2.fHi] a6 E E E) (oY E (yN 0 [vI f.fBarrows,vI f.fSeen.x0,vI f.fSeen.x1,vI f.fSeen.x2,vI f.fKnown.x0.fLo,vI f.fKnown.x0.fHi,vI f.fKnown.x1.fLo,vI f.fKnown.x1.fHi,vI f.fKnown.x2.fLo,vI f.fKnown.x2.fHi] a6 E E E) ?_)))))))
          refine aY 2 (aL aE [f,f]) _ mc_28_2 d9 eV j7 (by decide) (by decide) (by kernel_rfl) (eL ao E) E (fun oD=>?_)
          try dsimp only[lna,lca,lsz,lss]
          refine oY E (aw [vI 4,vI 9] [(0,1),(1,1)] eh dz (by kernel_rfl)) ?_
          obtain⟨M,oE,h⟩:=bOs h
          refine oC [.slice (some ⟨oD,0,none⟩) 2 2,vI 1,.agg #[vI 4,vI 9]] _ _ _ E go_25 E (fun W2 G=>gC [f,f] 1 (TSpan.mk 4 9) M oE W2 (some ⟨oD,0,none⟩) 2 2 E ((RdL.row 9 E) W2 G)) ?_
          rintro⟨oF,oT,oG⟩ gf
          replace gf:oT=M.1.length:=gf;subst gf
          try dsimp only[lna,lca,lsz,lss]
          refine oY E (a5 E) (oY E (yE E E) (oY E (yE E E) (oY E (yAS E) (oY E (yAI E) (oN (eT (cS (cR (oY E (yMS E) ?_)))))))))
          refine oY E (aw [vI 2,vI 2] [(0,1),(1,1)] eh dz (by kernel_rfl)) ?_
          refine oY E (aw [vI 2,vI 2] [(0,1),(1,1)] eh dz (by kernel_rfl)) ?_
          refine aY 2 (aL bj [(TSpan.mk 2 2),(TSpan.mk 2 2)]) _ mc_25_2 jL dz by_25 (by decide) (by decide) (by kernel_rfl) (eL aO E) E (fun oH=>?_)
          try dsimp only[lna,lca,lsz,lss]
          obtain⟨K,oI,h⟩:=bOs h
          refine oY E (yC [.slice oF M.1.length oG,.slice (some ⟨oH,0,none⟩) 2 2] go_26 E (fun W2 G=>gO M.1 [(TSpan.mk 2 2),(TSpan.mk 2 2)] K oI W2 oF M.1.length oG E ((RdL.row 10 E) W2 G) (some ⟨oH,0,none⟩) 2 2 E ((RdL.row 11 E) W2 G)) E) (oY E (yAB E) (oN (eT (cS (cR (oY E (yN 1 [vI D.1.fNum,vI D.1.fDen] dF E E E) ?_))))))
          refine oY E (aw [vI 2,vI 5] [(0,1),(1,1)] eu ee (by kernel_rfl)) ?_
          refine oY E (i9 (b:=((D.1.fNum==2)&&(D.1.fDen==5))) eg_49 E E (fun _=>(iQ fl_49 (au az E) (au az E) (au az E) (au az E) (run_equalIn_int _ _ _ _ _ _ _ cQ) (run_equalIn_int _ _ _ _ _ _ _ cQ)))) (oY E (yMB E) ?_)
          refine oJ 4 (fun o=>(upd (upd (upd (upd (upd (upd (upd (upd (upd (upd (upd (upd (upd o 0 (.bool false)) 12 (.pointer (some ⟨fr,0,none⟩))) 14 (.pointer (some ⟨y,0,none⟩))) 16 (.bool I)) 17 (vI d.1)) 18 (vI d.2)) 19 (vI w.1)) 20 (vI w.2)) 21 (.pointer (some ⟨c,0,none⟩))) 22 (vI F.2)) 24 (vI M.2)) 25 (.bool K)) 141 (.bool (((D.1.fNum==2)&&(D.1.fDen==5))&&((g.1.fNum==7)&&(g.1.fDen==5)))))) (fun o=>?_) (fun key=>?_)
          ·refine oY E (yMB E) ?_
           refine oJ 4 (fun o=>(upd (upd (upd (upd (upd (upd (upd (upd (upd (upd (upd (upd o 0 (.bool false)) 14 (.pointer (some ⟨y,0,none⟩))) 16 (.bool I)) 17 (vI d.1)) 18 (vI d.2)) 19 (vI w.1)) 20 (vI w.2)) 21 (.pointer (some ⟨c,0,none⟩))) 22 (vI F.2)) 24 (vI M.2)) 25 (.bool K)) 146 (.bool ((((D.1.fNum==2)&&(D.1.fDen==5))&&((g.1.fNum==7)&&(g.1.fDen==5)))&&((r.1.fNum==1)&&(r.1.fDen==5)))))) (fun o=>?_) (fun key=>?_)
           ·refine oY E (yMB E) ?_
            refine oJ 4 (fun o=>(upd (upd (upd (upd (upd (upd (upd (upd (upd (upd (upd o 0 (.bool false)) 16 (.bool I)) 17 (vI d.1)) 18 (vI d.2)) 19 (vI w.1)) 20 (vI w.2)) 21 (.pointer (some ⟨c,0,none⟩))) 22 (vI F.2)) 24 (vI M.2)) 25 (.bool K)) 151 (.bool (((((D.1.fNum==2)&&(D.1.fDen==5))&&((g.1.fNum==7)&&(g.1.fDen==5)))&&((r.1.fNum==1)&&(r.1.fDen==5)))&&((u.1.fLo==1)&&(u.1.fHi==2)))))) (fun o=>?_) (fun key=>?_)
            ·refine oY E (yAB E) (oN (eT (cS (cR (oY E (yMB E) (oY E (yMB E) ?_))))))
             refine oJ 2 (fun o=>(upd (upd (upd (upd (upd (upd (upd (upd (upd (upd o 0 (.bool false)) 17 (vI d.1)) 18 (vI d.2)) 19 (vI w.1)) 20 (vI w.2)) 21 (.pointer (some ⟨c,0,none⟩))) 22 (vI F.2)) 24 (vI M.2)) 26 (.bool (((((D.1.fNum==2)&&(D.1.fDen==5))&&((g.1.fNum==7)&&(g.1.fDen==5)))&&((r.1.fNum==1)&&(r.1.fDen==5)))&&((u.1.fLo==1)&&(u.1.fHi==2))))) 155 (.bool (I&&K)))) (fun o=>?_) (fun key=>?_)
             ·refine oY E (yMB E) ?_
              refine oJ 2 (fun o=>(upd (upd (upd (upd (upd (upd (upd (upd (upd o 0 (.bool false)) 17 (vI d.1)) 18 (vI d.2)) 19 (vI w.1)) 20 (vI w.2)) 21 (.pointer (some ⟨c,0,none⟩))) 22 (vI F.2)) 24 (vI M.2)) 158 (.bool ((I&&K)&&(((((D.1.fNum==2)&&(D.1.fDen==5))&&((g.1.fNum==7)&&(g.1.fDen==5)))&&((r.1.fNum==1)&&(r.1.fDen==5)))&&((u.1.fLo==1)&&(u.1.fHi==2))))))) (fun o=>?_) (fun key=>?_)
              ·refine oY E (yMB E) ?_
               refine oJ 3 (fun o=>(upd (upd (upd (upd (upd (upd (upd (upd o 0 (.bool false)) 17 (vI d.1)) 19 (vI w.1)) 20 (vI w.2)) 21 (.pointer (some ⟨c,0,none⟩))) 22 (vI F.2)) 24 (vI M.2)) 162 (.bool (((I&&K)&&(((((D.1.fNum==2)&&(D.1.fDen==5))&&((g.1.fNum==7)&&(g.1.fDen==5)))&&((r.1.fNum==1)&&(r.1.fDen==5)))&&((u.1.fLo==1)&&(u.1.fHi==2))))&&(d.2==0))))) (fun o=>?_) (fun key=>?_)
               ·refine oY E (yMB E) ?_
                refine oJ 3 (fun o=>(upd (upd (upd (upd (upd (upd (upd o 0 (.bool false)) 19 (vI w.1)) 20 (vI w.2)) 21 (.pointer (some ⟨c,0,none⟩))) 22 (vI F.2)) 24 (vI M.2)) 166 (.bool ((((I&&K)&&(((((D.1.fNum==2)&&(D.1.fDen==5))&&((g.1.fNum==7)&&(g.1.fDen==5)))&&((r.1.fNum==1)&&(r.1.fDen==5)))&&((u.1.fLo==1)&&(u.1.fHi==2))))&&(d.2==0))&&(d.1==2))))) (fun o=>?_) (fun key=>?_)
                ·refine oY E (yMB E) ?_
                 refine oJ 3 (fun o=>(upd (upd (upd (upd (upd (upd o 0 (.bool false)) 19 (vI w.1)) 21 (.pointer (some ⟨c,0,none⟩))) 22 (vI F.2)) 24 (vI M.2)) 170 (.bool (((((I&&K)&&(((((D.1.fNum==2)&&(D.1.fDen==5))&&((g.1.fNum==7)&&(g.1.fDen==5)))&&((r.1.fNum==1)&&(r.1.fDen==5)))&&((u.1.fLo==1)&&(u.1.fHi==2))))&&(d.2==0))&&(d.1==2))&&(w.2==0))))) (fun o=>?_) (fun key=>?_)
                 ·refine oY E (yMB E) ?_
                  refine oJ 3 (fun o=>(upd (upd (upd (upd (upd o 0 (.bool false)) 21 (.pointer (some ⟨c,0,none⟩))) 22 (vI F.2)) 24 (vI M.2)) 174 (.bool ((((((I&&K)&&(((((D.1.fNum==2)&&(D.1.fDen==5))&&((g.1.fNum==7)&&(g.1.fDen==5)))&&((r.1.fNum==1)&&(r.1.fDen==5)))&&((u.1.fLo==1)&&(u.1.fHi==2))))&&(d.2==0))&&(d.1==2))&&(w.2==0))&&(w.1==2))))) (fun o=>?_) (fun key=>?_)
                  ·refine oY E (yMB E) ?_
                   refine oJ 3 (fun o=>(upd (upd (upd (upd o 0 (.bool false)) 21 (.pointer (some ⟨c,0,none⟩))) 24 (vI M.2)) 178 (.bool (((((((I&&K)&&(((((D.1.fNum==2)&&(D.1.fDen==5))&&((g.1.fNum==7)&&(g.1.fDen==5)))&&((r.1.fNum==1)&&(r.1.fDen==5)))&&((u.1.fLo==1)&&(u.1.fHi==2))))&&(d.2==0))&&(d.1==2))&&(w.2==0))&&(w.1==2))&&(F.2==0))))) (fun o=>?_) (fun key=>?_)
                   ·refine oY E (yMB E) ?_
                    refine oJ 4 (fun o=>(upd (upd (upd o 0 (.bool false)) 24 (vI M.2)) 183 (.bool ((((((((I&&K)&&(((((D.1.fNum==2)&&(D.1.fDen==5))&&((g.1.fNum==7)&&(g.1.fDen==5)))&&((r.1.fNum==1)&&(r.1.fDen==5)))&&((u.1.fLo==1)&&(u.1.fHi==2))))&&(d.2==0))&&(d.1==2))&&(w.2==0))&&(w.1==2))&&(F.2==0))&&((F.1.fSample==2)&&(F.1.fAccept==0)))))) (fun o=>?_) (fun key=>?_)
                    ·refine oY E (yMB E) ?_
                     refine oJ 3 (fun o=>(upd (upd o 0 (.bool false)) 187 (.bool (((((((((I&&K)&&(((((D.1.fNum==2)&&(D.1.fDen==5))&&((g.1.fNum==7)&&(g.1.fDen==5)))&&((r.1.fNum==1)&&(r.1.fDen==5)))&&((u.1.fLo==1)&&(u.1.fHi==2))))&&(d.2==0))&&(d.1==2))&&(w.2==0))&&(w.1==2))&&(F.2==0))&&((F.1.fSample==2)&&(F.1.fAccept==0)))&&(M.2==0))))) (fun o=>?_) (fun key=>?_)
                     ·refine oY E (yAB E) (oN (eT (ag ?_)))
                      obtain rfl:=sI h
                      exact am (.inl E) E (rVt (v:=.bool (((((((((I&&K)&&(((((D.1.fNum==2)&&(D.1.fDen==5))&&((g.1.fNum==7)&&(g.1.fDen==5)))&&((r.1.fNum==1)&&(r.1.fDen==5)))&&((u.1.fLo==1)&&(u.1.fHi==2))))&&(d.2==0))&&(d.1==2))&&(w.2==0))&&(w.1==2))&&(F.2==0))&&((F.1.fSample==2)&&(F.1.fAccept==0)))&&(M.2==0))) E) (fun W2 G=>⟨E,G.none⟩)
                     ·rcases ar ((((((((I&&K)&&(((((D.1.fNum==2)&&(D.1.fDen==5))&&((g.1.fNum==7)&&(g.1.fDen==5)))&&((r.1.fNum==1)&&(r.1.fDen==5)))&&((u.1.fLo==1)&&(u.1.fHi==2))))&&(d.2==0))&&(d.1==2))&&(w.2==0))&&(w.1==2))&&(F.2==0))&&((F.1.fSample==2)&&(F.1.fAccept==0)))with X|X
                      ·refine oY (sT E E E E X) (yMI E) (oY (sT E E E E X) (fc E E) (oY E (ai (vB X) E) ?_))
                       exact key _ _ (keep (keep E E) (vB (fP X)))
                      ·refine oSk (sF E E E E X) (oSk (sF E E E E X) (oY E (aj (vB X) E) ?_))
                       exact key _ _ (keep (keep E E) (vB (fI X)))
                    ·rcases ar (((((((I&&K)&&(((((D.1.fNum==2)&&(D.1.fDen==5))&&((g.1.fNum==7)&&(g.1.fDen==5)))&&((r.1.fNum==1)&&(r.1.fDen==5)))&&((u.1.fLo==1)&&(u.1.fHi==2))))&&(d.2==0))&&(d.1==2))&&(w.2==0))&&(w.1==2))&&(F.2==0))with N|N
                     ·refine oY (sT E E E E N) (yN 8 [vI F.1.fSample,vI F.1.fAccept] ls E E E) ?_
                      refine oY (sT E E E E N) (aw [vI 2,vI 0] [(0,1),(1,1)] km j8 (by kernel_rfl)) ?_
                      refine oY (sT E E E E N) (i9 (b:=((F.1.fSample==2)&&(F.1.fAccept==0))) eg_66 E E (fun _=>(iQ fl_66 (au az E) (au az E) (au az E) (au az E) (run_equalIn_int _ _ _ _ _ _ _ cQ) (run_equalIn_int _ _ _ _ _ _ _ cQ)))) (oY E (ai (vB N) E) ?_)
                      exact key _ _ (keep (keep (keep E E) E) (vB (fP N)))
                     ·refine oSk (sF E E E E N) (oSk (sF E E E E N) (oSk (sF E E E E N) (oY E (aj (vB N) E) ?_)))
                      exact key _ _ (keep (keep (keep E E) E) (vB (fI N)))
                   ·rcases ar ((((((I&&K)&&(((((D.1.fNum==2)&&(D.1.fDen==5))&&((g.1.fNum==7)&&(g.1.fDen==5)))&&((r.1.fNum==1)&&(r.1.fDen==5)))&&((u.1.fLo==1)&&(u.1.fHi==2))))&&(d.2==0))&&(d.1==2))&&(w.2==0))&&(w.1==2))with Y|Y
                    ·refine oY (sT E E E E Y) (yMI E) (oY (sT E E E E Y) (fc E E) (oY E (ai (vB Y) E) ?_))
                     exact key _ _ (keep (keep (keep (keep E E) E) E) (vB (fP Y)))
                    ·refine oSk (sF E E E E Y) (oSk (sF E E E E Y) (oY E (aj (vB Y) E) ?_))
                     exact key _ _ (keep (keep (keep (keep E E) E) E) (vB (fI Y)))
                  ·rcases ar (((((I&&K)&&(((((D.1.fNum==2)&&(D.1.fDen==5))&&((g.1.fNum==7)&&(g.1.fDen==5)))&&((r.1.fNum==1)&&(r.1.fDen==5)))&&((u.1.fLo==1)&&(u.1.fHi==2))))&&(d.2==0))&&(d.1==2))&&(w.2==0))with Z|Z
                   ·refine oY (sT E E E E Z) (yMI E) (oY (sT E E E E Z) (fc E E) (oY E (ai (vB Z) E) ?_))
                    exact key _ _ (keep (keep (keep (keep (keep E E) E) E) E) (vB (fP Z)))
                   ·refine oSk (sF E E E E Z) (oSk (sF E E E E Z) (oY E (aj (vB Z) E) ?_))
                    exact key _ _ (keep (keep (keep (keep (keep E E) E) E) E) (vB (fI Z)))
                 ·rcases ar ((((I&&K)&&(((((D.1.fNum==2)&&(D.1.fDen==5))&&((g.1.fNum==7)&&(g.1.fDen==5)))&&((r.1.fNum==1)&&(r.1.fDen==5)))&&((u.1.fLo==1)&&(u.1.fHi==2))))&&(d.2==0))&&(d.1==2))with V|V
                  ·refine oY (sT E E E E V) (yMI E) (oY (sT E E E E V) (fc E E) (oY E (ai (vB V) E) ?_))
                   exact key _ _ (keep (keep (keep (keep (keep (keep E E) E) E) E) E) (vB (fP V)))
                  ·refine oSk (sF E E E E V) (oSk (sF E E E E V) (oY E (aj (vB V) E) ?_))
                   exact key _ _ (keep (keep (keep (keep (keep (keep E E) E) E) E) E) (vB (fI V)))
                ·rcases ar (((I&&K)&&(((((D.1.fNum==2)&&(D.1.fDen==5))&&((g.1.fNum==7)&&(g.1.fDen==5)))&&((r.1.fNum==1)&&(r.1.fDen==5)))&&((u.1.fLo==1)&&(u.1.fHi==2))))&&(d.2==0))with T|T
                 ·refine oY (sT E E E E T) (yMI E) (oY (sT E E E E T) (fc E E) (oY E (ai (vB T) E) ?_))
                  exact key _ _ (keep (keep (keep (keep (keep (keep (keep E E) E) E) E) E) E) (vB (fP T)))
                 ·refine oSk (sF E E E E T) (oSk (sF E E E E T) (oY E (aj (vB T) E) ?_))
                  exact key _ _ (keep (keep (keep (keep (keep (keep (keep E E) E) E) E) E) E) (vB (fI T)))
               ·rcases ar ((I&&K)&&(((((D.1.fNum==2)&&(D.1.fDen==5))&&((g.1.fNum==7)&&(g.1.fDen==5)))&&((r.1.fNum==1)&&(r.1.fDen==5)))&&((u.1.fLo==1)&&(u.1.fHi==2))))with S|S
                ·refine oY (sT E E E E S) (yMI E) (oY (sT E E E E S) (fc E E) (oY E (ai (vB S) E) ?_))
                 exact key _ _ (keep (keep (keep (keep (keep (keep (keep (keep E E) E) E) E) E) E) E) (vB (fP S)))
                ·refine oSk (sF E E E E S) (oSk (sF E E E E S) (oY E (aj (vB S) E) ?_))
                 exact key _ _ (keep (keep (keep (keep (keep (keep (keep (keep E E) E) E) E) E) E) E) (vB (fI S)))
              ·rcases ar (I&&K)with j|j
               ·refine oY (sT E E E E j) (yMB E) (oY E (ai (vB j) E) ?_)
                exact key _ _ (keep (keep (keep (keep (keep (keep (keep (keep (keep E E) E) E) E) E) E) E) E) (vB (fP j)))
               ·refine oSk (sF E E E E j) (oY E (aj (vB j) E) ?_)
                exact key _ _ (keep (keep (keep (keep (keep (keep (keep (keep (keep E E) E) E) E) E) E) E) E) (vB (fI j)))
             ·rcases ar I with k|k
              ·refine oY (sT E E E E k) (yMB E) (oY E (ai (vB k) E) ?_)
               exact key _ _ (keep (keep (keep (keep (keep (keep (keep (keep (keep (keep E E) E) E) E) E) E) E) E) E) (vB (fP k)))
              ·refine oSk (sF E E E E k) (oY E (aj (vB k) E) ?_)
               exact key _ _ (keep (keep (keep (keep (keep (keep (keep (keep (keep (keep E E) E) E) E) E) E) E) E) E) (vB (fI k)))
            ·rcases ar ((((D.1.fNum==2)&&(D.1.fDen==5))&&((g.1.fNum==7)&&(g.1.fDen==5)))&&((r.1.fNum==1)&&(r.1.fDen==5)))with O|O
             ·refine oY (sT E E E E O) (yN 6 [vI u.1.fLo,vI u.1.fHi] bL E E E) ?_
              refine oY (sT E E E E O) (aw [vI 1,vI 2] [(0,1),(1,1)] eh dz (by kernel_rfl)) ?_
              refine oY (sT E E E E O) (i9 (b:=((u.1.fLo==1)&&(u.1.fHi==2))) eg_25 E E (fun _=>(iQ fJ (au az E) (au az E) (au az E) (au az E) (run_equalIn_int _ _ _ _ _ _ _ cQ) (run_equalIn_int _ _ _ _ _ _ _ cQ)))) (oY E (ai (vB O) E) ?_)
              exact key _ _ (keep (keep (keep (keep (keep (keep (keep (keep (keep (keep (keep E E) E) E) E) E) E) E) E) E) E) (vB (fP O)))
             ·refine oSk (sF E E E E O) (oSk (sF E E E E O) (oSk (sF E E E E O) (oY E (aj (vB O) E) ?_)))
              exact key _ _ (keep (keep (keep (keep (keep (keep (keep (keep (keep (keep (keep E E) E) E) E) E) E) E) E) E) E) (vB (fI O)))
           ·rcases ar (((D.1.fNum==2)&&(D.1.fDen==5))&&((g.1.fNum==7)&&(g.1.fDen==5)))with Q|Q
            ·refine oY (sT E E E E Q) (yN 5 [vI r.1.fNum,vI r.1.fDen] dF E E E) ?_
             refine oY (sT E E E E Q) (aw [vI 1,vI 5] [(0,1),(1,1)] eu ee (by kernel_rfl)) ?_
             refine oY (sT E E E E Q) (i9 (b:=((r.1.fNum==1)&&(r.1.fDen==5))) eg_49 E E (fun _=>(iQ fl_49 (au az E) (au az E) (au az E) (au az E) (run_equalIn_int _ _ _ _ _ _ _ cQ) (run_equalIn_int _ _ _ _ _ _ _ cQ)))) (oY E (ai (vB Q) E) ?_)
             exact key _ _ (keep (keep (keep (keep (keep (keep (keep (keep (keep (keep (keep (keep E E) E) E) E) E) E) E) E) E) E) E) (vB (fP Q)))
            ·refine oSk (sF E E E E Q) (oSk (sF E E E E Q) (oSk (sF E E E E Q) (oY E (aj (vB Q) E) ?_)))
             exact key _ _ (keep (keep (keep (keep (keep (keep (keep (keep (keep (keep (keep (keep E E) E) E) E) E) E) E) E) E) E) E) (vB (fI Q)))
          ·rcases ar ((D.1.fNum==2)&&(D.1.fDen==5))with U|U
           ·refine oY (sT E E E E U) (yN 4 [vI g.1.fNum,vI g.1.fDen] dF E E E) ?_
            refine oY (sT E E E E U) (aw [vI 7,vI 5] [(0,1),(1,1)] eu ee (by kernel_rfl)) ?_
            refine oY (sT E E E E U) (i9 (b:=((g.1.fNum==7)&&(g.1.fDen==5))) eg_49 E E (fun _=>(iQ fl_49 (au az E) (au az E) (au az E) (au az E) (run_equalIn_int _ _ _ _ _ _ _ cQ) (run_equalIn_int _ _ _ _ _ _ _ cQ)))) (oY E (ai (vB U) E) ?_)
            exact key _ _ (keep (keep (keep (keep (keep (keep (keep (keep (keep (keep (keep (keep (keep E E) E) E) E) E) E) E) E) E) E) E) E) (vB (fP U)))
           ·refine oSk (sF E E E E U) (oSk (sF E E E E U) (oSk (sF E E E E U) (oY E (aj (vB U) E) ?_)))
            exact key _ _ (keep (keep (keep (keep (keep (keep (keep (keep (keep (keep (keep (keep (keep E E) E) E) E) E) E) E) E) E) E) E) E) (vB (fI U)))
         ·clear h;rcases iOs og with⟨R,h⟩|⟨R,h⟩
          ·refine oY (sT E E E E R) (yMS E) ?_
           refine aY 4 (aL cI [0,3,2,0]) _ mc_3_4 hU ze_3 by_3 (by decide) (by decide) (by kernel_rfl) (eL fw E) (sT E E E E R) (fun oK=>?_)
           try dsimp only[lna,lca,lsz,lss]
           obtain⟨oS,oM,h⟩:=bOs h
           refine oY (sT E E E E R) (yC [.slice f2 H.1.length f3,.slice (some ⟨oK,0,none⟩) 4 4] go_20 E (fun W2 G=>gY H.1 [0,3,2,0] oS oM W2 f2 H.1.length f3 E ((RdL.row 3 E) W2 G) (some ⟨oK,0,none⟩) 4 4 E ((RdL.row 8 E) W2 G)) E) (oY E (ai (vB R) E) ?_)
           obtain rfl:=sI h
           refine ox_take 8 ?_
           exact key _ _ (kp4 (kp (kp (kp E))))
          ·refine oSk (sF E E E E R) (oSk (sF E E E E R) (oSk (sF E E E E R) (oY E (aj (vB R) E) ?_)))
           obtain rfl:=sI h
           exact key _ _ (kp4 (kp (kp (kp E))))
       ·rcases ar (((((((x.2 !=0)||(D.2 !=0))||(i.2 !=0))||(H.2 !=0))||(g.2 !=0))||(r.2 !=0))||(u.2 !=0))with q|q
        ·refine oSk (sF E E E E q) (oSk (sF E E E E q) (oY E (ai (vB q) E) ?_))
         exact key _ _ (keep (keep (keep (keep (keep (keep (keep (keep (keep E E) E) E) E) E) E) E) E) (vB (jG q)))
        ·refine oY (sT E E E E q) (yMI E) (oY (sT E E E E q) (bO E E) (oY E (aj (vB q) E) ?_))
         exact key _ _ (keep (keep (keep (keep (keep (keep (keep (keep (keep E E) E) E) E) E) E) E) E) (vB (jH q)))
      ·rcases ar ((((((x.2 !=0)||(D.2 !=0))||(i.2 !=0))||(H.2 !=0))||(g.2 !=0))||(r.2 !=0))with p|p
       ·refine oSk (sF E E E E p) (oSk (sF E E E E p) (oY E (ai (vB p) E) ?_))
        exact key _ _ (keep (keep (keep (keep (keep (keep (keep (keep (keep (keep E E) E) E) E) E) E) E) E) E) (vB (jG p)))
       ·refine oY (sT E E E E p) (yMI E) (oY (sT E E E E p) (bO E E) (oY E (aj (vB p) E) ?_))
        exact key _ _ (keep (keep (keep (keep (keep (keep (keep (keep (keep (keep E E) E) E) E) E) E) E) E) E) (vB (jH p)))
     ·rcases ar (((((x.2 !=0)||(D.2 !=0))||(i.2 !=0))||(H.2 !=0))||(g.2 !=0))with n|n
      ·refine oSk (sF E E E E n) (oSk (sF E E E E n) (oY E (ai (vB n) E) ?_))
       exact key _ _ (keep (keep (keep (keep (keep (keep (keep (keep (keep (keep (keep E E) E) E) E) E) E) E) E) E) E) (vB (jG n)))
      ·refine oY (sT E E E E n) (yMI E) (oY (sT E E E E n) (bO E E) (oY E (aj (vB n) E) ?_))
       exact key _ _ (keep (keep (keep (keep (keep (keep (keep (keep (keep (keep (keep E E) E) E) E) E) E) E) E) E) E) (vB (jH n)))
    ·rcases ar ((((x.2 !=0)||(D.2 !=0))||(i.2 !=0))||(H.2 !=0))with l|l
     ·refine oSk (sF E E E E l) (oSk (sF E E E E l) (oY E (ai (vB l) E) ?_))
      exact key _ _ (keep (keep (keep (keep (keep (keep (keep (keep (keep (keep (keep (keep E E) E) E) E) E) E) E) E) E) E) E) (vB (jG l)))
     ·refine oY (sT E E E E l) (yMI E) (oY (sT E E E E l) (bO E E) (oY E (aj (vB l) E) ?_))
      exact key _ _ (keep (keep (keep (keep (keep (keep (keep (keep (keep (keep (keep (keep E E) E) E) E) E) E) E) E) E) E) E) (vB (jH l)))
   ·rcases ar (((x.2 !=0)||(D.2 !=0))||(i.2 !=0))with t|t
    ·refine oSk (sF E E E E t) (oSk (sF E E E E t) (oY E (ai (vB t) E) ?_))
     exact key _ _ (keep (keep (keep (keep (keep (keep (keep (keep (keep (keep (keep (keep (keep E E) E) E) E) E) E) E) E) E) E) E) E) (vB (jG t)))
    ·refine oY (sT E E E E t) (yMI E) (oY (sT E E E E t) (bO E E) (oY E (aj (vB t) E) ?_))
     exact key _ _ (keep (keep (keep (keep (keep (keep (keep (keep (keep (keep (keep (keep (keep E E) E) E) E) E) E) E) E) E) E) E) E) (vB (jH t)))
  ·rcases ar ((x.2 !=0)||(D.2 !=0))with a|a
   ·refine oSk (sF E E E E a) (oSk (sF E E E E a) (oY E (ai (vB a) E) ?_))
    exact key _ _ (keep (keep (keep (keep (keep (keep (keep (keep (keep (keep (keep (keep (keep (keep E E) E) E) E) E) E) E) E) E) E) E) E) E) (vB (jG a)))
   ·refine oY (sT E E E E a) (yMI E) (oY (sT E E E E a) (bO E E) (oY E (aj (vB a) E) ?_))
    exact key _ _ (keep (keep (keep (keep (keep (keep (keep (keep (keep (keep (keep (keep (keep (keep E E) E) E) E) E) E) E) E) E) E) E) E) E) (vB (jH a)))
 ·rcases ar (x.2 !=0)with z|z
  ·refine oSk (sF E E E E z) (oSk (sF E E E E z) (oY E (ai (vB z) E) ?_))
   exact key _ _ (keep (keep (keep (keep (keep (keep (keep (keep (keep (keep (keep (keep (keep (keep (keep E E) E) E) E) E) E) E) E) E) E) E) E) E) E) (vB (jG z)))
  ·refine oY (sT E E E E z) (yMI E) (oY (sT E E E E z) (bO E E) (oY E (aj (vB z) E) ?_))
   exact key _ _ (keep (keep (keep (keep (keep (keep (keep (keep (keep (keep (keep (keep (keep (keep (keep E E) E) E) E) E) E) E) E) E) E) E) E) E) E) (vB (jH z)))
theorem jj (p0:TBatch) (res:(Option TBin × Int)) (h:eS p0=some res) (W:World)  :
  Calls Try.prog 5 [.agg #[vI p0.fBarrows,vI p0.fSeen.x0,vI p0.fSeen.x1,vI p0.fSeen.x2,vI p0.fKnown.x0.fLo,vI p0.fKnown.x0.fHi,vI p0.fKnown.x1.fLo,vI p0.fKnown.x1.fHi,vI p0.fKnown.x2.fLo,vI p0.fKnown.x2.fHi]].toArray W fun e W2=>∃x:Nat × Hd,optP res.1 (fun t=>x.2.2.1=t.f_taken.length)∧e=.returned (.tuple #[ptrO res.1 x.1,vI res.2])∧Ext W W2 [optR res.1 (fun t=>ac x.1 74 [vI t.f_batch.fBarrows,vI t.f_batch.fSeen.x0,vI t.f_batch.fSeen.x1,vI t.f_batch.fSeen.x2,vI t.f_batch.fKnown.x0.fLo,vI t.f_batch.fKnown.x0.fHi,vI t.f_batch.fKnown.x1.fLo,vI t.f_batch.fKnown.x1.fHi,vI t.f_batch.fKnown.x2.fLo,vI t.f_batch.fKnown.x2.fHi,.slice x.2.1 x.2.2.1 x.2.2.2]),optR res.1 (fun t=>bR x.2.1 x.2.2.2 23 3 x.2.2.1 (aL ae t.f_taken))]:=by
 unfold eS at h
 refine ad (m:=13) Try.func5 E E (nB E) (cS (cR ?_))
 refine aV [vI p0.fBarrows,vI p0.fSeen.x0,vI p0.fSeen.x1,vI p0.fSeen.x2,vI p0.fKnown.x0.fLo,vI p0.fKnown.x0.fHi,vI p0.fKnown.x1.fLo,vI p0.fKnown.x1.fHi,vI p0.fKnown.x2.fLo,vI p0.fKnown.x2.fHi] E E E (fun d=>?_)
 refine oY E (dT (v:=.pointer none) E) (oY E (yAI E) (oN (eT (cS (cS (cR (oY E (yN 0 [vI p0.fBarrows,vI p0.fSeen.x0,vI p0.fSeen.x1,vI p0.fSeen.x2,vI p0.fKnown.x0.fLo,vI p0.fKnown.x0.fHi,vI p0.fKnown.x1.fLo,vI p0.fKnown.x1.fHi,vI p0.fKnown.x2.fLo,vI p0.fKnown.x2.fHi] a6 E E E) ?_)))))))
 obtain⟨r,o,h⟩:=bOs h
 refine oY E (yC [.agg #[vI p0.fBarrows,vI p0.fSeen.x0,vI p0.fSeen.x1,vI p0.fSeen.x2,vI p0.fKnown.x0.fLo,vI p0.fKnown.x0.fHi,vI p0.fKnown.x1.fLo,vI p0.fKnown.x1.fHi,vI p0.fKnown.x2.fLo,vI p0.fKnown.x2.fHi]] kE E (fun W2 f=>cd p0 r o W2 ) E) (oY E (yAI E) (oN (eT (cS (cR (oY E (yMI E) (oY E (bO E E) (oN (eT ?_)))))))))
 rcases iOs h with⟨g,h⟩|⟨g,h⟩
 ·refine cT (vB g) (cS (cR (oY E (yMI E) (oY E (dT (v:=.pointer none) E) (oY E (yAI E) (oN (eT (ag (aa ?_)))))))))
  obtain rfl:=sI h
  exact aW (.inl E) E (rVt (v:=.pointer none) E) (rVt (v:=vI r) E) (fun W2 f=>⟨(0,none,0,0),trivial,E,f.addNo.addNo.pickL [1,2] (by decide) E⟩)
 ·refine cF (vB g) (cK (eT (cS (cR (oY E (yN 0 [vI p0.fBarrows,vI p0.fSeen.x0,vI p0.fSeen.x1,vI p0.fSeen.x2,vI p0.fKnown.x0.fLo,vI p0.fKnown.x0.fHi,vI p0.fKnown.x1.fLo,vI p0.fKnown.x1.fHi,vI p0.fKnown.x2.fLo,vI p0.fKnown.x2.fHi] a6 E E E) ?_)))))
  refine oY E (aw [vI p0.fBarrows,vI p0.fSeen.x0,vI p0.fSeen.x1,vI p0.fSeen.x2,vI p0.fKnown.x0.fLo,vI p0.fKnown.x0.fHi,vI p0.fKnown.x1.fLo,vI p0.fKnown.x1.fHi,vI p0.fKnown.x2.fLo,vI p0.fKnown.x2.fHi,.slice none 0 0] [(0,10),(10,1)] ust_74 ze_74 (by kernel_rfl)) ?_
  refine aV [vI p0.fBarrows,vI p0.fSeen.x0,vI p0.fSeen.x1,vI p0.fSeen.x2,vI p0.fKnown.x0.fLo,vI p0.fKnown.x0.fHi,vI p0.fKnown.x1.fLo,vI p0.fKnown.x1.fHi,vI p0.fKnown.x2.fLo,vI p0.fKnown.x2.fHi,.slice none 0 0] E E E (fun u=>?_)
  refine oY E (g7 E) (oY E (yAI E) (oN (eT (ag ?_))))
  obtain rfl:=sI h
  exact aW (.inl E) E (rVt (v:=.pointer (some ⟨u,0,none⟩)) E) (rVt (v:=vI 0) E) (fun W2 f=>⟨(u,none,0,0),E,E,(f.nilrow 23 3).pickL [1,2] (by decide) E⟩)
theorem iG (p0:Int) (p1:Int) (p2:Int) (res:Bool) (h:f8 p0 p1 p2=some res) (W:World)  :
  Calls Try.prog 28 [vI p0,vI p1,vI p2].toArray W fun e W2=>e=.returned (.bool res)∧Ext W W2 []:=by
 unfold f8 at h
 refine ad (m:=15) Try.func28 E E (nB E) (cS (cR (oY E (yAB E) (oN (eT (cS (cR (oY E (yMI E) (oY E (yMI E) (oY E (js E E) (oY E (yMB E) ?_)))))))))))
 refine oJ 4 (fun g=>(upd (upd g 6 (.bool false)) 14 (.bool ((decide (p1≤p0))&&(decide (p0≤p2)))))) (fun g=>?_) (fun key=>?_)
 ·refine oY E (yAB E) (oN (eT (ag ?_)))
  obtain rfl:=sI h
  exact am (.inl E) E (rVt (v:=.bool ((decide (p1≤p0))&&(decide (p0≤p2)))) E) (fun W2 o=>⟨E,o.none⟩)
 ·rcases ar (decide (p1≤p0))with f|f
  ·refine oY (sT E E E E f) (yMI E) (oY (sT E E E E f) (yMI E) (oY (sT E E E E f) (jx E E) (oY E (ai (vB f) E) ?_)))
   exact key _ _ (keep (keep E E) (vB (fP f)))
  ·refine oSk (sF E E E E f) (oSk (sF E E E E f) (oSk (sF E E E E f) (oY E (aj (vB f) E) ?_)))
   exact key _ _ (keep (keep E E) (vB (fI f)))
theorem fY (p0:TKinds) (res:Bool) (h:de p0=some res) (W:World)  :
  Calls Try.prog 29 [.agg #[vI p0.x0,vI p0.x1,vI p0.x2]].toArray W fun e W2=>e=.returned (.bool res)∧Ext W W2 []:=by
 unfold de at h
 refine ad (m:=16) Try.func29 E E (nB E) (cS (cR ?_))
 refine aV [vI p0.x0,vI p0.x1,vI p0.x2] E E E (fun u=>?_)
 refine oY E (yAB E) (oN (eT (cS (cR ?_))))
 refine oY E (aq cY (by decide) (by decide) E E) ?_
 refine oY E (yL 0 az E E E) (oY E (js E E) (oY E (yMB E) ?_))
 refine oJ 4 (fun o=>(upd (upd (upd o 1 (.pointer (some ⟨u,0,none⟩))) 2 (.bool false)) 10 (.bool ((decide (0≤p0.x0))&&(decide (0≤p0.x1)))))) (fun o=>?_) (fun key=>?_)
 ·refine oY E (yMB E) ?_
  refine oJ 4 (fun o=>(upd (upd o 2 (.bool false)) 15 (.bool (((decide (0≤p0.x0))&&(decide (0≤p0.x1)))&&(decide (0≤p0.x2)))))) (fun o=>?_) (fun key=>?_)
  ·refine oY E (yAB E) (oN (eT (ag ?_)))
   obtain rfl:=sI h
   exact am (.inl E) E (rVt (v:=.bool (((decide (0≤p0.x0))&&(decide (0≤p0.x1)))&&(decide (0≤p0.x2)))) E) (fun W2 r=>⟨E,r.none⟩)
  ·rcases ar ((decide (0≤p0.x0))&&(decide (0≤p0.x1)))with f|f
   ·refine oY (sT E E E E f) (aq cY (by decide) (by decide) E E) ?_
    refine oY (sT E E E E f) (yL 0 az E E E) (oY (sT E E E E f) (js E E) (oY E (ai (vB f) E) ?_))
    exact key _ _ (keep (keep E E) (vB (fP f)))
   ·refine oSk (sF E E E E f) (oSk (sF E E E E f) (oSk (sF E E E E f) (oY E (aj (vB f) E) ?_)))
    exact key _ _ (keep (keep E E) (vB (fI f)))
 ·rcases ar (decide (0≤p0.x0))with g|g
  ·refine oY (sT E E E E g) (aq cY (by decide) (by decide) E E) ?_
   refine oY (sT E E E E g) (yL 0 az E E E) (oY (sT E E E E g) (js E E) (oY E (ai (vB g) E) ?_))
   exact key _ _ (keep (keep (keep E E) E) (vB (fP g)))
  ·refine oSk (sF E E E E g) (oSk (sF E E E E g) (oSk (sF E E E E g) (oY E (aj (vB g) E) ?_)))
   exact key _ _ (keep (keep (keep E E) E) (vB (fI g)))
theorem dK (p0:TKinds) (res:Int) (h:dl p0=some res) (W:World)  :
  Calls Try.prog 30 [.agg #[vI p0.x0,vI p0.x1,vI p0.x2]].toArray W fun e W2=>e=.returned (vI res)∧Ext W W2 []:=by
 unfold dl at h
 refine ad (m:=16) Try.func30 E E (nB E) (cS (cR ?_))
 refine aV [vI p0.x0,vI p0.x1,vI p0.x2] E E E (fun D=>?_)
 refine oY E (yAI E) (oN (eT (cS (cR (oY E (yAI E) (oN (eT (cS (cS (cR (oY E (yAI E) (oN (eT (cB ?_))))))))))))))
 obtain⟨F,u,h⟩:=bOs h
 refine a8 (fun(s:(Int × Int)) L tm=>∃(d:Nat→Value),L=[ac D 23 [vI p0.x0,vI p0.x1,vI p0.x2]]∧tm=(upd (upd (upd (upd d 1 (.pointer (some ⟨D,0,none⟩))) 2 (vI 0)) 3 (vI s.1)) 4 (vI s.2))) 0 u ⟨_,E,(kp4 E)⟩ ?_ ?_
 ·rintro G L tm st ⟨o,rfl,rfl⟩ h
  unfold dg at h
  refine cS (cS (cR (oY E (yMI E) (oY E (cX E E) (oN (eT ?_))))))
  rcases iOs h with⟨f,h⟩|⟨f,h⟩
  ·refine cT (vB f) (cK (eT (cS (cB (cR (oY E (yMI E) (oY E (yMI E) ?_)))))))
   obtain⟨g,h⟩:=gOs h
   refine oY E (aq cY g.1 g.2 E E) ?_
   refine oY E (yL 0 (v:=vI (aH p0.x0 p0.x1 p0.x2 G.2)) az E E (by rcases in3 g with e|e|e <;> rw[e] <;> rfl)) ?_
   refine oY E (jX E E) (oY E (bf E E) (oY E (yAI E) (oN (ay (eT (cR (oY E (yMI E) (oY E (bf E E) (oY E (yAI E) (oN ?_))))))))))
   obtain rfl:=sI h
   exact eN ⟨_,E,(kp4 E)⟩
  ·refine cF (vB f) (aR (al ?_))
   obtain rfl:=sI h
   exact aD ⟨E,_,E,(kp4 E)⟩
 ·intro e L tm hJ
  obtain⟨rfl,r,rfl,rfl⟩:=hJ
  refine⟨(by intro hc;cases hc),?_⟩
  refine ak (eT (cS (cR (oY E (yMI E) (oY E (yAI E) (oN (eT (ag ?_))))))))
  obtain rfl:=sI h
  exact am (.inl E) E (rVt (v:=vI F.1) E) (fun W2 w=>⟨E,w.none⟩)
end Go.Proofs.Ytcleeakjghgbdaa
