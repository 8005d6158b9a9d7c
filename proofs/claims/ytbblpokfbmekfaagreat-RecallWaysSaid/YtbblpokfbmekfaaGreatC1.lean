import Derived.Test.YtbblpokfbmekfaaGreatF
import Derived.Test.YtbblpokfbmekfaaGreatG8
import Derived.Test.YtbblpokfbmekfaaGreatGv
set_option maxHeartbeats 4000000
set_option maxRecDepth 100000
set_option linter.unusedVariables false
namespace Go.Proofs.YtbblpokfbmekfaaGreat
open Go.RowKit (Below)
attribute [local irreducible] OX QX CX EX OpY Calls CallsIn
theorem kn (p0:(List TN)) (p1:TN→Option Bool) (res:Int) (h:bf p0 p1=some res) (W:World) (Aa:Option Addr) (f ca:Nat) (d:f=p0.length) (g:Rd W Aa f ca (encL TNode_cells p0)) (fid1:Nat) (fst1 caps1:List Value) (E:cN Tryz.prog fid1=true) (F:∀W2,Below W.heap.size W W2→∀x,∀y,p1 x=some y→Calls Tryz.prog fid1 (fst1++(([.agg #[vI x.fID,vI x.fLevel,vI x.fCost]]:List Value)++caps1)).toArray W2 fun e W3=>e=.returned (.bool y)∧Ext W2 W3 []) :
  Calls Tryz.prog 119 [.slice Aa f ca,.func (.func fid1) fst1.toArray caps1.toArray].toArray W fun e W2=>e=.returned (vI res)∧Ext W W2 []:=by
 subst d
 unfold bf at h
 refine ah (m:=19) Tryz.func119 O O (nB O) (cS (cR (oY O (yAI O) (oN (aa (cS (cS (cR (oY O (yMS O) (oY O (a8 (us:=[]) lM O) (oY O (yMI O) (oN (aa (ae ?_))))))))))))))
 obtain⟨U,K,h⟩:=bOs h
 refine cC (fun(s:(Int × Int)) L tm=>∃(M:Nat→Value),L=[]∧tm=(upd (upd (upd (upd (upd M 0 (.slice Aa p0.length ca)) 1 (.func (.func fid1) fst1.toArray caps1.toArray)) 4 (vI s.1)) 7 (vI (p0.length:Int))) 8 (vI s.2))) 0 K ⟨_,O,(kp4 (kp O))⟩ ?_ ?_
 ·rintro r L tm st ⟨I,rfl,rfl⟩ h
  unfold aQ at h
  refine cS (cR (oY O (bN O O) (oN (aa (cS ?_)))))
  rcases iOs h with⟨w,h⟩|⟨w,h⟩
  ·refine cT (vB w) (cK (aa (cS (ae (cS (cR (oY O (yMI O) (oY O (yAI O) (oN (aa (cS (cR (oY O (iP (v:=.func (.func fid1) fst1.toArray caps1.toArray) O) (oY O (yMS O) (oY O (yMI O) ?_)))))))))))))))
   obtain⟨u,h⟩:=gOs h
   refine oY O (yI nG (by decide) u.1 u.2 (RdL.arg g) (eL ay O) O O) ?_
   refine oY O (yM (A:=Aa) (j:=(Int.toNat r.2*3)) [vI ((rdL p0 r.2).fID),vI ((rdL p0 r.2).fLevel),vI ((rdL p0 r.2).fCost)] ag_97 (Nat.succ_pos _) (RdL.arg g) O (bR ay u.1 (av u.2 O))) ?_
   obtain⟨X,N,h⟩:=bOs h
   refine oY O (jH [.agg #[vI ((rdL p0 r.2).fID),vI ((rdL p0 r.2).fLevel),vI ((rdL p0 r.2).fCost)]] E O O (fun W2 o=>F W2 o.below (TN.mk ((rdL p0 r.2).fID) ((rdL p0 r.2).fLevel) ((rdL p0 r.2).fCost)) X N)) (oN (aa ?_))
   rcases iOs h with⟨D,h⟩|⟨D,h⟩
   ·refine cT (vB D) (cS (cR (oY O (yMI O) (oY O (yAI O) (oN (aa (aq (al (ab ?_)))))))))
    obtain rfl:=sI h
    exact aC ⟨O,_,O,(kp4 (kp O))⟩
   ·refine cF (vB D) (cK (au (aa (cR (oY O (bF O O) (oY O (yMI O) (oN ?_)))))))
    obtain rfl:=sI h
    exact eN ⟨_,O,(kp4 (kp O))⟩
  ·refine cF (vB w) (aJ (ak ?_))
   obtain rfl:=sI h
   exact aC ⟨O,_,O,(kp4 (kp O))⟩
 ·intro e L tm hJ
  rcases U with Q|Y
  ·dsimp only at h hJ
   obtain⟨rfl,G,rfl,rfl⟩:=hJ
   refine⟨(by intro hc;cases hc),?_⟩
   refine al (ab ?_)
   obtain rfl:=sI h
   exact ao (.inl O) O (rVt (v:=vI Q.1) O) (fun W2 o=>⟨O,o.none⟩)
  ·dsimp only at h hJ
   obtain⟨rfl,H,rfl,rfl⟩:=hJ
   refine⟨(by intro hc;cases hc),?_⟩
   refine ai (aa (cS (cR (oY O (yAI O) (oN (aa (aq ?_)))))))
   obtain rfl:=sI h
   exact ao (.inl O) O (rVt (v:=vI (-1)) O) (fun W2 o=>⟨O,o.none⟩)
theorem oI (p0:TN) (f:Int) (res:Bool) (h:dS p0 f=some res) (W:World) (g:Nat) (o:Rd W (some ⟨g,0,none⟩) 1 1 (cI f)) :
  Calls Tryz.prog 120 [.agg #[vI p0.fID,vI p0.fLevel,vI p0.fCost],.pointer (some ⟨g,0,none⟩)].toArray W fun e W2=>e=.returned (.bool res)∧Ext W W2 []:=by
 unfold dS at h
 refine ah (m:=8) Tryz.func120 O O (nB O) (cS (cR ?_))
 refine aO [vI p0.fID,vI p0.fLevel,vI p0.fCost] O O O (fun u=>?_)
 refine oY O (yAB O) (oN (aa (cS (cR (oY O (yFA g6 O) (oY O (yL 0 bW O O O) (oY O (yR (A:=(some ⟨g,0,none⟩)) (j:=0) (v:=vI f) bW (RdL.arg o) O O) (oY O (ge O O) (oY O (yAB O) (oN (aa (aq ?_))))))))))))
 obtain rfl:=sI h
 exact ao (.inl O) O (rVt (v:=.bool (p0.fID==f)) O) (fun W2 r=>⟨O,r.none⟩)
theorem el (p0:TL) (p1:Int) (res:Int) (h:cn p0 p1=some res) (W:World) (Aa:Option Addr) (f ca:Nat) (u:f=p0.fNo.length) (d:Rd W Aa f ca (encL TNode_cells p0.fNo)) (Ab:Option Addr) (g cb:Nat) (o:List (Hd × TC)) (w:g=p0.fC.length) (E:Rd W Ab g cb (encL TClaim_cells2 o)) (F:NestW W (fun z:TC=>z.fO) THop_cells o p0.fC) :
  Calls Tryz.prog 62 [.agg #[.slice Aa f ca,.slice Ab g cb],vI p1].toArray W fun e W2=>e=.returned (vI res)∧Ext W W2 []:=by
 subst u
 subst w
 unfold cn at h
 refine ah (m:=9) Tryz.func62 O O (nB O) (cS (cR ?_))
 refine aO [.slice Aa p0.fNo.length ca,.slice Ab p0.fC.length cb] O O O (fun K=>?_)
 refine aO [vI p1] O O O (fun D=>?_)
 refine oY O (yAI O) (oN (aa (cS (cR (oY O (yFA cJ O) (oY O (yL 0 iM O O O) (oY O (fQ [.pointer (some ⟨D,0,none⟩)] O O) ?_)))))))
 obtain⟨H,G,h⟩:=bOs h
 refine oY O (yC [.slice Aa p0.fNo.length ca,.func (.func 120) #[] #[.pointer (some ⟨D,0,none⟩)]] go_119 O (fun W2 r=>kn p0.fNo (fun I=>dS I p1) H G W2 Aa p0.fNo.length ca O ((RdL.arg d) W2 r) 120 [] [.pointer (some ⟨D,0,none⟩)] go_120 (fun W3 hb x y hxy=>oI  x p1 y hxy W3 D (((RdL.cells 1 O) W2 r).later hb))) O) (oY O (yAI O) (oN (aa (aq ?_))))
 obtain rfl:=sI h
 exact ao (.inl O) O (rVt (v:=vI H) O) (fun W2 r=>⟨O,r.none⟩)
theorem fp (p0:(List TC)) (p1:TC→Option Bool) (res:Int) (h:aS p0 p1=some res) (W:World) (Aa:Option Addr) (d ca:Nat) (f:List (Hd × TC)) (D:d=p0.length) (w:Rd W Aa d ca (encL TClaim_cells2 f)) (g:NestW W (fun z:TC=>z.fO) THop_cells f p0) (fid1:Nat) (fst1 caps1:List Value) (G:cN Tryz.prog fid1=true) (H:∀W2,Below W.heap.size W W2→∀x,∀(hx:Hd),Rd W2 hx.1 x.fO.length hx.2.2 (encL THop_cells x.fO)→∀y,p1 x=some y→Calls Tryz.prog fid1 (fst1++(([.agg #[vI x.fID,.slice hx.1 x.fO.length hx.2.2]]:List Value)++caps1)).toArray W2 fun e W3=>e=.returned (.bool y)∧Ext W2 W3 []) :
  Calls Tryz.prog 139 [.slice Aa d ca,.func (.func fid1) fst1.toArray caps1.toArray].toArray W fun e W2=>e=.returned (vI res)∧Ext W W2 []:=by
 subst D
 unfold aS at h
 refine ah (m:=19) Tryz.func139 O O (nB O) (cS (cR (oY O (yAI O) (oN (aa (cS (cS (cR (oY O (yMS O) (oY O (a8 (us:=[]) kj O) (oY O (yMI O) (oN (aa (ae ?_))))))))))))))
 obtain⟨Y,N,h⟩:=bOs h
 refine cC (fun(s:(Int × Int)) L tm=>∃(Q:Nat→Value),L=[]∧tm=(upd (upd (upd (upd (upd Q 0 (.slice Aa p0.length ca)) 1 (.func (.func fid1) fst1.toArray caps1.toArray)) 4 (vI s.1)) 7 (vI (p0.length:Int))) 8 (vI s.2))) 0 N ⟨_,O,(kp4 (kp O))⟩ ?_ ?_
 ·rintro r L tm st ⟨M,rfl,rfl⟩ h
  unfold aM at h
  refine cS (cR (oY O (bN O O) (oN (aa (cS ?_)))))
  rcases iOs h with⟨E,h⟩|⟨E,h⟩
  ·refine cT (vB E) (cK (aa (cS (ae (cS (cR (oY O (yMI O) (oY O (yAI O) (oN (aa (cS (cR (oY O (iP (v:=.func (.func fid1) fst1.toArray caps1.toArray) O) (oY O (yMS O) (oY O (yMI O) ?_)))))))))))))))
   obtain⟨o,h⟩:=gOs h
   refine oY O (yI kx (by decide) o.1 o.2 (RdL.arg w) (eL ad (NestP.hn g.p O)) O O) ?_
   refine oY O (yM (A:=Aa) (j:=(Int.toNat r.2*2)) [vI ((rdL p0 r.2).fID),.slice ((rdL f r.2).1.1) ((rdL p0 r.2).fO.length) ((rdL f r.2).1.2.2)] ag_90 (Nat.succ_pos _) (RdL.arg w) O (nI (dD (NestP.snd g.p r.2) (NestP.len g.p o.1 (av o.2 O))).symm (bR ad o.1 (av o.2 (NestP.hn g.p O))))) ?_
   obtain⟨Z,U,h⟩:=bOs h
   refine oY O (jH [.agg #[vI ((rdL p0 r.2).fID),.slice ((rdL f r.2).1.1) ((rdL p0 r.2).fO.length) ((rdL f r.2).1.2.2)]] G O O (fun W2 u=>H W2 u.below (TC.mk ((rdL p0 r.2).fID) ((rdL p0 r.2).fO)) ((rdL f r.2).1.1,0,(rdL f r.2).1.2.2) ((NestL.rd (NestL.arg g) o.1 (av o.2 O)) W2 u) Z U)) (oN (aa ?_))
   rcases iOs h with⟨F,h⟩|⟨F,h⟩
   ·refine cT (vB F) (cS (cR (oY O (yMI O) (oY O (yAI O) (oN (aa (aq (al (ab ?_)))))))))
    obtain rfl:=sI h
    exact aC ⟨O,_,O,(kp4 (kp O))⟩
   ·refine cF (vB F) (cK (au (aa (cR (oY O (bF O O) (oY O (yMI O) (oN ?_)))))))
    obtain rfl:=sI h
    exact eN ⟨_,O,(kp4 (kp O))⟩
  ·refine cF (vB E) (aJ (ak ?_))
   obtain rfl:=sI h
   exact aC ⟨O,_,O,(kp4 (kp O))⟩
 ·intro e L tm hJ
  rcases Y with X|V
  ·dsimp only at h hJ
   obtain⟨rfl,I,rfl,rfl⟩:=hJ
   refine⟨(by intro hc;cases hc),?_⟩
   refine al (ab ?_)
   obtain rfl:=sI h
   exact ao (.inl O) O (rVt (v:=vI X.1) O) (fun W2 u=>⟨O,u.none⟩)
  ·dsimp only at h hJ
   obtain⟨rfl,K,rfl,rfl⟩:=hJ
   refine⟨(by intro hc;cases hc),?_⟩
   refine ai (aa (cS (cR (oY O (yAI O) (oN (aa (aq ?_)))))))
   obtain rfl:=sI h
   exact ao (.inl O) O (rVt (v:=vI (-1)) O) (fun W2 u=>⟨O,u.none⟩)
theorem n3 (p0:TC) (f:Int) (res:Bool) (h:dW p0 f=some res) (W:World) (Ab:Option Addr) (g cb:Nat) (o:g=p0.fO.length) (d:Rd W Ab g cb (encL THop_cells p0.fO)) (r:Nat) (u:Rd W (some ⟨r,0,none⟩) 1 1 (cI f)) :
  Calls Tryz.prog 144 [.agg #[vI p0.fID,.slice Ab g cb],.pointer (some ⟨r,0,none⟩)].toArray W fun e W2=>e=.returned (.bool res)∧Ext W W2 []:=by
 subst o
 unfold dW at h
 refine ah (m:=8) Tryz.func144 O O (nB O) (cS (cR ?_))
 refine aO [vI p0.fID,.slice Ab p0.fO.length cb] O O O (fun D=>?_)
 refine oY O (yAB O) (oN (aa (cS (cR (oY O (yFA kk O) (oY O (yL 0 bW O O O) (oY O (yR (A:=(some ⟨r,0,none⟩)) (j:=0) (v:=vI f) bW (RdL.arg u) O O) (oY O (ge O O) (oY O (yAB O) (oN (aa (aq ?_))))))))))))
 obtain rfl:=sI h
 exact ao (.inl O) O (rVt (v:=.bool (p0.fID==f)) O) (fun W2 w=>⟨O,w.none⟩)
theorem ke (p0:TL) (p1:Int) (res:Int) (h:dH p0 p1=some res) (W:World) (Aa:Option Addr) (g ca:Nat) (u:g=p0.fNo.length) (F:Rd W Aa g ca (encL TNode_cells p0.fNo)) (Ab:Option Addr) (o cb:Nat) (f:List (Hd × TC)) (d:o=p0.fC.length) (w:Rd W Ab o cb (encL TClaim_cells2 f)) (D:NestW W (fun z:TC=>z.fO) THop_cells f p0.fC) :
  Calls Tryz.prog 114 [.agg #[.slice Aa g ca,.slice Ab o cb],vI p1].toArray W fun e W2=>e=.returned (vI res)∧Ext W W2 []:=by
 subst u
 subst d
 unfold dH at h
 refine ah (m:=9) Tryz.func114 O O (nB O) (cS (cR ?_))
 refine aO [.slice Aa p0.fNo.length ca,.slice Ab p0.fC.length cb] O O O (fun K=>?_)
 refine aO [vI p1] O O O (fun E=>?_)
 refine oY O (yAI O) (oN (aa (cS (cR (oY O (yFA bp O) (oY O (yL 0 eZ O O O) (oY O (fQ [.pointer (some ⟨E,0,none⟩)] O O) ?_)))))))
 obtain⟨H,G,h⟩:=bOs h
 refine oY O (yC [.slice Ab p0.fC.length cb,.func (.func 144) #[] #[.pointer (some ⟨E,0,none⟩)]] go_139 O (fun W2 r=>fp p0.fC (fun I=>dW I p1) H G W2 Ab p0.fC.length cb f O ((RdL.arg w) W2 r) (NestL.at (NestL.arg D) W2 r) 144 [] [.pointer (some ⟨E,0,none⟩)] go_144 (fun W3 hb x hx rx y hxy=>n3  x p1 y hxy W3 hx.1 _ hx.2.2 O rx E (((RdL.cells 1 O) W2 r).later hb))) O) (oY O (yAI O) (oN (aa (aq ?_))))
 obtain rfl:=sI h
 exact ao (.inl O) O (rVt (v:=vI H) O) (fun W2 r=>⟨O,r.none⟩)
theorem eh (p0:Int) (p1:Int) (p2:Int) (res:Bool) (h:cp p0 p1 p2=some res) (W:World)  :
  Calls Tryz.prog 117 [vI p0,vI p1,vI p2].toArray W fun e W2=>e=.returned (.bool res)∧Ext W W2 []:=by
 unfold cp at h
 refine ah (m:=15) Tryz.func117 O O (nB O) (cS (cR (oY O (yAB O) (oN (aa (cS (cR (oY O (yMI O) (oY O (yMI O) (oY O (pO O O) (oY O (yMB O) ?_)))))))))))
 refine oJ 4 (fun g=>(upd (upd g 6 (.bool false)) 14 (.bool ((decide (p1≤p0))&&(decide (p0≤p2)))))) (fun g=>?_) (fun key=>?_)
 ·refine oY O (yAB O) (oN (aa (aq ?_)))
  obtain rfl:=sI h
  exact ao (.inl O) O (rVt (v:=.bool ((decide (p1≤p0))&&(decide (p0≤p2)))) O) (fun W2 o=>⟨O,o.none⟩)
 ·rcases aD (decide (p1≤p0))with f|f
  ·refine oY (sT O O O O f) (yMI O) (oY (sT O O O O f) (yMI O) (oY (sT O O O O f) (pO O O) (oY O (ar (vB f) O) ?_)))
   exact key _ _ (keep (keep O O) (vB (mq f)))
  ·refine oSk (sF O O O O f) (oSk (sF O O O O f) (oSk (sF O O O O f) (oY O (ap (vB f) O) ?_)))
   exact key _ _ (keep (keep O O) (vB (mb f)))
theorem mG (p0:(List TH)) (p1:TH) (res:Int) (h:bZ p0 p1=some res) (W:World) (Aa:Option Addr) (f ca:Nat) (r:f=p0.length) (g:Rd W Aa f ca (encL THop_cells p0)) :
  Calls Tryz.prog 162 [.slice Aa f ca,.agg #[vI p1.fFrom,vI p1.fTo]].toArray W fun e W2=>e=.returned (vI res)∧Ext W W2 []:=by
 subst r
 unfold bZ at h
 refine ah (m:=19) Tryz.func162 O O (nB O) (cS (cR ?_))
 refine aO [vI p1.fFrom,vI p1.fTo] O O O (fun K=>?_)
 refine oY O (yAI O) (oN (aa (cS (cS (cR (oY O (yMS O) (oY O (a8 (us:=[]) lJ O) (oY O (yMI O) (oN (aa (ae ?_)))))))))))
 obtain⟨M,H,h⟩:=bOs h
 refine cC (fun(s:(Int × Int)) L tm=>∃(I:Nat→Value),L=[aj K 111 [vI p1.fFrom,vI p1.fTo]]∧tm=(upd (upd (upd (upd (upd I 0 (.slice Aa p0.length ca)) 3 (.pointer (some ⟨K,0,none⟩))) 4 (vI s.1)) 7 (vI (p0.length:Int))) 8 (vI s.2))) 0 H ⟨_,O,(kp4 (kp O))⟩ ?_ ?_
 ·rintro D L tm st ⟨F,rfl,rfl⟩ h
  unfold bi at h
  refine cS (cR (oY O (bN O O) (oN (aa (cS ?_)))))
  rcases iOs h with⟨u,h⟩|⟨u,h⟩
  ·refine cT (vB u) (cK (aa (cS (ae (cS (cR (oY O (yMI O) (oY O (yAI O) (oN (aa (cS ?_)))))))))))
   refine bl 6 di (by kernel_rfl) (by kernel_rfl) ?_
   refine qY O (yN 0 [vI p1.fFrom,vI p1.fTo] mN O O O) (qY O (yMS O) (qY O (yMI O) ?_))
   obtain⟨o,h⟩:=gOs h
   refine qY O (yI nF (by decide) o.1 o.2 (RdL.arg g) (eL aA O) O O) ?_
   refine qY O (yM (A:=Aa) (j:=(Int.toNat D.2*2)) [vI ((rdL p0 D.2).fFrom),vI ((rdL p0 D.2).fTo)] mN (Nat.succ_pos _) (RdL.arg g) O (bR aA o.1 (av o.2 O))) (qY O (y_eqla (b:=((p1.fFrom==(rdL p0 D.2).fFrom)&&(p1.fTo==(rdL p0 D.2).fTo))) eg_111 O O (fun _=>(eqS2 fl_111 (qb bW O) (qb bW O) (qb bW O) (qb bW O) (run_equalIn_int _ _ _ _ _ _ _ ui_3) (run_equalIn_int _ _ _ _ _ _ _ ui_3)))) (dq (oN (aa ?_))))
   rcases iOs h with⟨d,h⟩|⟨d,h⟩
   ·refine cT (vB d) (cS (cR (oY O (yMI O) (oY O (yAI O) (oN (aa (aq (al (ab ?_)))))))))
    obtain rfl:=sI h
    exact aC ⟨O,_,O,(kp4 (kp O))⟩
   ·refine cF (vB d) (cK (au (aa (cR (oY O (bF O O) (oY O (yMI O) (oN ?_)))))))
    obtain rfl:=sI h
    exact eN ⟨_,O,(kp4 (kp O))⟩
  ·refine cF (vB u) (aJ (ak ?_))
   obtain rfl:=sI h
   exact aC ⟨O,_,O,(kp4 (kp O))⟩
 ·intro e L tm hJ
  rcases M with N|Q
  ·dsimp only at h hJ
   obtain⟨rfl,G,rfl,rfl⟩:=hJ
   refine⟨(by intro hc;cases hc),?_⟩
   refine al (ab ?_)
   obtain rfl:=sI h
   exact ao (.inl O) O (rVt (v:=vI N.1) O) (fun W2 w=>⟨O,w.none⟩)
  ·dsimp only at h hJ
   obtain⟨rfl,E,rfl,rfl⟩:=hJ
   refine⟨(by intro hc;cases hc),?_⟩
   refine ai (aa (cS (cR (oY O (yAI O) (oN (aa (aq ?_)))))))
   obtain rfl:=sI h
   exact ao (.inl O) O (rVt (v:=vI (-1)) O) (fun W2 w=>⟨O,w.none⟩)
theorem lK (p0:(List TH)) (p1:TH) (res:Bool) (h:bG p0 p1=some res) (W:World) (Aa:Option Addr) (f ca:Nat) (g:f=p0.length) (o:Rd W Aa f ca (encL THop_cells p0)) :
  Calls Tryz.prog 146 [.slice Aa f ca,.agg #[vI p1.fFrom,vI p1.fTo]].toArray W fun e W2=>e=.returned (.bool res)∧Ext W W2 []:=by
 subst g
 unfold bG at h
 refine ah (m:=9) Tryz.func146 O O (nB O) (cS (cR ?_))
 refine aO [vI p1.fFrom,vI p1.fTo] O O O (fun w=>?_)
 refine oY O (yAB O) (oN (aa (cS (cR (oY O (yMS O) (oY O (yN 0 [vI p1.fFrom,vI p1.fTo] mN O O O) ?_))))))
 obtain⟨d,u,h⟩:=bOs h
 refine oY O (yC [.slice Aa p0.length ca,.agg #[vI p1.fFrom,vI p1.fTo]] go_162 O (fun W2 r=>mG p0 p1 d u W2 Aa p0.length ca O ((RdL.arg o) W2 r)) O) (oY O (rL O O) (oY O (yAB O) (oN (aa (aq ?_)))))
 obtain rfl:=sI h
 exact ao (.inl O) O (rVt (v:=.bool (decide (0≤d))) O) (fun W2 r=>⟨O,r.none⟩)
theorem pu (p0:TL) (p1:(List TH)) (res:Bool) (h:eQ p0 p1=some res) (W:World) (Aa:Option Addr) (M ca:Nat) (V:M=p0.fNo.length) (d:Rd W Aa M ca (encL TNode_cells p0.fNo)) (Ab:Option Addr) (N cb:Nat) (D:List (Hd × TC)) (T:N=p0.fC.length) (Q:Rd W Ab N cb (encL TClaim_cells2 D)) (U:NestW W (fun z:TC=>z.fO) THop_cells D p0.fC) (Ac:Option Addr) (X cc:Nat) (S:X=p1.length) (E:Rd W Ac X cc (encL THop_cells p1)) :
  Calls Tryz.prog 118 [.agg #[.slice Aa M ca,.slice Ab N cb],.slice Ac X cc].toArray W fun e W2=>e=.returned (.bool res)∧Ext W W2 []:=by
 subst V
 subst T
 subst S
 unfold eQ at h
 refine ah (m:=57) Tryz.func118 O O (nB O) (cS (cR ?_))
 refine aO [.slice Aa p0.fNo.length ca,.slice Ab p0.fC.length cb] O O O (fun n=>?_)
 refine oY O (yAB O) (oN (aa (cS (cS (cR (oY O (yMS O) (oY O (a8 (us:=[]) lJ O) ?_)))))))
 obtain⟨y2,f0,h⟩:=bOs h
 refine oY O (yC [vI (p1.length:Int),vI 1,vI 4] r9 O (fun W2 o=>eh (p1.length:Int) 1 4 y2 f0 W2 ) O) (oY O (fa O) (oN (aa ?_)))
 rcases iOs h with⟨R,h⟩|⟨R,h⟩
 ·refine cT (vB R) (cS (cR (oY O (yAB O) (oN (aa (aq (ab ?_)))))))
  obtain rfl:=sI h
  exact ao (.inl O) O (rVt (v:=.bool false) O) (fun W2 o=>⟨O,o.none⟩)
 ·refine cF (vB R) (cK (aa (cS (cS (cR (oY O (yMS O) (oY O (a8 (us:=[]) lJ O) (oY O (yMI O) (oN (aa (ae ?_)))))))))))
  obtain⟨u7,l,h⟩:=bOs h
  refine cC (fun(s:(Bool × Int)) L tm=>∃(w:Nat→Value),L=[aj n 25 [.slice Aa p0.fNo.length ca,.slice Ab p0.fC.length cb]]∧tm=(upd (upd (upd (upd (upd (upd w 1 (.slice Ac p1.length cc)) 2 (.pointer (some ⟨n,0,none⟩))) 4 (.bool s.1)) 13 (.slice Ac p1.length cc)) 14 (vI (p1.length:Int))) 15 (vI s.2))) 0 l ⟨_,O,(kp4 (kp (kp O)))⟩ ?_ ?_
  ·rintro r L tm st ⟨c,rfl,rfl⟩ h
   unfold cz at h
   refine cS (cR (oY O (bN O O) (oN (aa (cS ?_)))))
   rcases iOs h with⟨q,h⟩|⟨q,h⟩
   ·refine cT (vB q) (cK (aa (cS (ae (cS (cR (oY O (yMI O) ?_)))))))
    obtain⟨Z,h⟩:=gOs h
    refine oY O (yI nF (by decide) Z.1 Z.2 (RdL.arg E) (eL aA O) O O) ?_
    refine oY O (yM (A:=Ac) (j:=(Int.toNat r.2*2)) [vI ((rdL p1 r.2).fFrom),vI ((rdL p1 r.2).fTo)] mN (Nat.succ_pos _) (RdL.arg E) O (bR aA Z.1 (av Z.2 O))) ?_
    refine aT jd O (fun p=>?_)
    refine oY O (yAI O) (d9 O (yS 1 [vI ((rdL p1 r.2).fFrom),vI ((rdL p1 r.2).fTo)] se O (nB O) O O O) (oN (aa (cS ?_))))
    refine bl 10 di (by kernel_rfl) (by kernel_rfl) ?_
    refine qY O (yN 0 [.slice Aa p0.fNo.length ca,.slice Ab p0.fC.length cb] aR O O O) (qY O (yFA iX O) (qY O (yL 1 bW O O O) ?_))
    obtain⟨F,t,h⟩:=bOs h
    refine qY O (yC [.agg #[.slice Aa p0.fNo.length ca,.slice Ab p0.fC.length cb],vI ((rdL p1 r.2).fFrom)] go_62 O (fun W2 o=>el p0 ((rdL p1 r.2).fFrom) F t W2 Aa p0.fNo.length ca O ((RdL.arg d) W2 o) Ab p0.fC.length cb D O ((RdL.arg Q) W2 o) (NestL.at (NestL.arg U) W2 o)) O) (qY O (yN 0 [.slice Aa p0.fNo.length ca,.slice Ab p0.fC.length cb] aR O O O) (qY O (yFA lO O) (qY O (yL 1 bW O O O) ?_)))
    obtain⟨G,a,h⟩:=bOs h
    refine qY O (yC [.agg #[.slice Aa p0.fNo.length ca,.slice Ab p0.fC.length cb],vI ((rdL p1 r.2).fTo)] go_62 O (fun W2 o=>el p0 ((rdL p1 r.2).fTo) G a W2 Aa p0.fNo.length ca O ((RdL.arg d) W2 o) Ab p0.fC.length cb D O ((RdL.arg Q) W2 o) (NestL.at (NestL.arg U) W2 o)) O) (qY O (yAI O) (qY O (yAI O) (dq (oN (aa (cS ?_))))))
    refine bl 28 di (by kernel_rfl) (by kernel_rfl) ?_
    refine qY O (yMI O) (qY O (bN O O) (qY O (yMB O) ?_))
    refine qJ 3 (fun w=>(upd (upd (upd (upd (upd (upd (upd (upd (upd (upd (upd (upd w 1 (.slice Ac p1.length cc)) 2 (.pointer (some ⟨n,0,none⟩))) 4 (.bool r.1)) 13 (.slice Ac p1.length cc)) 14 (vI (p1.length:Int))) 15 (vI r.2)) 16 (.bool (decide (r.2<(p1.length:Int))))) 6 (.pointer (some ⟨p,0,none⟩))) 5 (vI r.2)) 7 (vI F)) 8 (vI G)) 33 (.bool ((decide (F<0))||(decide (G<0)))))) (fun w=>?_) (fun key=>?_)
    ·refine qY O (yMB O) ?_
     obtain⟨f1,i,h⟩:=bOs h
     refine qJ 14 (fun w=>(upd (upd (upd (upd (upd (upd (upd (upd (upd (upd (upd (upd w 1 (.slice Ac p1.length cc)) 2 (.pointer (some ⟨n,0,none⟩))) 4 (.bool r.1)) 13 (.slice Ac p1.length cc)) 14 (vI (p1.length:Int))) 15 (vI r.2)) 16 (.bool (decide (r.2<(p1.length:Int))))) 6 (.pointer (some ⟨p,0,none⟩))) 5 (vI r.2)) 7 (vI F)) 8 (vI G)) 48 (.bool f1))) (fun w=>?_) (fun key=>?_)
     ·refine qY O (yMB O) ?_
      obtain⟨f2,k,h⟩:=bOs h
      refine qJ 6 (fun w=>(upd (upd (upd (upd (upd (upd (upd (upd (upd (upd (upd (upd w 1 (.slice Ac p1.length cc)) 2 (.pointer (some ⟨n,0,none⟩))) 4 (.bool r.1)) 13 (.slice Ac p1.length cc)) 14 (vI (p1.length:Int))) 15 (vI r.2)) 16 (.bool (decide (r.2<(p1.length:Int))))) 6 (.pointer (some ⟨p,0,none⟩))) 5 (vI r.2)) 7 (vI F)) 8 (vI G)) 55 (.bool f2))) (fun w=>?_) (fun key=>?_)
      ·refine dq (oN (aa ?_))
       rcases iOs h with⟨Y,h⟩|⟨Y,h⟩
       ·refine cT (vB Y) (cS (cR (oY O (yAB O) (oN (aa (aq (al (ab (aX 1 ?_)))))))))
        obtain rfl:=sI h
        exact aC ⟨O,_,O,(kp4 (kp (kp O)))⟩
       ·refine cF (vB Y) (cK (au (aa (cR (oY O (bF O O) (oY O (yMI O) (oN (aX 1 ?_))))))))
        obtain rfl:=sI h
        exact eN ⟨_,O,(kp4 (kp (kp O)))⟩
      ·clear h;rcases iOs k with⟨g,h⟩|⟨g,h⟩
       ·refine am (sF O O O O g) (am (sF O O O O g) (am (sF O O O O g) (am (sF O O O O g) (am (sF O O O O g) (qY O (ar (vB g) O) ?_)))))
        obtain rfl:=sI h
        exact key _ _ (kp4 (kp4 (kp4 O)))
       ·refine qY (sT O O O O g) (yMS O) (qY (sT O O O O g) (yMI O) ?_)
        obtain⟨H,h⟩:=gOs h
        refine qY (sT O O O O g) (y_cutH nF H.1 H.2 (RdL.arg E) O O) (qY (sT O O O O g) (yN 1 [vI ((rdL p1 r.2).fFrom),vI ((rdL p1 r.2).fTo)] mN O O O) ?_)
        obtain⟨f3,x,h⟩:=bOs h
        refine qY (sT O O O O g) (yC [.slice Ac (Int.toNat r.2) cc,.agg #[vI ((rdL p1 r.2).fFrom),vI ((rdL p1 r.2).fTo)]] go_146 O (fun W2 o=>lK (p1.take (Int.toNat r.2)) (TH.mk ((rdL p1 r.2).fFrom) ((rdL p1 r.2).fTo)) f3 x W2 Ac (Int.toNat r.2) cc (cutH_len H.2 O) ((RdL.cutH aA (RdL.arg E) H.1 H.2) W2 o)) O) (qY O (ap (vB g) O) ?_)
        obtain rfl:=sI h
        exact key _ _ (kp4 (kp4 (kp4 O)))
     ·clear h;rcases iOs i with⟨f,h⟩|⟨f,h⟩
      ·refine am (sF O O O O f) (am (sF O O O O f) (am (sF O O O O f) (am (sF O O O O f) (am (sF O O O O f) (am (sF O O O O f) (am (sF O O O O f) (am (sF O O O O f) (am (sF O O O O f) (am (sF O O O O f) (am (sF O O O O f) (am (sF O O O O f) (am (sF O O O O f) (qY O (ar (vB f) O) ?_)))))))))))))
       obtain rfl:=sI h
       exact key _ _ (kp4 (kp4 (kp4 O)))
      ·refine qY (sT O O O O f) (yFA cJ O) (qY (sT O O O O f) (yL 0 iM O O O) (qY (sT O O O O f) (yMI O) ?_))
       obtain⟨I,h⟩:=gOs h
       refine qY (sT O O O O f) (yI nG (by decide) I.1 I.2 (RdL.arg d) (eL ay O) O O) ?_
       refine qY (sT O O O O f) (yFR (A:=Aa) (j:=(Int.toNat F*3)) lX O) (qY (sT O O O O f) (yR (A:=Aa) (j:=((Int.toNat F*3)+1)) (v:=vI ((rdL p0.fNo F).fLevel)) bW (RdL.arg d) O (eG ay I.1 (av I.2 O) O)) (qY (sT O O O O f) (yFA cJ O) (qY (sT O O O O f) (yL 0 iM O O O) (qY (sT O O O O f) (yMI O) ?_))))
       obtain⟨K,h⟩:=gOs h
       refine qY (sT O O O O f) (yI nG (by decide) K.1 K.2 (RdL.arg d) (eL ay O) O O) ?_
       refine qY (sT O O O O f) (yFR (A:=Aa) (j:=(Int.toNat G*3)) lX O) (qY (sT O O O O f) (yR (A:=Aa) (j:=((Int.toNat G*3)+1)) (v:=vI ((rdL p0.fNo G).fLevel)) bW (RdL.arg d) O (eG ay K.1 (av K.2 O) O)) (qY (sT O O O O f) (rL O O) (qY O (ap (vB f) O) ?_)))
       obtain rfl:=sI h
       exact key _ _ (kp4 (kp4 (kp4 O)))
    ·rcases aD (decide (F<0))with u|u
     ·refine am (sF O O O O u) (am (sF O O O O u) (qY O (ar (vB u) O) ?_))
      exact key _ _ (keep (keep (keep (keep (keep (keep (keep (keep (keep (keep (keep (keep O O) O) O) O) O) O) O) O) O) O) O) (vB (pH u)))
     ·refine qY (sT O O O O u) (yMI O) (qY (sT O O O O u) (bN O O) (qY O (ap (vB u) O) ?_))
      exact key _ _ (keep (keep (keep (keep (keep (keep (keep (keep (keep (keep (keep (keep O O) O) O) O) O) O) O) O) O) O) O) (vB (pL u)))
   ·refine cF (vB q) (aJ (ak ?_))
    obtain rfl:=sI h
    exact aC ⟨O,_,O,(kp4 (kp (kp O)))⟩
  ·intro e L tm hJ
   rcases u7 with f4|fd
   ·dsimp only at h hJ
    obtain⟨rfl,y,rfl,rfl⟩:=hJ
    refine⟨(by intro hc;cases hc),?_⟩
    refine al (ab ?_)
    obtain rfl:=sI h
    exact ao (.inl O) O (rVt (v:=.bool f4.1) O) (fun W2 o=>⟨O,o.none⟩)
   ·dsimp only at h hJ
    obtain⟨rfl,b,rfl,rfl⟩:=hJ
    refine⟨(by intro hc;cases hc),?_⟩
    refine ai (aa (cS (cR (oY O (yAB O) (oN (aa (aq ?_)))))))
    obtain rfl:=sI h
    exact ao (.inl O) O (rVt (v:=.bool true) O) (fun W2 o=>⟨O,o.none⟩)
theorem lc (p0:TL) (res:Int) (h:eJ p0=some res) (W:World) (Aa:Option Addr) (K ca:Nat) (S:K=p0.fNo.length) (G:Rd W Aa K ca (encL TNode_cells p0.fNo)) (Ab:Option Addr) (M cb:Nat) (f:List (Hd × TC)) (R:M=p0.fC.length) (H:Rd W Ab M cb (encL TClaim_cells2 f)) (u:NestW W (fun z:TC=>z.fO) THop_cells f p0.fC) :
  Calls Tryz.prog 61 [.agg #[.slice Aa K ca,.slice Ab M cb]].toArray W fun e W2=>e=.returned (vI res)∧Ext W W2 []:=by
 subst S
 subst R
 unfold eJ at h
 refine ah (m:=83) Tryz.func61 O O (nB O) (cS (cR ?_))
 refine aO [.slice Aa p0.fNo.length ca,.slice Ab p0.fC.length cb] O O O (fun T=>?_)
 refine oY O (yAI O) (oN (aa (cS (cS (cR (oY O (yFA cJ O) (oY O (yL 0 iM O O O) (oY O (a8 (us:=[]) lM O) (oY O (i8 O O) (oY O (yMB O) ?_))))))))))
 refine oJ 5 (fun D=>(upd (upd (upd D 1 (.pointer (some ⟨T,0,none⟩))) 2 (vI 0)) 17 (.bool ((decide (60<(p0.fNo.length:Int)))||(decide (80<(p0.fC.length:Int))))))) (fun D=>?_) (fun key=>?_)
 ·refine oN (aa ?_)
  rcases iOs h with⟨q,h⟩|⟨q,h⟩
  ·refine cT (vB q) (cS (cR (oY O (yAI O) (oN (aa (aq (ab ?_)))))))
   obtain rfl:=sI h
   exact ao (.inl O) O (rVt (v:=vI 2) O) (fun W2 g=>⟨O,g.none⟩)
  ·refine cF (vB q) (cK (aa (cS (cS (cR (oY O (yFA cJ O) (oY O (yL 0 iM O O O) (oY O (a8 (us:=[]) lM O) (oY O (yMI O) (oN (aa (ae ?_))))))))))))
   obtain⟨u6,l,h⟩:=bOs h
   refine cC (fun(s:(Int × Int)) L tm=>∃(D:Nat→Value),L=[aj T 25 [.slice Aa p0.fNo.length ca,.slice Ab p0.fC.length cb]]∧tm=(upd (upd (upd (upd (upd D 1 (.pointer (some ⟨T,0,none⟩))) 2 (vI s.1)) 19 (.slice Aa p0.fNo.length ca)) 20 (vI (p0.fNo.length:Int))) 21 (vI s.2))) 0 l ⟨_,O,(kp4 (kp O))⟩ ?_ ?_
   ·rintro I L tm st ⟨fE,rfl,rfl⟩ h
    unfold dg at h
    refine cS (cR (oY O (bN O O) (oN (aa (cS ?_)))))
    rcases iOs h with⟨n,h⟩|⟨n,h⟩
    ·refine cT (vB n) (cK (aa (cS (ae (cS (cR (oY O (yMI O) ?_)))))))
     obtain⟨V,h⟩:=gOs h
     refine oY O (yI nG (by decide) V.1 V.2 (RdL.arg G) (eL ay O) O O) ?_
     refine oY O (yM (A:=Aa) (j:=(Int.toNat I.2*3)) [vI ((rdL p0.fNo I.2).fID),vI ((rdL p0.fNo I.2).fLevel),vI ((rdL p0.fNo I.2).fCost)] ag_97 (Nat.succ_pos _) (RdL.arg G) O (bR ay V.1 (av V.2 O))) ?_
     refine aT nO O (fun b9=>?_)
     refine oY O (yAI O) (d9 O (yS 1 [vI ((rdL p0.fNo I.2).fID),vI ((rdL p0.fNo I.2).fLevel),vI ((rdL p0.fNo I.2).fCost)] sz_97 O (nB O) O O O) (oN (aa (cS (cS (cR (oY O (yFA g6 O) (oY O (yL 1 bW O O O) ?_))))))))
     obtain⟨fN,t,h⟩:=bOs h
     refine oY O (yC [vI ((rdL p0.fNo I.2).fID),vI 1,vI 1099511627776] r9 O (fun W2 g=>eh ((rdL p0.fNo I.2).fID) 1 1099511627776 fN t W2 ) O) (oY O (fa O) (oY O (yMB O) ?_))
     obtain⟨fn,a,h⟩:=bOs h
     refine oJ 5 (fun D=>(upd (upd (upd (upd (upd (upd (upd (upd (upd D 1 (.pointer (some ⟨T,0,none⟩))) 2 (vI I.1)) 19 (.slice Aa p0.fNo.length ca)) 20 (vI (p0.fNo.length:Int))) 21 (vI I.2)) 22 (.bool (decide (I.2<(p0.fNo.length:Int))))) 4 (.pointer (some ⟨b9,0,none⟩))) 3 (vI I.2)) 35 (.bool fn))) (fun D=>?_) (fun key=>?_)
     ·refine oY O (yMB O) ?_
      obtain⟨fl,i,h⟩:=bOs h
      refine oJ 5 (fun D=>(upd (upd (upd (upd (upd (upd (upd (upd (upd D 1 (.pointer (some ⟨T,0,none⟩))) 2 (vI I.1)) 19 (.slice Aa p0.fNo.length ca)) 20 (vI (p0.fNo.length:Int))) 21 (vI I.2)) 22 (.bool (decide (I.2<(p0.fNo.length:Int))))) 4 (.pointer (some ⟨b9,0,none⟩))) 3 (vI I.2)) 41 (.bool fl))) (fun D=>?_) (fun key=>?_)
      ·refine oN (aa ?_)
       rcases iOs h with⟨N,h⟩|⟨N,h⟩
       ·refine cT (vB N) (cS (cR (oY O (yAI O) (oN (aa (aq (ab (al (ab (aX 1 ?_))))))))))
        obtain rfl:=sI h
        exact aC ⟨O,_,O,(kp4 (kp O))⟩
       ·refine cF (vB N) (cK (aa (cS (cR (oY O (yN 0 [.slice Aa p0.fNo.length ca,.slice Ab p0.fC.length cb] aR O O O) (oY O (yFA g6 O) (oY O (yL 1 bW O O O) ?_)))))))
        obtain⟨g1,k,h⟩:=bOs h
        refine oY O (yC [.agg #[.slice Aa p0.fNo.length ca,.slice Ab p0.fC.length cb],vI ((rdL p0.fNo I.2).fID)] go_62 O (fun W2 g=>el p0 ((rdL p0.fNo I.2).fID) g1 k W2 Aa p0.fNo.length ca O ((RdL.arg G) W2 g) Ab p0.fC.length cb f O ((RdL.arg H) W2 g) (NestL.at (NestL.arg u) W2 g)) O) (oY O (yMI O) (oY O (bN O O) (oN (aa ?_))))
        rcases iOs h with⟨Q,h⟩|⟨Q,h⟩
        ·refine cT (vB Q) (cS (cR (oY O (yAI O) (oN (aa (aq (al (ab (aX 1 ?_)))))))))
         obtain rfl:=sI h
         exact aC ⟨O,_,O,(kp4 (kp O))⟩
        ·refine cF (vB Q) (cK (au (aa (cR (oY O (bF O O) (oY O (yMI O) (oN (aX 1 ?_))))))))
         obtain rfl:=sI h
         exact eN ⟨_,O,(kp4 (kp O))⟩
      ·clear h;rcases iOs i with⟨d,h⟩|⟨d,h⟩
       ·refine oSk (sF O O O O d) (oSk (sF O O O O d) (oSk (sF O O O O d) (oSk (sF O O O O d) (oY O (ar (vB d) O) ?_))))
        obtain rfl:=sI h
        exact key _ _ (kp4 (kp4 (kp O)))
       ·refine oY (sT O O O O d) (yFA fo_97_2 O) (oY (sT O O O O d) (yL 1 bW O O O) ?_)
        obtain⟨g2,x,h⟩:=bOs h
        refine oY (sT O O O O d) (yC [vI ((rdL p0.fNo I.2).fCost),vI 0,vI 1073741824] r9 O (fun W2 g=>eh ((rdL p0.fNo I.2).fCost) 0 1073741824 g2 x W2 ) O) (oY (sT O O O O d) (fa O) (oY O (ap (vB d) O) ?_))
        obtain rfl:=sI h
        exact key _ _ (kp4 (kp4 (kp O)))
     ·clear h;rcases iOs a with⟨w,h⟩|⟨w,h⟩
      ·refine oSk (sF O O O O w) (oSk (sF O O O O w) (oSk (sF O O O O w) (oSk (sF O O O O w) (oY O (ar (vB w) O) ?_))))
       obtain rfl:=sI h
       exact key _ _ (kp4 (kp4 (kp O)))
      ·refine oY (sT O O O O w) (yFA lX O) (oY (sT O O O O w) (yL 1 bW O O O) ?_)
       obtain⟨g3,y,h⟩:=bOs h
       refine oY (sT O O O O w) (yC [vI ((rdL p0.fNo I.2).fLevel),vI 0,vI 9] r9 O (fun W2 g=>eh ((rdL p0.fNo I.2).fLevel) 0 9 g3 y W2 ) O) (oY (sT O O O O w) (fa O) (oY O (ap (vB w) O) ?_))
       obtain rfl:=sI h
       exact key _ _ (kp4 (kp4 (kp O)))
    ·refine cF (vB n) (aJ (ak ?_))
     obtain rfl:=sI h
     exact aC ⟨O,_,O,(kp4 (kp O))⟩
   ·intro e L tm hJ
    rcases u6 with gf|oi
    ·dsimp only at h hJ
     obtain⟨rfl,b,rfl,rfl⟩:=hJ
     refine⟨(by intro hc;cases hc),?_⟩
     refine al (ab ?_)
     obtain rfl:=sI h
     exact ao (.inl O) O (rVt (v:=vI gf.1) O) (fun W2 g=>⟨O,g.none⟩)
    ·dsimp only at h hJ
     obtain⟨rfl,c,rfl,rfl⟩:=hJ
     refine⟨(by intro hc;cases hc),?_⟩
     refine ai (aa (cS (cR (oY O (yAI O) (oN (aa (cS (cS (cR (oY O (yFA bp O) (oY O (yL 0 eZ O O O) (oY O (a8 (us:=[]) kj O) (oY O (yMI O) (oN (aa (ae ?_))))))))))))))))
     obtain⟨ga,f0,h⟩:=bOs h
     refine cC (fun(s:(Int × Int × Int)) L tm=>∃(D:Nat→Value),L=[aj T 25 [.slice Aa p0.fNo.length ca,.slice Ab p0.fC.length cb]]∧tm=(upd (upd (upd (upd (upd (upd D 1 (.pointer (some ⟨T,0,none⟩))) 2 (vI s.1)) 5 (vI s.2.1)) 50 (.slice Ab p0.fC.length cb)) 51 (vI (p0.fC.length:Int))) 52 (vI s.2.2))) 2 f0 ⟨_,O,(kp4 (kp (kp O)))⟩ ?_ ?_
     ·rintro o L tm st ⟨f1,rfl,rfl⟩ h
      unfold dr at h
      refine cS (cR (oY O (bN O O) (oN (aa (cS ?_)))))
      rcases iOs h with⟨U,h⟩|⟨U,h⟩
      ·refine cT (vB U) (cK (aa (cS (ae (cS (cR (oY O (yMI O) ?_)))))))
       obtain⟨F,h⟩:=gOs h
       refine oY O (yI kx (by decide) F.1 F.2 (RdL.arg H) (eL ad (NestP.hn u.p O)) O O) ?_
       refine oY O (yM (A:=Ab) (j:=(Int.toNat o.2.2*2)) [vI ((rdL p0.fC o.2.2).fID),.slice ((rdL f o.2.2).1.1) ((rdL p0.fC o.2.2).fO.length) ((rdL f o.2.2).1.2.2)] ag_90 (Nat.succ_pos _) (RdL.arg H) O (nI (dD (NestP.snd u.p o.2.2) (NestP.len u.p F.1 (av F.2 O))).symm (bR ad F.1 (av F.2 (NestP.hn u.p O))))) ?_
       refine aT qc O (fun gb=>?_)
       refine oY O (yAI O) (d9 O (yS 1 [vI ((rdL p0.fC o.2.2).fID),.slice ((rdL f o.2.2).1.1) ((rdL p0.fC o.2.2).fO.length) ((rdL f o.2.2).1.2.2)] sz_90 O (nB O) O O O) (oN (aa (cS (cS (cR (oY O (yFA kk O) (oY O (yL 1 bW O O O) ?_))))))))
       obtain⟨o0,f2,h⟩:=bOs h
       refine oY O (yC [vI ((rdL p0.fC o.2.2).fID),vI 1,vI 1099511627776] r9 O (fun W2 g=>eh ((rdL p0.fC o.2.2).fID) 1 1099511627776 o0 f2 W2 ) O) (oY O (fa O) (oY O (yMB O) ?_))
       obtain⟨o1,f3,h⟩:=bOs h
       refine oJ 6 (fun D=>(upd (upd (upd (upd (upd (upd (upd (upd (upd (upd D 1 (.pointer (some ⟨T,0,none⟩))) 2 (vI o.1)) 5 (vI o.2.1)) 50 (.slice Ab p0.fC.length cb)) 51 (vI (p0.fC.length:Int))) 52 (vI o.2.2)) 53 (.bool (decide (o.2.2<(p0.fC.length:Int))))) 7 (.pointer (some ⟨gb,0,none⟩))) 6 (vI o.2.2)) 67 (.bool o1))) (fun D=>?_) (fun key=>?_)
       ·refine oN (aa ?_)
        rcases iOs h with⟨X,h⟩|⟨X,h⟩
        ·refine cT (vB X) (cS (cR (oY O (yAI O) (oN (aa (aq (ab (al (ab (aX 1 ?_))))))))))
         obtain rfl:=sI h
         exact aC ⟨O,_,O,(kp4 (kp (kp O)))⟩
        ·refine cF (vB X) (cK (aa (cS (cS (cR (oY O (yN 0 [.slice Aa p0.fNo.length ca,.slice Ab p0.fC.length cb] aR O O O) (oY O (yFA kk O) (oY O (yL 1 bW O O O) ?_))))))))
         obtain⟨oq,f4,h⟩:=bOs h
         refine oY O (yC [.agg #[.slice Aa p0.fNo.length ca,.slice Ab p0.fC.length cb],vI ((rdL p0.fC o.2.2).fID)] go_114 O (fun W2 g=>ke p0 ((rdL p0.fC o.2.2).fID) oq f4 W2 Aa p0.fNo.length ca O ((RdL.arg G) W2 g) Ab p0.fC.length cb f O ((RdL.arg H) W2 g) (NestL.at (NestL.arg u) W2 g)) O) (oY O (yMI O) (oY O (bN O O) (oN (aa ?_))))
         rcases iOs h with⟨Y,h⟩|⟨Y,h⟩
         ·refine cT (vB Y) (cS (cR (oY O (yAI O) (oN (aa (aq (ab (al (ab (aX 1 ?_))))))))))
          obtain rfl:=sI h
          exact aC ⟨O,_,O,(kp4 (kp (kp O)))⟩
         ·refine cF (vB Y) (cK (aa (cR (oY O (yMI O) (oY O (yFA db O) (oY O (yL 1 kd O O O) (oY O (a8 (us:=[]) lJ O) (oY O (y_mul O O) (oY O (y_min O O) (oY O (yAI O) (oN (au (aa (cR (oY O (bF O O) (oY O (yMI O) (oN (aX 1 ?_))))))))))))))))))
          obtain rfl:=sI h
          exact eN ⟨_,O,(kp4 (kp (kp O)))⟩
       ·clear h;rcases iOs f3 with⟨r,h⟩|⟨r,h⟩
        ·refine oSk (sF O O O O r) (oSk (sF O O O O r) (oSk (sF O O O O r) (oSk (sF O O O O r) (oSk (sF O O O O r) (oY O (ar (vB r) O) ?_)))))
         obtain rfl:=sI h
         exact key _ _ (kp4 (kp4 (kp (kp O))))
        ·refine oY (sT O O O O r) (yN 0 [.slice Aa p0.fNo.length ca,.slice Ab p0.fC.length cb] aR O O O) (oY (sT O O O O r) (yFA db O) (oY (sT O O O O r) (yL 1 kd O O O) ?_))
         obtain⟨op,f9,h⟩:=bOs h
         refine oY (sT O O O O r) (yC [.agg #[.slice Aa p0.fNo.length ca,.slice Ab p0.fC.length cb],.slice ((rdL f o.2.2).1.1) ((rdL p0.fC o.2.2).fO.length) ((rdL f o.2.2).1.2.2)] go_118 O (fun W2 g=>pu p0 ((rdL p0.fC o.2.2).fO) op f9 W2 Aa p0.fNo.length ca O ((RdL.arg G) W2 g) Ab p0.fC.length cb f O ((RdL.arg H) W2 g) (NestL.at (NestL.arg u) W2 g) ((rdL f o.2.2).1.1) ((rdL p0.fC o.2.2).fO.length) ((rdL f o.2.2).1.2.2) O ((NestL.rd (NestL.arg u) F.1 (av F.2 O)) W2 g)) O) (oY (sT O O O O r) (fa O) (oY O (ap (vB r) O) ?_))
         obtain rfl:=sI h
         exact key _ _ (kp4 (kp4 (kp (kp O))))
      ·refine cF (vB U) (aJ (ak ?_))
       obtain rfl:=sI h
       exact aC ⟨O,_,O,(kp4 (kp (kp O)))⟩
     ·intro e L tm hJ
      rcases ga with om|oj
      ·dsimp only at h hJ
       obtain⟨rfl,fr,rfl,rfl⟩:=hJ
       refine⟨(by intro hc;cases hc),?_⟩
       refine al (ab ?_)
       obtain rfl:=sI h
       exact ao (.inl O) O (rVt (v:=vI om.1) O) (fun W2 g=>⟨O,g.none⟩)
      ·dsimp only at h hJ
       obtain⟨rfl,fd,rfl,rfl⟩:=hJ
       refine⟨(by intro hc;cases hc),?_⟩
       refine ai (aa (cS (cS (cR (oY O (yMI O) (oY O (i8 O O) (oN (aa ?_))))))))
       rcases iOs h with⟨Z,h⟩|⟨Z,h⟩
       ·refine cT (vB Z) (cS (cR (oY O (yAI O) (oN (aa (aq (ab ?_)))))))
        obtain rfl:=sI h
        exact ao (.inl O) O (rVt (v:=vI 2) O) (fun W2 g=>⟨O,g.none⟩)
       ·refine cF (vB Z) (cK (aa (cS (cR (oY O (yAI O) (oN (aa (aq ?_))))))))
        obtain rfl:=sI h
        exact ao (.inl O) O (rVt (v:=vI 0) O) (fun W2 g=>⟨O,g.none⟩)
 ·rcases aD (decide (60<(p0.fNo.length:Int)))with E|E
  ·refine oSk (sF O O O O E) (oSk (sF O O O O E) (oSk (sF O O O O E) (oSk (sF O O O O E) (oY O (ar (vB E) O) ?_))))
   exact key _ _ (keep (keep (keep O O) O) (vB (pH E)))
  ·refine oY (sT O O O O E) (yFA bp O) (oY (sT O O O O E) (yL 0 eZ O O O) (oY (sT O O O O E) (a8 (us:=[]) kj O) (oY (sT O O O O E) (i8 O O) (oY O (ap (vB E) O) ?_))))
   exact key _ _ (keep (keep (keep O O) O) (vB (pL E)))
theorem gZ (p0:Int) (res:Bool) (h:df p0=some res) (W:World)  :
  Calls Tryz.prog 168 [vI p0].toArray W fun e W2=>e=.returned (.bool res)∧Ext W W2 []:=by
 unfold df at h
 refine ah (m:=6) Tryz.func168 O O (nB O) (cS (cR (oY O (yAB O) (oN (aa (cS (cR (oY O (yMI O) (oY O (yMI O) (oY O (ft O O) (oY O (yAB O) (oN (aa (aq ?_))))))))))))))
 obtain rfl:=sI h
 exact ao (.inl O) O (rVt (v:=.bool (p0 !=p0)) O) (fun W2 f=>⟨O,f.none⟩)
theorem qS (p0:Int) (p1:Int) (res:Bool) (h:jX p0 p1=some res) (W:World)  :
  Calls Tryz.prog 154 [vI p0,vI p1].toArray W fun e W2=>e=.returned (.bool res)∧Ext W W2 []:=by
 unfold jX at h
 refine ah (m:=17) Tryz.func154 O O (nB O) (cS (cR (oY O (yAB O) (oN (aa (cS (cR (oY O (yMI O) ?_))))))))
 obtain⟨E,d,h⟩:=bOs h
 refine oY O (yC [vI p0] go_168 O (fun W2 r=>gZ p0 E d W2 ) O) (oY O (yMB O) ?_)
 obtain⟨u,w,h⟩:=bOs h
 refine oJ 4 (fun o=>(upd (upd (upd (upd o 0 (vI p0)) 1 (vI p1)) 4 (.bool false)) 11 (.bool u))) (fun o=>?_) (fun key=>?_)
 ·refine oY O (yMB O) ?_
  refine oJ 4 (fun o=>(upd (upd o 4 (.bool false)) 16 (.bool (u||(decide (p0<p1)))))) (fun o=>?_) (fun key=>?_)
  ·refine oY O (yAB O) (oN (aa (aq ?_)))
   obtain rfl:=sI h
   exact ao (.inl O) O (rVt (v:=.bool (u||(decide (p0<p1)))) O) (fun W2 r=>⟨O,r.none⟩)
  ·rcases aD u with f|f
   ·refine oSk (sF O O O O f) (oSk (sF O O O O f) (oSk (sF O O O O f) (oY O (ar (vB f) O) ?_)))
    exact key _ _ (keep (keep O O) (vB (pH f)))
   ·refine oY (sT O O O O f) (yMI O) (oY (sT O O O O f) (yMI O) (oY (sT O O O O f) (bN O O) (oY O (ap (vB f) O) ?_)))
    exact key _ _ (keep (keep O O) (vB (pL f)))
 ·clear h;rcases iOs w with⟨g,h⟩|⟨g,h⟩
  ·refine oY (sT O O O O g) (yMI O) ?_
   obtain⟨F,D,h⟩:=bOs h
   refine oY (sT O O O O g) (yC [vI p1] go_168 O (fun W2 r=>gZ p1 F D W2 ) O) (oY (sT O O O O g) (fa O) (oY O (ar (vB g) O) ?_))
   obtain rfl:=sI h
   exact key _ _ (kp4 O)
  ·refine oSk (sF O O O O g) (oSk (sF O O O O g) (oSk (sF O O O O g) (oY O (ap (vB g) O) ?_)))
   obtain rfl:=sI h
   exact key _ _ (kp4 O)
theorem iv (p0:(List Int)) (p1:Int) (p2:Int) (res:(List Int)) (h:bx p0 p1 p2=some res) (W:World) (a:World) (R:Res) (Aa:Option Addr) (r ca:Nat) (N:r=p0.length) (hW:Ext a W [R,be Aa ca 3 1 r (encL cI p0)]) :
  Calls Tryz.prog 148 [.slice Aa r ca,vI p1,vI p2].toArray W fun e W2=>e=.returned (.tuple #[])∧r=res.length∧Ext a W2 [R,be Aa ca 3 1 r (encL cI res)]:=by
 subst N
 unfold bx at h
 refine gv (m:=49) Tryz.func148 O O (nB O) hW (cS (cR (oY O (yMI O) (oY O (bF O O) (oY O (yAI O) (oN (aa (ae ?_))))))))
 obtain⟨z,U,h⟩:=bOs h
 refine bo (fun(s:(Int × (List Int))) L tm=>∃(H:Nat→Value),p0.length=s.2.length∧L=[R,be Aa ca 3 1 p0.length (encL cI s.2)]∧tm=(upd (upd (upd (upd H 0 (.slice Aa p0.length ca)) 1 (vI p1)) 2 (vI p2)) 6 (vI s.1))) 0 U ⟨_,O,O,(kp4 O)⟩ ?_ ?_
 ·rintro T L tm st ⟨S,u,rfl,rfl⟩ h
  unfold aF at h
  refine cS (cS (cR (oY O (yMI O) (oY O (yMI O) (oY O (bN O O) (oN (aa ?_)))))))
  rcases iOs h with⟨Q,h⟩|⟨Q,h⟩
  ·refine cT (vB Q) (cK (aa (cS (ae (cS (cR (oY O (yMI O) (oY O (yAI O) (oN (aa (ae ?_)))))))))))
   obtain⟨i,X,h⟩:=bOs h
   refine bo (fun(s:(Int × (List Int))) L tm=>∃(H:Nat→Value),p0.length=s.2.length∧L=[R,be Aa ca 3 1 p0.length (encL cI s.2)]∧tm=(upd (upd (upd (upd (upd (upd H 0 (.slice Aa p0.length ca)) 1 (vI p1)) 2 (vI p2)) 6 (vI T.1)) 12 (.bool (decide (T.1<p2)))) 7 (vI s.1))) 2 X ⟨_,u,O,(kp4 (kp (kp O)))⟩ ?_ ?_
   ·rintro o L tm st ⟨q,f,rfl,rfl⟩ h
    unfold aW at h
    refine cS (cS ?_)
    refine bl 15 di (by kernel_rfl) (by kernel_rfl) ?_
    refine qY O (yMI O) (qY O (yMI O) (qY O (i8 O O) (qY O (yMB O) ?_)))
    obtain⟨l,Y,h⟩:=bOs h
    refine qJ 11 (fun H=>(upd (upd (upd (upd (upd (upd (upd H 0 (.slice Aa p0.length ca)) 1 (vI p1)) 2 (vI p2)) 6 (vI T.1)) 12 (.bool (decide (T.1<p2)))) 7 (vI o.1)) 30 (.bool l))) (fun H=>?_) (fun key=>?_)
    ·refine dq (oN (aa ?_))
     rcases iOs h with⟨I,h⟩|⟨I,h⟩
     ·refine cT (vB I) (cK (aa (cS (ae ?_))))
      obtain⟨d,h⟩:=gOs h
      obtain⟨w,h⟩:=gOs h
      obtain⟨D,h⟩:=gOs h
      obtain⟨E,h⟩:=gOs h
      refine j9 [[],[],[],[],[3],[],[],[6],[5,6,7],[5,6,7,8],[],[],[10,11],[10,11,12],[0,1,5,6,7,8,9,10,11,12,13],[0,1,5,6,7,8,9,10,11,12,13,14],[0,1,2,3,4,5,6,7,8,9,10,11,12,13,14,15],[0,1,2,3,4,5,6,7,8,9,10,11,12,13,14,15,16]] [(none,0,[true,true]),(none,0,[true,true]),(none,0,[true,false]),(none,0,[true,false]),(none,0,[true,false]),(none,0,[true,true]),(none,0,[true,true]),(none,0,[true,true]),(none,0,[true,true]),(none,0,[true,true]),(none,0,[true,true]),(none,0,[true,true]),(none,0,[true,true]),(none,0,[true,true]),(none,0,[true,true]),(some 1,0,[true,true]),(none,0,[true,true]),(some 1,0,[true,true])] [⟨fun _=>.slice Aa p0.length ca,fun _=>noR,fun _=>[]⟩,⟨fun _=>vI o.1,fun _=>noR,fun _=>[]⟩,⟨fun _=>.slice Aa p0.length ca,fun _=>noR,fun _=>[]⟩,⟨fun _=>vI o.1,fun _=>noR,fun _=>[]⟩,⟨fun _=>vI (w64 (o.1-1)),fun _=>noR,fun _=>[]⟩,⟨fun _=>.slice Aa p0.length ca,fun _=>noR,fun _=>[]⟩,⟨fun _=>vI o.1,fun _=>noR,fun _=>[]⟩,⟨fun _=>vI (w64 (o.1-1)),fun _=>noR,fun _=>[]⟩,⟨fun _=>slA Aa (Int.toNat (w64 (o.1-1))*1),fun _=>noR,fun _=>[]⟩,⟨fun _=>vI (rdL o.2 (w64 (o.1-1))),fun _=>noR,fun _=>[]⟩,⟨fun _=>.slice Aa p0.length ca,fun _=>noR,fun _=>[]⟩,⟨fun _=>vI o.1,fun _=>noR,fun _=>[]⟩,⟨fun _=>slA Aa (Int.toNat o.1*1),fun _=>noR,fun _=>[]⟩,⟨fun _=>vI (rdL o.2 o.1),fun _=>noR,fun _=>[]⟩,⟨fun _=>slA Aa (Int.toNat o.1*1),fun _=>noR,fun _=>[]⟩,⟨fun _=>undef,fun _=>be Aa ca 3 1 p0.length (encL cI (o.2.set (Int.toNat o.1) (rdL o.2 (w64 (o.1-1))))),fun _=>[]⟩,⟨fun _=>slA Aa (Int.toNat (w64 (o.1-1))*1),fun _=>noR,fun _=>[]⟩,⟨fun _=>undef,fun _=>be Aa ca 3 1 p0.length (encL cI ((o.2.set (Int.toNat o.1) (rdL o.2 (w64 (o.1-1)))).set (Int.toNat (w64 (o.1-1))) (rdL o.2 o.1))),fun _=>[]⟩] 2 di (by kernel_rfl) (by kernel_rfl) ⟨⟨fun ξ14 ξ14' h=>⟨O,O,O⟩,fun _=>O⟩,⟨fun ξ14 ξ14' h=>⟨O,O,O⟩,fun _=>O⟩,⟨fun ξ14 ξ14' h=>⟨O,O,O⟩,fun _=>O⟩,⟨fun ξ14 ξ14' h=>⟨O,O,O⟩,fun _=>O⟩,⟨fun ξ14 ξ14' h=>⟨O,O,O⟩,fun _=>O⟩,⟨fun ξ14 ξ14' h=>⟨O,O,O⟩,fun _=>O⟩,⟨fun ξ14 ξ14' h=>⟨O,O,O⟩,fun _=>O⟩,⟨fun ξ14 ξ14' h=>⟨O,O,O⟩,fun _=>O⟩,⟨fun ξ14 ξ14' h=>⟨O,O,O⟩,fun _=>O⟩,⟨fun ξ14 ξ14' h=>⟨O,O,O⟩,fun _=>O⟩,⟨fun ξ14 ξ14' h=>⟨O,O,O⟩,fun _=>O⟩,⟨fun ξ14 ξ14' h=>⟨O,O,O⟩,fun _=>O⟩,⟨fun ξ14 ξ14' h=>⟨O,O,O⟩,fun _=>O⟩,⟨fun ξ14 ξ14' h=>⟨O,O,O⟩,fun _=>O⟩,⟨fun ξ14 ξ14' h=>⟨O,O,O⟩,fun _=>O⟩,⟨fun ξ14 ξ14' h=>⟨O,O,O⟩,fun _=>O⟩,⟨fun ξ14 ξ14' h=>⟨O,O,O⟩,fun _=>O⟩,⟨fun ξ14 ξ14' h=>⟨O,O,O⟩,fun _=>O⟩,trivial⟩ O (fun ξ14=>?_)
      refine fq O (fun L2=>?_) ?_
      ·dsimp only[aP,lca,lna]
       refine oY O (yMS O) (oN ?_)
       exact aE (fun _=>(none,0,0,[],noR)) O (List.append_nil _)
      dsimp only[dG,lsz,lss,lna,lca,List.append_nil]
      refine fq O (fun L2=>?_) ?_
      ·dsimp only[aP,lca,lna]
       refine oY O (yMI O) (oN ?_)
       exact aE (fun _=>(none,0,0,[],noR)) O (List.append_nil _)
      dsimp only[dG,lsz,lss,lna,lca,List.append_nil]
      refine fq O (fun L2=>?_) ?_
      ·dsimp only[aP,lca,lna]
       refine oY O (yMS O) (oN ?_)
       exact aE (fun _=>(none,0,0,[],noR)) O (List.append_nil _)
      dsimp only[dG,lsz,lss,lna,lca,List.append_nil]
      refine fq O (fun L2=>?_) ?_
      ·dsimp only[aP,lca,lna]
       refine oY O (yMI O) (oN ?_)
       exact aE (fun _=>(none,0,0,[],noR)) O (List.append_nil _)
      dsimp only[dG,lsz,lss,lna,lca,List.append_nil]
      refine fq O (fun L2=>?_) ?_
      ·dsimp only[aP,lca,lna]
       refine oY O (mY O O) (oN ?_)
       exact aE (fun _=>(none,0,0,[],noR)) O (List.append_nil _)
      dsimp only[dG,lsz,lss,lna,lca,List.append_nil]
      refine fq O (fun L2=>?_) ?_
      ·dsimp only[aP,lca,lna]
       refine oY O (yMS O) (oN ?_)
       exact aE (fun _=>(none,0,0,[],noR)) O (List.append_nil _)
      dsimp only[dG,lsz,lss,lna,lca,List.append_nil]
      refine fq O (fun L2=>?_) ?_
      ·dsimp only[aP,lca,lna]
       refine oY O (yMI O) (oN ?_)
       exact aE (fun _=>(none,0,0,[],noR)) O (List.append_nil _)
      dsimp only[dG,lsz,lss,lna,lca,List.append_nil]
      refine fq O (fun L2=>?_) ?_
      ·dsimp only[aP,lca,lna]
       refine oY O (mY O O) (oN ?_)
       exact aE (fun _=>(none,0,0,[],noR)) O (List.append_nil _)
      dsimp only[dG,lsz,lss,lna,lca,List.append_nil]
      refine fq O (fun L2=>?_) ?_
      ·dsimp only[aP,lca,lna]
       refine oY O (yI dC (by decide) d.1 d.2 (RdL.row 1 O) (eL ax f) O O) ?_
       refine oN ?_
       exact aE (fun _=>(none,0,0,[],noR)) O (List.append_nil _)
      dsimp only[dG,lsz,lss,lna,lca,List.append_nil]
      refine fq O (fun L2=>?_) ?_
      ·dsimp only[aP,lca,lna]
       refine oY O (yR (A:=Aa) (j:=(Int.toNat (w64 (o.1-1))*1)) (v:=vI (rdL o.2 (w64 (o.1-1)))) bW (RdL.row 1 O) O (aG ax d.1 (av d.2 f) O)) (oN ?_)
       exact aE (fun _=>(none,0,0,[],noR)) O (List.append_nil _)
      dsimp only[dG,lsz,lss,lna,lca,List.append_nil]
      refine fq O (fun L2=>?_) ?_
      ·dsimp only[aP,lca,lna]
       refine oY O (yMS O) (oN ?_)
       exact aE (fun _=>(none,0,0,[],noR)) O (List.append_nil _)
      dsimp only[dG,lsz,lss,lna,lca,List.append_nil]
      refine fq O (fun L2=>?_) ?_
      ·dsimp only[aP,lca,lna]
       refine oY O (yMI O) (oN ?_)
       exact aE (fun _=>(none,0,0,[],noR)) O (List.append_nil _)
      dsimp only[dG,lsz,lss,lna,lca,List.append_nil]
      refine fq O (fun L2=>?_) ?_
      ·dsimp only[aP,lca,lna]
       refine oY O (yI dC (by decide) w.1 w.2 (RdL.row 1 O) (eL ax f) O O) ?_
       refine oN ?_
       exact aE (fun _=>(none,0,0,[],noR)) O (List.append_nil _)
      dsimp only[dG,lsz,lss,lna,lca,List.append_nil]
      refine fq O (fun L2=>?_) ?_
      ·dsimp only[aP,lca,lna]
       refine oY O (yR (A:=Aa) (j:=(Int.toNat o.1*1)) (v:=vI (rdL o.2 o.1)) bW (RdL.row 1 O) O (aG ax w.1 (av w.2 f) O)) (oN ?_)
       exact aE (fun _=>(none,0,0,[],noR)) O (List.append_nil _)
      dsimp only[dG,lsz,lss,lna,lca,List.append_nil]
      refine fq O (fun L2=>?_) ?_
      ·dsimp only[aP,lca,lna]
       refine oY O (yI dC (by decide) D.1 D.2 (RdL.row 1 O) (eL ax f) O O) ?_
       refine oN ?_
       exact aE (fun _=>(none,0,0,[],noR)) O (List.append_nil _)
      dsimp only[dG,lsz,lss,lna,lca,List.append_nil]
      refine gx_n O (fun L2=>?_) ?_
      ·dsimp only[aP,lca,lna]
       refine d9 O (dP 1 (xs:=o.2) ax (rdL o.2 (w64 (o.1-1))) rI O D.1 (av D.2 f) O O O O) (oN ?_)
       first|exact fc (fun _=>(none,0,0,[],noR)) O|exact fc (fun _=>(none,0,0,[],noR)) (List.append_nil _)
      dsimp only[dG,lsz,lss,lna,lca,List.append_nil]
      refine fq O (fun L2=>?_) ?_
      ·dsimp only[aP,lca,lna]
       refine oY O (yI dC (by decide) E.1 E.2 (RdL.row 1 O) (eL ax (gJ f)) O O) ?_
       refine oN ?_
       exact aE (fun _=>(none,0,0,[],noR)) O (List.append_nil _)
      dsimp only[dG,lsz,lss,lna,lca,List.append_nil]
      refine gx_n O (fun L2=>?_) ?_
      ·dsimp only[aP,lca,lna]
       refine d9 O (dP 1 (xs:=(o.2.set (Int.toNat o.1) (rdL o.2 (w64 (o.1-1))))) ax (rdL o.2 o.1) rI O E.1 (av E.2 (gJ f)) O O O O) (oN ?_)
       first|exact fc (fun _=>(none,0,0,[],noR)) O|exact fc (fun _=>(none,0,0,[],noR)) (List.append_nil _)
      dsimp only[dG,lsz,lss,lna,lca,List.append_nil]
      refine pF (au (aa (cR (oY O (yMI O) (oY O (mY O O) (oY O (yAI O) (oN ?_)))))))
      obtain rfl:=sI h
      exact eN ⟨_,(gJ (gJ f)),O,(kp4 (kp (kp O)))⟩
     ·refine cF (vB I) (aJ (ak ?_))
      obtain rfl:=sI h
      exact aC ⟨O,_,f,O,(kp4 (kp (kp O)))⟩
    ·clear h;rcases iOs Y with⟨g,h⟩|⟨g,h⟩
     ·refine qY (sT O O O O g) (yMS O) (qY (sT O O O O g) (yMI O) ?_)
      obtain⟨F,h⟩:=gOs h
      refine qY (sT O O O O g) (yI dC (by decide) F.1 F.2 (RdL.row 1 O) (eL ax f) O O) ?_
      refine qY (sT O O O O g) (yR (A:=Aa) (j:=(Int.toNat o.1*1)) (v:=vI (rdL o.2 o.1)) bW (RdL.row 1 O) O (aG ax F.1 (av F.2 f) O)) (qY (sT O O O O g) (yMS O) (qY (sT O O O O g) (yMI O) (qY (sT O O O O g) (mY O O) ?_)))
      obtain⟨G,h⟩:=gOs h
      refine qY (sT O O O O g) (yI dC (by decide) G.1 G.2 (RdL.row 1 O) (eL ax f) O O) ?_
      refine qY (sT O O O O g) (yR (A:=Aa) (j:=(Int.toNat (w64 (o.1-1))*1)) (v:=vI (rdL o.2 (w64 (o.1-1)))) bW (RdL.row 1 O) O (aG ax G.1 (av G.2 f) O)) ?_
      obtain⟨t,Z,h⟩:=bOs h
      refine qY (sT O O O O g) (yC [vI (rdL o.2 o.1),vI (rdL o.2 (w64 (o.1-1)))] go_154 O (fun W2 V=>qS (rdL o.2 o.1) (rdL o.2 (w64 (o.1-1))) t Z W2 ) O) (qY O (ar (vB g) O) ?_)
      obtain rfl:=sI h
      exact key _ _ (kp4 (kp (kp (kp O))))
     ·refine am (sF O O O O g) (am (sF O O O O g) (am (sF O O O O g) (am (sF O O O O g) (am (sF O O O O g) (am (sF O O O O g) (am (sF O O O O g) (am (sF O O O O g) (am (sF O O O O g) (am (sF O O O O g) (qY O (ap (vB g) O) ?_))))))))))
      obtain rfl:=sI h
      exact key _ _ (kp4 (kp (kp (kp O))))
   ·intro e L tm hJ
    obtain⟨rfl,p,K,rfl,rfl⟩:=hJ
    refine⟨(by intro hc;cases hc),?_⟩
    refine ai (au (aa (cR (oY O (yMI O) (oY O (bF O O) (oY O (yAI O) (oN ?_)))))))
    obtain rfl:=sI h
    exact eN ⟨_,K,O,(kp4 O)⟩
  ·refine cF (vB Q) (aJ (ak ?_))
   obtain rfl:=sI h
   exact aC ⟨O,_,u,O,(kp4 O)⟩
 ·intro e L tm hJ
  obtain⟨rfl,n,M,rfl,rfl⟩:=hJ
  refine⟨(by intro hc;cases hc),?_⟩
  refine ai ?_
  obtain rfl:=sI h
  exact gC (.inr O) O  (fun W2 V=>⟨O,M,V.take 2⟩)
theorem pn {x:Int} (h:0≤x∧x<16):x=0∨x=1∨x=2∨x=3∨x=4∨x=5∨x=6∨x=7∨x=8∨x=9∨x=10∨x=11∨x=12∨x=13∨x=14∨x=15:=by omega
theorem nN (p0:Int) (res:Int) (h:iV p0=some res) (W:World) :
  Calls Tryz.prog 158 [.int .u64 p0].toArray W fun e W2=>e=.returned (vI res)∧Ext W W2 []:=by
 unfold iV at h
 obtain⟨hg,h⟩:=gOs h
 refine ah (m:=25) Tryz.func158 O O (nB O) ?_
 have h1:decide ((4294967296:Int)≤p0)=false:=decide_eq_false (by omega)
 have h2:decide ((65536:Int)≤p0)=false:=decide_eq_false (by omega)
 have h3:decide ((256:Int)≤p0)=false:=decide_eq_false (by omega)
 refine cS (cR (oY O (yAI O) (oN (aa (cS (cS (cR (oY O (yMI O) (oY O (rL O O) (oN (aa (cF (vB h1) (cK (aa (cS (cS (cR (oY O (yMI O) (oY O (rL O O) (oN (aa (cF (vB h2) (cK (aa (cS (cS (cR (oY O (yMI O) (oY O (rL O O) (oN (aa (cF (vB h3) (cK (aa (cS (cR (oY O (yMI O) (oY O (yMI O) ?_))))))))))))))))))))))))))))))))))))))
 refine oY O (y_convQ (a':=p0) (q':=.u8) ui_175 ui_5 (by rcases pn hg with rfl|rfl|rfl|rfl|rfl|rfl|rfl|rfl|rfl|rfl|rfl|rfl|rfl|rfl|rfl|rfl <;> decide) O) ?_
 refine oY O (y_indexStr (b:=UInt8.ofNat (lenv p0).toNat) us_s9 hg.1 (by rcases pn hg with rfl|rfl|rfl|rfl|rfl|rfl|rfl|rfl|rfl|rfl|rfl|rfl|rfl|rfl|rfl|rfl <;> rfl) O O) ?_
 refine oY O (y_convQ (a':=lenv p0) (q':=.i64) ui_5 ui_3 (by rcases pn hg with rfl|rfl|rfl|rfl|rfl|rfl|rfl|rfl|rfl|rfl|rfl|rfl|rfl|rfl|rfl|rfl <;> decide) O) ?_
 refine oY O (bF O O) (oY O (yAI O) (oN (aa (aq ?_))))
 obtain rfl:=sI h
 exact ao (.inl O) O (rVt (v:=vI (w64 (0+lenv p0))) O) (fun W2 f=>⟨O,f.none⟩)
theorem pW (p0:Int) (res:Int) (h:kK p0=some res) (W:World)  :
  Calls Tryz.prog 128 [.int .u64 p0].toArray W fun e W2=>e=.returned (vI res)∧Ext W W2 []:=by
 unfold kK at h
 refine ah (m:=8) Tryz.func128 O O (nB O) (cS (cR (oY O (yAI O) (oN (aa (cS (cF O (cK (aa (cS (cR (oY O (yMI O) ?_))))))))))))
 obtain⟨o,g,h⟩:=bOs h
 refine oY O (yC [.int .u64 p0] go_158 O (fun W2 f=>nN p0 o g W2 ) O) (oY O (yAI O) (oN (aa (aq ?_))))
 obtain rfl:=sI h
 exact ao (.inl O) O (rVt (v:=vI o) O) (fun W2 f=>⟨O,f.none⟩)
theorem kF (p0:(List Int)) (p1:Int) (p2:Int) (p3:Int) (res:(List Int)) (h:de p0 p1 p2 p3=some res) (W:World) (M:World) (R:Res) (Aa:Option Addr) (f ca:Nat) (r:f=p0.length) (hW:Ext M W [R,be Aa ca 3 1 f (encL cI p0)]) :
  Calls Tryz.prog 127 [.slice Aa f ca,vI p1,vI p2,vI p3].toArray W fun e W2=>e=.returned (.tuple #[])∧f=res.length∧Ext M W2 [R,be Aa ca 3 1 f (encL cI res)]:=by
 subst r
 unfold de at h
 refine gv (m:=134) Tryz.func127 O O (nB O) hW (cS (cR (oY O (yAB O) (oN (aa (cS (cR (oY O (yAB O) (oN (aa (ae ?_)))))))))))
 obtain⟨N,F,h⟩:=bOs h
 refine sR (fun(s:(Int × Int × Int × Bool × Bool × (List Int))) L tm=>∃(u:Nat→Value),p0.length=s.2.2.2.2.2.length∧L=[R,be Aa ca 3 1 p0.length (encL cI s.2.2.2.2.2)]∧tm=(upd (upd (upd (upd (upd (upd u 0 (.slice Aa p0.length ca)) 1 (vI s.1)) 2 (vI s.2.1)) 3 (vI s.2.2.1)) 8 (.bool s.2.2.2.1)) 9 (.bool s.2.2.2.2.1))) (fun s e L tm=>e=.ret∧∃(u:Nat→Value),p0.length=s.2.2.2.2.2.length∧L=[R,be Aa ca 3 1 p0.length (encL cI s.2.2.2.2.2)]∧tm=(upd (upd (upd (upd (upd (upd u 0 (.slice Aa p0.length ca)) 1 (vI s.1)) 2 (vI s.2.1)) 3 (vI s.2.2.1)) 8 (.bool s.2.2.2.1)) 9 (.bool s.2.2.2.2.1))) F ⟨_,O,O,(kp4 (kp (kp O)))⟩ ?_ ?_
 ·rintro w L tm st ⟨D,g,rfl,rfl⟩ h
  unfold cA at h
  refine ae (cS (cR (oY O (yMI O) (oY O (yMI O) (oY O (mY O O) (oY O (yAI O) (oN (aa (cS (cS (cR (oY O (yMI O) (oY O (pO O O) (oN (aa ?_)))))))))))))))
  obtain⟨G,h⟩:=gOs h
  refine cT (vB G) (cS (cR (oY O (yMS O) (oY O (yMI O) (oY O (yMI O) ?_)))))
  obtain⟨H,I,h⟩:=bOs h
  refine kE 1 [.slice Aa p0.length ca,vI w.1,vI w.2.1] (fun(_:Unit)=>p0.length=H.length) (fun _=>.tuple #[]) (fun _=>be Aa ca 3 1 p0.length (encL cI H)) (fun _=>[]) O O go_148 O (fun W2 d=>(iv w.2.2.2.2.2 w.1 w.2.1 H I W2 _ (na [R,be Aa ca 3 1 p0.length (encL cI w.2.2.2.2.2)] [1]) Aa p0.length ca (g) d).mono (fun e W3 h3=>⟨(),h3.2.1,h3.1,h3.2.2⟩)) ?_
  rintro-K
  try dsimp only[lsz,lss,List.append_nil]
  refine oN (aa (aq (ab (al ?_))))
  obtain rfl:=sI h
  exact aC ⟨O,_,K,O,(kp4 (kp (kp O)))⟩
 ·intro e L tm hJ
  obtain⟨rfl,E,o,rfl,rfl⟩:=hJ
  refine⟨(by intro hc;cases hc),?_⟩
  refine al ?_
  obtain rfl:=sI h
  exact gC (.inl O) O  (fun W2 d=>⟨O,o,d.take 2⟩)
theorem insO_l2 {n:Nat} {data0:List Int} (h0:data0.length=n) (hn:n<1000000) (x:Int) :
  ∀(k:Nat) (f T:List Int),f.length=k→f.length+1+T.length=n→∃B1 B2:List Int,f=B1++B2∧aH (aW data0 0) ((f.length:Int),f++x::T)=some ((B1.length:Int),B1++x::(B2++T))∧(∀y∈B2,x<y)∧(∀y,B1.getLast? = some y→¬x<y):=by
 intro k
 induction k with
 | zero =>
  intro f T hk hl
  have:f=[]:=List.eq_nil_of_length_eq_zero hk
  subst this
  refine⟨[],[],O,?_,by simp,by simp⟩
  refine bV ?_
  unfold aW;dsimp only
  rfl
 | succ k ih =>
  intro f T hk hl
  obtain⟨A,y,rfl⟩:∃A y,f=A++[y]:=⟨f.dropLast,f.getLast (by intro h;rw[h]at hk;cases hk),(List.dropLast_concat_getLast _).symm⟩
  have hA:A.length=k:=by simpa using hk
  simp only[List.length_append,List.length_cons,List.length_nil]at hl
  have e1:A++[y]++x::T=A++y::x::T:=by simp
  have hi:(((A++[y]).length:Nat):Int)=(A.length:Int)+1:=by simp
  have hj1:w64 ((((A++[y]).length:Nat):Int)-1)=(A.length:Int):=by rw[gK (by simp only[List.length_append,List.length_cons,List.length_nil];omega) (by simp only[List.length_append,List.length_cons,List.length_nil];omega)];simp
  have r1:rdL (A++[y]++x::T) (((A++[y]).length:Nat):Int)=x:=qm _ _ _ _ O
  have r2:rdL (A++[y]++x::T) (A.length:Int)=y:=by rw[e1];exact qm _ _ _ _ O
  have g1:(0:Int)≤(((A++[y]).length:Nat):Int)∧(((A++[y]).length:Nat):Int)<(data0.length:Int):=by rw[h0];simp only[List.length_append,List.length_cons,List.length_nil];omega
  have g2:(0:Int)≤(A.length:Int)∧(A.length:Int)<(data0.length:Int):=by rw[h0];omega
  have hd:decide ((0:Int)<(((A++[y]).length:Nat):Int))=true:=decide_eq_true (by rw[hi];omega)
  have hless:jX x y=some (decide (x<y)):=by
   unfold jX df
   simp
  have step:aW data0 0 ((((A++[y]).length:Nat):Int),A++[y]++x::T)=if x<y then some (.inl ((A.length:Int),A++x::([y]++T)))else some (.inr ((((A++[y]).length:Nat):Int),A++[y]++x::T)):=by
   unfold aW;dsimp only
   simp only[hj1,r1,r2,hd,if_true,gPo g1,gPo g2,hless,Option.bind_some,decide_eq_true_eq]
   by_cases hlt:x<y
   ·rw[if_pos hlt,if_pos hlt]
    refine congrArg some (congrArg Sum.inl (Prod.ext O ?_))
    show((A++[y]++x::T).set (Int.toNat (((A++[y]).length:Nat):Int)) y).set (Int.toNat (A.length:Int)) x=_
    rw[Int.toNat_natCast,Int.toNat_natCast,nm (A++[y]) x y T _ O]
    have e3:A++[y]++y::T=A++y::(y::T):=by simp
    rw[e3,nm A y x (y::T) _ O]
    simp
   ·rw[if_neg hlt,if_neg hlt]
  by_cases hlt:x<y
  ·rw[if_pos hlt]at step
   obtain⟨B1,B2,hB,hr,h2,h3⟩:=ih A ([y]++T) hA (by simp;omega)
   refine⟨B1,B2++[y],by rw[hB,List.append_assoc],?_,?_,h3⟩
   ·rw[im step,hr]
    simp
   ·intro z hz
    rcases List.mem_append.1 hz with hz|hz
    ·exact h2 z hz
    ·rw[List.mem_singleton.1 hz];exact hlt
  ·rw[if_neg hlt]at step
   refine⟨A++[y],[],by simp,?_,by simp,?_⟩
   ·rw[bV step];simp
   ·intro z hz
    simp at hz
    rw[←hz]
    exact hlt
theorem insO_all {l:List Int} (hl:l.length<1000000):bx l 0 (l.length:Int)=some (srtI l):=by
 unfold bx
 have e1:w64 (0+1)=1:=rfl
 rw[e1]
 have main:∀(R A:List Int),(A++R).Perm l→hZ A→∃s,aH (aF l 0 (l.length:Int)) ((A.length:Int),A++R)=some ((l.length:Int),s)∧s.Perm l∧hZ s:=by
  intro R
  induction R with
  | nil =>
   intro A hp hs
   have hlen:A.length=l.length:=by have:=hp.length_eq;simpa using this
   refine⟨A,?_,by simpa using hp,hs⟩
   rw[List.append_nil,hlen]
   refine bV ?_
   unfold aF;dsimp only
   rw[show decide ((l.length:Int)<(l.length:Int))=false from decide_eq_false (by omega)]
   rfl
  | cons x T ih =>
   intro A hp hs
   have hlen:A.length+(T.length+1)=l.length:=by have:=hp.length_eq;simpa using this
   obtain⟨B1,B2,hB,hr,h2,h3⟩:=insO_l2 (data0:=l) O hl x A.length A T O (by omega)
   have hstep:aF l 0 (l.length:Int) ((A.length:Int),A++x::T)=some (.inl (((B1++x::B2).length:Int),(B1++x::B2)++T)):=by
    unfold aF;dsimp only
    rw[show decide ((A.length:Int)<(l.length:Int))=true from decide_eq_true (by omega)]
    rw[if_pos O,hr,Option.bind_some]
    have hw:w64 ((A.length:Int)+1)=(A.length:Int)+1:=gK (by omega) (by omega)
    simp only[hw]
    refine congrArg some (congrArg Sum.inl (Prod.ext ?_ ?_))
    ·simp[hB];omega
    ·simp
   have hs':hZ (B1++x::B2):=by
    unfold hZ at hs ⊢
    rw[hB,List.pairwise_append]at hs
    obtain⟨f,g,o⟩:=hs
    have hle:∀y∈B1,y≤x:=by
     intro y hy
     rcases List.eq_nil_or_concat B1 with rfl|⟨B,z,rfl⟩
     ·cases hy
     ·have hz:=h3 z (by simp)
      rw[List.concat_eq_append]at hy f
      rcases List.mem_append.1 hy with hy|hy
      ·rw[List.pairwise_append]at f
       have:=f.2.2 y hy z (by simp);omega
      ·rw[List.mem_singleton.1 hy];omega
    rw[List.pairwise_append]
    refine⟨f,List.pairwise_cons.2 ⟨fun y hy=>by have:=h2 y hy;omega,g⟩,fun a ha b hb=>?_⟩
    rcases List.mem_cons.1 hb with rfl|hb
    ·exact hle a ha
    ·exact o a ha b hb
   have hp':((B1++x::B2)++T).Perm l:=by
    refine List.Perm.trans ?_ hp
    rw[hB]
    simp only[List.append_assoc,lca]
    exact List.Perm.append_left B1 (List.perm_middle).symm
   obtain⟨s,h4,h5,h6⟩:=ih (B1++x::B2) hp' hs'
   exact⟨s,by rw[im hstep];exact h4,h5,h6⟩
 rcases l with _|⟨x,T⟩
 ·have:aH (aF [] 0 (([]:List Int).length:Int)) (1,[])=some (1,[]):=by
   refine bV ?_
   unfold aF
   rfl
  rw[this]
  rfl
 ·obtain⟨s,h1,h2,h3⟩:=main T [x] (by simp) (by simp[hZ])
  have h1':aH (aF (x::T) 0 ((x::T).length:Int)) (1,x::T)=some (((x::T).length:Int),s):=h1
  rw[h1',Option.bind_some,srtI_eq h2 h3]
theorem pdqO_all {l:List Int} (hl:l.length≤12) (v:Int):de l 0 (l.length:Int) v=some (srtI l):=by
 unfold de
 have hstep:cA (0,(l.length:Int),v,true,true,l)=some (.inr (0,(l.length:Int),v,true,true,srtI l)):=by
  unfold cA;dsimp only
  have hw:w64 ((l.length:Int)-0)=(l.length:Int):=by rw[gK (by omega) (by omega)];omega
  rw[hw,gPo (decide_eq_true (by omega)),insO_all (by omega)]
  rfl
 rw[bV hstep]
 rfl
theorem gd (p0:(List Int)) (res:(List Int)) (h:bS p0=some res) (W:World) (E:World) (R:Res) (Aa:Option Addr) (f ca:Nat) (o:f=p0.length) (hW:Ext E W [R,be Aa ca 3 1 f (encL cI p0)]) :
  Calls Tryz.prog 78 [.slice Aa f ca].toArray W fun e W2=>e=.returned (.tuple #[])∧f=res.length∧Ext E W2 [R,be Aa ca 3 1 f (encL cI res)]:=by
 subst o
 unfold bS at h
 obtain⟨u,h⟩:=gOs h
 obtain rfl:=sI h
 have hlen:p0.length=(srtI p0).length:=(srtI_len p0).symm
 refine gv (m:=11) Tryz.func78 O O (nB O) hW (cS (cR (oY O (yMS O) (oY O (a8 (us:=[]) bj O) (oY O (yAI O) (oN (aa (cR (oY O (yMS O) (oY O (yMI O) (oY O (yMI O) ?_)))))))))))
 have d:(0:Int)≤(p0.length:Int)∧(p0.length:Int)≤9223372036854775807:=by omega
 refine oY O (y_convertU ui_3 ui_151 d O) ?_
 obtain⟨r,w⟩:∃r,kK (p0.length:Int)=some r:=by
  unfold kK iV
  rw[gPo (by omega)]
  exact⟨_,O⟩
 refine oY O (yC [.int .u64 (p0.length:Int)] go_128 O (fun W2 g=>pW (p0.length:Int) r w W2 ) O) ?_
 have D:=pdqO_all u r
 refine kE 1 [.slice Aa p0.length ca,vI 0,vI (p0.length:Int),vI r] (fun(_:Unit)=>p0.length=(srtI p0).length) (fun _=>.tuple #[]) (fun _=>be Aa ca 3 1 p0.length (encL cI (srtI p0))) (fun _=>[]) O O go_127 O (fun W2 g=>(kF p0 0 (p0.length:Int) r (srtI p0) D W2 _ (na [R,be Aa ca 3 1 p0.length (encL cI p0)] [1]) Aa p0.length ca O g).mono (fun e W3 h3=>⟨(),h3.2.1,h3.1,h3.2.2⟩)) ?_
 rintro-F
 try dsimp only[lsz,lss,List.append_nil]
 refine oN ?_
 exact gC (.inr O) O  (fun W2 g=>⟨O,hlen,g.take 2⟩)
theorem ed (p0:(List (Int × Bool))) (res:(List Int)) (h:bt p0=some res) (W:World) (f:Nat) (hm0_0:(mapV Tryz.prog 3 kI cX kB false f p0).holds W) :
  Calls Tryz.prog 96 [.map (some f)].toArray W fun e W2=>∃x:Option Addr × Nat × Nat,x.2.1=res.length∧e=.returned (.slice x.1 x.2.1 x.2.2)∧Ext W W2 [be x.1 x.2.2 3 1 x.2.1 (encL cI res)]:=by
 unfold bt at h
 obtain⟨⟨F,d,w⟩,h⟩:=gOs h
 obtain rfl:=sI h
 have o:f<W.heap.size:=(mapV Tryz.prog 3 kI cX kB false f p0).inb W hm0_0 f O
 have hfin:∀s:Nat × (Int→Bool) × List Int,CollI cX p0 s→(∀y,cX y=true→s.2.1 y=false)→bS s.2.2=some (iC p0)∧s.2.2.length=(iC p0).length:=fun s hI hno=>by
  have hm:∀q,q∈s.2.2↔q∈iC p0:=fun q=>by
   rw[hI.val q,(eI p0).2 q]
   refine⟨fun h=>h.2.2.2,fun h=>?_⟩
   have h1:bH p0 q=true:=by
    cases hh:bH p0 q with
    | true=>rfl
    | false=>rw[od hh]at h;cases h
   have h2:cX q=true:=by
    obtain⟨p,hp,rfl⟩:=List.mem_map.1 (oh.1 h1)
    exact List.all_eq_true.1 w p hp
   exact⟨h2,h1,hno q h2,h⟩
  have hp:=perm_of_mem hI.nd (eI p0).1.nodup hm
  refine⟨?_,hp.length_eq⟩
  unfold bS
  rw[gPo (by rw[hp.length_eq];exact d),srtI_eq hp.symm (eI p0).1.sorted]
 refine ah (m:=21) Tryz.func96 O O (nB O) (cS (cR (oY O (yAS O) (oN (aa (cS (cR (oY O (yAS O) (oN (aa (cS (cS (cR (oY O (bm O) (ox_rangeA hm0_0 mQ jN O O (fun it k hk=>(oN (aa (ae (iK 3 1 (nW (fun(s:Nat × (Int→Bool) × List Int) L tm=>CollI cX p0 s∧∃(A:Option Addr) (c:Nat) (r:Nat→Value),L=[rngA W Tryz.prog 3 kI cX kB false f it p0 s.2.1 s.1 none,be A c 3 1 s.2.2.length (encL cI s.2.2)]∧tm=(upd (upd r 7 (.pointer (some ⟨it,0,none⟩))) 3 (.slice A s.2.2.length c))) (fun s=>s.1) (k,(fun y=>bH p0 y),[]) ⟨CollI.start hk,none,0,_,O,keep (kp O) O⟩ ?_)))))))))))))))))))))
 rintro s L tm ⟨hI,A,c,r,rfl,rfl⟩
 refine cS (cR ?_)
 refine ox_nextA 0 o O mQ O O (fun hno=>?_) (fun y k' hy hly hM hk'=>?_)
 ·refine oY O (yE O O) (oN (aa (cS (cF O (aJ (ak ?_))))))
  refine o9 (by intro h;cases h) ?_
  refine ai (aa (cS (cR (oY O (yMS O) ?_))))
  obtain⟨hS,hl⟩:=hfin s hI hno
  refine kE 1 [.slice A s.2.2.length c] (fun(_:Unit)=>s.2.2.length=(iC p0).length) (fun _=>.tuple #[]) (fun _=>be A c 3 1 s.2.2.length (encL cI (iC p0))) (fun _=>[]) O O go_78 O (fun W2 g=>(gd s.2.2 (iC p0) hS W2 _ (na [rngA W Tryz.prog 3 kI cX kB false f it p0 s.2.1 s.1 none,be A c 3 1 s.2.2.length (encL cI s.2.2)] [1]) A s.2.2.length c O g).mono (fun e W3 h3=>⟨(),h3.2.1,h3.1,h3.2.2⟩)) ?_
  rintro-u
  try dsimp only[lsz,lss,List.append_nil]
  refine oN (aa (cS (cR (oY O (yMS O) (oY O (yAS O) (oN (aa (aq ?_))))))))
  exact ao (.inl O) O (rVt (v:=.slice A s.2.2.length c) O) (fun W2 g=>⟨(A,s.2.2.length,c),u,O,(g.pick 1 O)⟩)
 ·refine oY O (yE O O) (oN (aa (cS (cT O (cK (aa (ae (cS (cR (oY O (y_entryA 0 o O O) (oY O (yE O O) (oY O (yE O O) (oY O (yAI O) (oY O (yAB O) (oN (aa (cS (cR (oY O (yMB O) (oN (aa ?_)))))))))))))))))))))
  rcases aD (aw false p0 y)with hp|hp
  ·refine cT (vB hp) (cR (oY O (yMS O) (oY O (yMI O) ?_)))
   refine az 1 (encL cI [y]) _ go bj j7 kY (by decide) (by decide) (by kernel_rfl) (eL ax O) O (fun G=>?_)
   have hroom:s.2.2.length+1≤1000000000:=by have:=hI.len;omega
   refine cr 1 bj j7 kY O O O (RdL.row 2 O) (eL ax O) (eA mj _) (eF hroom (by decide)) O (fun D E=>?_)
   refine oY O (yAS O) (oN (au (aX 2 (rr 0 O ?_))))
   refine mB (k',(fun q=>s.2.1 q && !decide (q=y)),s.2.2++[y]) ⟨hI.app hy hly hM hk' hp,D,E,_,?_,keep (kp O) ?_⟩ hk'
   ·show[_,_]=[_,_]
    rw[List.length_append]
    rfl
   ·rw[List.length_append]
    rfl
  ·refine cF (vB hp) (cK (au (rr 0 O ?_)))
   exact mB (k',(fun q=>s.2.1 q && !decide (q=y)),s.2.2) ⟨hI.keep hk' hp,A,c,_,O,keep (kp O) O⟩ hk'
end Go.Proofs.YtbblpokfbmekfaaGreat
set_option maxHeartbeats 4000000
set_option maxRecDepth 100000
namespace Go.Proofs.YtbblpokfbmekfaaGreat
open Go.RowKit (Below)
attribute [local irreducible] OX QX CX EX OpY Calls CallsIn
theorem qX (p0:TL) (p1:Int) (res:(List (Int × Bool))) (h:jY p0 p1=some res) (W:World) (Aa:Option Addr) (f ca:Nat) (D:f=p0.fNo.length) (g:Rd W Aa f ca (encL TNode_cells p0.fNo)) (Ab:Option Addr) (o cb:Nat) (r:List (Hd × TC)) (E:o=p0.fC.length) (N:Rd W Ab o cb (encL TClaim_cells2 r)) (Q:NestW W (fun z:TC=>z.fO) THop_cells r p0.fC) :
  Calls Tryz.prog 121 [.agg #[.slice Aa f ca,.slice Ab o cb],vI p1].toArray W fun e W2=>∃x:Nat,e=.returned (.map (some x))∧Ext W W2 [mapV Tryz.prog 3 kI cX kB false x res]:=by
 subst D
 subst E
 unfold jY at h
 refine ah (m:=25) Tryz.func121 O O (nB O) (cS (cR ?_))
 refine aO [.slice Aa p0.fNo.length ca,.slice Ab p0.fC.length cb] O O O (fun Y=>?_)
 refine oY O (bC O) (oN (aa (cS (cR ?_))))
 refine jn 3 kI cX kB false O (fun I=>?_)
 refine oY O (bC O) (oN (aa (cS (cS (cR (oY O (yFA cJ O) (oY O (yL 0 iM O O O) (oY O (a8 (us:=[]) lM O) (oY O (yMI O) (oN (aa (ae ?_))))))))))))
 obtain⟨Z,G,h⟩:=bOs h
 refine bo (fun(s:(Int × (List (Int × Bool)))) L tm=>∃(U:Nat→Value),L=[aj Y 25 [.slice Aa p0.fNo.length ca,.slice Ab p0.fC.length cb],mapV Tryz.prog 3 kI cX kB false I s.2]∧tm=(upd (upd (upd (upd (upd (upd U 1 (vI p1)) 4 (.map none)) 5 (.map (some I))) 10 (.slice Aa p0.fNo.length ca)) 11 (vI (p0.fNo.length:Int))) 12 (vI s.1))) 0 G ⟨_,O,(kp4 (kp (kp O)))⟩ ?_ ?_
 ·rintro w L tm st ⟨K,rfl,rfl⟩ h
  unfold iL at h
  refine cS (cR (oY O (bN O O) (oN (aa (cS ?_)))))
  rcases iOs h with⟨F,h⟩|⟨F,h⟩
  ·refine cT (vB F) (cK (aa (cS (ae (cS (cR ?_))))))
   obtain⟨d,h⟩:=gOs h
   refine oY O (yI nG (by decide) d.1 d.2 (RdL.arg g) (eL ay O) O O) ?_
   refine oY O (yM (A:=Aa) (j:=(Int.toNat w.1*3)) [vI ((rdL p0.fNo w.1).fID),vI ((rdL p0.fNo w.1).fLevel),vI ((rdL p0.fNo w.1).fCost)] ag_97 (Nat.succ_pos _) (RdL.arg g) O (bR ay d.1 (av d.2 O))) ?_
   refine aT nO O (fun V=>?_)
   refine d9 O (yS 2 [vI ((rdL p0.fNo w.1).fID),vI ((rdL p0.fNo w.1).fLevel),vI ((rdL p0.fNo w.1).fCost)] sz_97 O (nB O) O O O) (oN (aa (cS (cR (oY O (yFA lX O) (oY O (yL 2 bW O O O) (oY O (yMI O) (oY O (ge O O) (oN (aa ?_))))))))))
   rcases iOs h with⟨u,h⟩|⟨u,h⟩
   ·refine cT (vB u) (cR (oY O (bm O) (oY O (yFA g6 O) (oY O (yL 2 bW O O O) ?_))))
    obtain⟨H,h⟩:=gOs h
    refine d9 O (iB 1 (k:=(rdL p0.fNo w.1).fID) (v:=true) O mQ jN O O O H) (oN (au (aa (cR (oY O (bF O O) (oY O (yMI O) (oN (aX 2 ?_))))))))
    obtain rfl:=sI h
    exact eN ⟨_,O,(kp4 (kp (kp O)))⟩
   ·refine cF (vB u) (cK (au (aa (cR (oY O (bF O O) (oY O (yMI O) (oN (aX 2 ?_))))))))
    obtain rfl:=sI h
    exact eN ⟨_,O,(kp4 (kp (kp O)))⟩
  ·refine cF (vB F) (aJ (ak ?_))
   obtain rfl:=sI h
   exact aC ⟨O,_,O,(kp4 (kp (kp O)))⟩
 ·intro e L tm hJ
  obtain⟨rfl,M,rfl,rfl⟩:=hJ
  refine⟨(by intro hc;cases hc),?_⟩
  refine ai (aa (cS (cR (oY O (bm O) (oY O (bC O) (oN (aa (aq ?_))))))))
  obtain rfl:=sI h
  exact ao (.inl O) O (rVt (v:=.map (some I)) O) (fun W2 X=>⟨I,O,(X.pick 1 O)⟩)
theorem oX (p0:TL) (res:(List Int)) (h:gQ p0=some res) (W:World) (Aa:Option Addr) (o ca:Nat) (d:o=p0.fNo.length) (w:Rd W Aa o ca (encL TNode_cells p0.fNo)) (Ab:Option Addr) (r cb:Nat) (f:List (Hd × TC)) (D:r=p0.fC.length) (E:Rd W Ab r cb (encL TClaim_cells2 f)) (F:NestW W (fun z:TC=>z.fO) THop_cells f p0.fC) :
  Calls Tryz.prog 63 [.agg #[.slice Aa o ca,.slice Ab r cb]].toArray W fun e W2=>∃x:Option Addr × Nat × Nat,x.2.1=res.length∧e=.returned (.slice x.1 x.2.1 x.2.2)∧Ext W W2 [be x.1 x.2.2 3 1 x.2.1 (encL cI res)]:=by
 subst d
 subst D
 unfold gQ at h
 refine ah (m:=6) Tryz.func63 O O (nB O) (cS (cR ?_))
 refine aO [.slice Aa p0.fNo.length ca,.slice Ab p0.fC.length cb] O O O (fun X=>?_)
 refine oY O (yAS O) (oN (aa (cS (cR (oY O (yN 0 [.slice Aa p0.fNo.length ca,.slice Ab p0.fC.length cb] aR O O O) ?_)))))
 obtain⟨K,H,h⟩:=bOs h
 refine cD [.agg #[.slice Aa p0.fNo.length ca,.slice Ab p0.fC.length cb],vI 0] _ _ O go_121 O (fun W2 g=>qX p0 0 K H W2 Aa p0.fNo.length ca O ((RdL.arg w) W2 g) Ab p0.fC.length cb f O ((RdL.arg E) W2 g) (NestL.at (NestL.arg F) W2 g)) ?_
 rintro M
 obtain⟨G,I,h⟩:=bOs h
 refine oC [.map (some M)] _ _ _ O go_96 O (fun W2 g=>ed K G I W2 M ((MpL.own 1 O) W2 g)) ?_
 rintro⟨N,U,Q⟩ u
 replace u:U=G.length:=u;subst u
 refine oY O (yAS O) (oN (aa (aq ?_)))
 obtain rfl:=sI h
 exact ao (.inl O) O (rVt (v:=.slice N G.length Q) O) (fun W2 g=>⟨(N,G.length,Q),O,O,(g.pick 2 O)⟩)
theorem mT (l:TL) (i:Nat) (hi:i<l.fC.length):(sKs l).getD i 0=(rdL l.fC (i:Int)).fO.length:=by
 unfold sKs rdL
 rw[Int.toNat_natCast,List.getD_eq_getElem?_getD,List.getD_eq_getElem?_getD,List.getElem?_map,List.getElem?_eq_getElem hi]
 rfl
theorem sy (l:TL) (hok:bX l) (x:List Int) (hx:x∈sCs l):∀j:Nat,j≤x.length→MaxC (sKs l) x j →
  ∃j':Nat,j'≤j∧aH (fu l) ((j:Int)-1,zC x j)=some ((j':Int)-1,zC x j')∧MaxC (sKs l) x j'∧(0<j'→x.getD (j'-1) 0+1≠(((sKs l).getD (j'-1) 0:Nat):Int)):=by
 obtain⟨hxl,hxb⟩:=nX _ _ hx
 have hkl:(sKs l).length=l.fC.length:=by simp[sKs]
 intro j
 induction j with
 | zero =>
  intro _ hm
  refine⟨0,Nat.le_refl _,?_,hm,fun h=>by omega⟩
  refine bV ?_
  unfold fu
  rfl
 | succ j ih =>
  intro hj hm
  have hjn:j<l.fC.length:=by omega
  have hget:rdL (zC x (j+1)) (j:Int)=x.getD j 0:=by rw[zC_get (by omega),jI]
  have hb:=hxb j (by omega)
  have hkb:(sKs l).getD j 0≤1000:=by
   rw[mT l j hjn]
   exact(hok.2 _ (rk (by omega) (by omega))).2
  have hw:w64 (x.getD j 0+1)=x.getD j 0+1:=gK (by omega) (by omega)
  have hbody:fu l (((j+1:Nat):Int)-1,zC x (j+1))=if(x.getD j 0+1==(((sKs l).getD j 0:Nat):Int))=true then some (.inl ((j:Int)-1,zC x j))else some (.inr ((j:Int),zC x (j+1))):=by
   unfold fu
   have e:(((j+1:Nat):Int)-1)=(j:Int):=by omega
   simp only[e]
   rw[hget,hw,←mT l j hjn]
   simp only[show decide (0≤(j:Int))=true from decide_eq_true (by omega),if_true]
   rw[gPo ⟨by omega,by omega⟩,gPo ⟨by omega,by omega⟩]
   rw[Int.toNat_natCast,zC_set0 (by omega),gK (x:=(j:Int)-1) (by have:=hok.1;omega) (by have:=hok.1;omega),Option.bind_some,gPo ⟨by omega,by omega⟩]
  by_cases hc:x.getD j 0+1=(((sKs l).getD j 0:Nat):Int)
  ·have hm':MaxC (sKs l) x j:=fun q hq hql=>by
    rcases Nat.eq_or_lt_of_le hq with e|e
    ·rw[←e];exact hc
    ·exact hm q e hql
   obtain⟨j',h1,h2,h3,h4⟩:=ih (by omega) hm'
   refine⟨j',by omega,?_,h3,h4⟩
   rw[im (s':=((j:Int)-1,zC x j)) (by rw[hbody,if_pos (by simpa using hc)])]
   exact h2
  ·refine⟨j+1,Nat.le_refl _,?_,hm,fun _=>by simpa using hc⟩
   rw[show((j+1:Nat):Int)-1=(j:Int) by omega]
   refine bV ?_
   rw[←show((j+1:Nat):Int)-1=(j:Int) by omega,hbody,if_neg (by simpa using hc)]
   rw[show((j+1:Nat):Int)-1=(j:Int) by omega]
theorem dx (f:TL) (hok:bX f) (w:Nat) (H:Option Addr) (I M:Nat) (r:Option Addr) (F d:Nat) (X:F=f.fC.length) (o:List (Hd × TC)) (hP:NestP (fun z:TC=>z.fO) o f.fC) :
  SeqC Tryz.prog 130 [.pointer (some ⟨w,0,none⟩)] 3 (fun W=>Rd W (some ⟨w,0,none⟩) 1 1 [.slice H I M,.slice r F d]∧Rd W r F d (encL TClaim_cells2 o)) (sCs f):=by
 intro c l K Kx W L0 hH hy h0 a
 subst X
 have hkl:(sKs f).length=f.fC.length:=by simp[sKs]
 have hodo:=allC_odo (sKs f) (fun k hk=>by
  obtain⟨x,hx,rfl⟩:=List.mem_map.1 hk
  exact(hok.2 x hx).1)
 have hlen:∀{i:Nat} {x:List Int},(sCs f)[i]? = some x→x.length=f.fC.length:=fun {i x} h=>by
  rw[(nX _ _ (List.mem_of_getElem? h)).1,hkl]
 refine rF (vs:=[.func (.yield l) #[] #[],.pointer (some ⟨w,0,none⟩)]) (m:=46) Tryz.func130 O O (nB O) a ?_
 have hcapL:∀{i:Nat} {L1:List Res} {p:Res},K i L1→RdL c (p::L1) (some ⟨w,0,none⟩) 1 1 [.slice H I M,.slice r f.fC.length d]:=fun {i L1 p} hK W hW=>by
  have h3:=hW.torr'
  exact(hH i L1 W hK h3).1
 have hrdL:∀{i:Nat} {L1:List Res} {p:Res},K i L1→RdL c (p::L1) r f.fC.length d (encL TClaim_cells2 o):=fun {i L1 p} hK W hW=>by
  have h3:=hW.torr'
  exact(hH i L1 W hK h3).2
 refine cS (cR (oY O (yFR (A:=(some ⟨w,0,none⟩)) (j:=0) bp O) (oY O (yR (A:=(some ⟨w,0,none⟩)) (j:=(0+1)) (v:=.slice r f.fC.length d) eZ (fun W hW=>(hH 0 L0 W h0 hW).1) O O) (oY O (a8 (us:=[]) kj O) ?_))))
 have f0:=hok.1
 refine qw (encL cI (List.replicate (Int.toNat (f.fC.length:Int)) 0)) bj j7 kY (by omega) (by omega) O (n4 _ _ _ O O) O (fun U=>?_)
 refine oY O (yAS O) (oN (aa (ae ?_)))
 rw[Int.toNat_natCast]
 refine cx_perm (L':=be (some ⟨U,0,none⟩) f.fC.length 3 1 f.fC.length (encL cI (List.replicate f.fC.length 0))::L0) (fun W hW=>hW.torr) ?_
 refine nW (fun(s:Nat) L tm=>∃(x:List Int) (L':List Res) (G:Nat→Value),(sCs f)[s]? = some x∧K s L'∧L=be (some ⟨U,0,none⟩) f.fC.length 3 1 x.length (encL cI x)::L'∧tm=(upd (upd (upd G 0 (.func (.yield l) #[] #[])) 1 (slA (some ⟨w,0,none⟩) 0)) 3 (.slice (some ⟨U,0,none⟩) x.length f.fC.length)))
  (fun s=>(sCs f).length-s) 0 ⟨List.replicate f.fC.length 0,L0,_,by rw[sCs,hodo.first,hkl],h0,by rw[List.length_replicate],keep (kp (kp O)) (by rw[List.length_replicate];rfl)⟩ ?_
 rintro s L tm ⟨x,L',G,hx,hK,rfl,rfl⟩
 have hxl:=hlen hx
 have hxm:x∈sCs f:=List.mem_of_getElem? hx
 have hsl:s<(sCs f).length:=(List.getElem?_eq_some_iff.1 hx).1
 refine ae (cS (cS (cR (oY O (iP (v:=.func (.yield l) #[] #[]) O) (oY O (yMS O) ?_)))))
 refine ox_yieldE (p:=be (some ⟨U,0,none⟩) f.fC.length 3 1 x.length (encL cI x)) [.slice (some ⟨U,0,none⟩) x.length f.fC.length] (K (s+1)) Kx O O O (fun W hW=>hy s x _ _ L' W hx hK hW) (fun L2 hK2=>?_) (fun L2 hK2=>?_)
 rotate_left
 ·refine oY O (fa O) (oN (aa (cT O (aq (ab (al ?_))))))
  refine o9 (by intro h;cases h) ?_
  refine al ?_
  exact gC (.inl O) O (fun W2 V=>⟨⟨_,O⟩,.inr ⟨L2,hK2,V⟩⟩)
 ·refine oY O (fa O) (oN (aa (cF O (cK (aa (cS (cR (oY O (yMS O) (oY O (a8 (us:=[]) bj O) (oY O (mY O O) (oY O (yAI O) (oN (aa (cS (ae ?_)))))))))))))))
  obtain⟨j',hj',Z,hmx,hne⟩:=sy f hok x hxm x.length (Nat.le_refl _) (fun q h1 h2=>by omega)
  rw[zC_full]at Z
  have y:w64 ((x.length:Int)-1)=(x.length:Int)-1:=gK (by omega) (by omega)
  rw[y]
  refine sR (fun(s:(Int × (List Int))) L tm=>∃(G:Nat→Value),f.fC.length=s.2.length∧L=be (some ⟨U,0,none⟩) f.fC.length 3 1 f.fC.length (encL cI s.2)::L2∧tm=(upd (upd (upd (upd G 0 (.func (.yield l) #[] #[])) 1 (slA (some ⟨w,0,none⟩) 0)) 3 (.slice (some ⟨U,0,none⟩) f.fC.length f.fC.length)) 4 (vI s.1)))
   (fun s e L tm=>e=.exit 2∧∃(G:Nat→Value),f.fC.length=s.2.length∧L=be (some ⟨U,0,none⟩) f.fC.length 3 1 f.fC.length (encL cI s.2)::L2∧tm=(upd (upd (upd (upd G 0 (.func (.yield l) #[] #[])) 1 (slA (some ⟨w,0,none⟩) 0)) 3 (.slice (some ⟨U,0,none⟩) f.fC.length f.fC.length)) 4 (vI s.1))) Z ⟨_,hxl.symm,by rw[hxl],(keep (keep (keep (keep O O) O) (by rw[←hxl];rfl)) O)⟩ ?_ ?_
  ·rintro D L tm st ⟨T,u,rfl,rfl⟩ h
   unfold fu at h
   refine cS (cS ?_)
   refine bl 17 di (by kernel_rfl) (by kernel_rfl) ?_
   refine qY O (yMI O) (qY O (rL O O) (qY O (yMB O) ?_))
   obtain⟨b,S,h⟩:=bOs h
   refine qJ 14 (fun G=>(upd (upd (upd (upd (upd G 0 (.func (.yield l) #[] #[])) 1 (slA (some ⟨w,0,none⟩) 0)) 3 (.slice (some ⟨U,0,none⟩) f.fC.length f.fC.length)) 4 (vI D.1)) 32 (.bool b))) (fun G=>?_) (fun key=>?_)
   ·refine dq (oN (aa ?_))
    rcases iOs h with⟨Y,h⟩|⟨Y,h⟩
    ·refine cT (vB Y) (cK (aa (ae (cS (cR (oY O (yMS O) (oY O (yMI O) ?_)))))))
     obtain⟨N,h⟩:=gOs h
     refine oY O (yI dC (by decide) N.1 N.2 (RdL.row 0 O) (eL ax u) O O) ?_
     refine d9 O (dP 0 (xs:=D.2) ax 0 rI O N.1 (av N.2 u) O O O O) (oN (aa (cR (oY O (yMI O) (oY O (mY O O) (oY O (yAI O) (oN (au ?_))))))))
     obtain rfl:=sI h
     exact eN ⟨_,(gJ u),O,(kp4 O)⟩
    ·refine cF (vB Y) (aJ (ak ?_))
     obtain rfl:=sI h
     exact aC ⟨O,_,u,O,(kp4 O)⟩
   ·clear h;rcases iOs S with⟨g,h⟩|⟨g,h⟩
    ·refine qY (sT O O O O g) (yMS O) (qY (sT O O O O g) (yMI O) ?_)
     obtain⟨Q,h⟩:=gOs h
     refine qY (sT O O O O g) (yI dC (by decide) Q.1 Q.2 (RdL.row 0 O) (eL ax u) O O) ?_
     refine qY (sT O O O O g) (yR (A:=(some ⟨U,0,none⟩)) (j:=(Int.toNat D.1*1)) (v:=vI (rdL D.2 D.1)) bW (RdL.row 0 O) O (aG ax Q.1 (av Q.2 u) O)) (qY (sT O O O O g) (bF O O) (qY (sT O O O O g) (yFR (A:=(some ⟨w,0,none⟩)) (j:=0) bp O) (qY (sT O O O O g) (yR (A:=(some ⟨w,0,none⟩)) (j:=(0+1)) (v:=.slice r f.fC.length d) eZ (hcapL hK2) O O) (qY (sT O O O O g) (yMI O) ?_))))
     obtain⟨E,h⟩:=gOs h
     refine qY (sT O O O O g) (yI kx (by decide) E.1 E.2 (hrdL hK2) (eL ad (NestP.hn hP O)) O O) ?_
     refine qY (sT O O O O g) (yFR (A:=r) (j:=(Int.toNat D.1*2)) db O) (qY (sT O O O O g) (yR (A:=r) (j:=((Int.toNat D.1*2)+1)) (v:=.slice ((rdL o D.1).1.1) ((rdL f.fC D.1).fO.length) ((rdL o D.1).1.2.2)) kd (hrdL hK2) O (eG ad E.1 (av E.2 (NestP.hn hP O)) (congrArg (fun n:Nat=>some (Value.slice (rdL o D.1).1.1 n (rdL o D.1).1.2.2)) (NestP.len hP E.1 (av E.2 O))))) (qY (sT O O O O g) (a8 (us:=[]) lJ O) (qY (sT O O O O g) (ge O O) (qY O (ar (vB g) O) ?_))))
     obtain rfl:=sI h
     exact key _ _ (kp4 (kp O))
    ·refine am (sF O O O O g) (am (sF O O O O g) (am (sF O O O O g) (am (sF O O O O g) (am (sF O O O O g) (am (sF O O O O g) (am (sF O O O O g) (am (sF O O O O g) (am (sF O O O O g) (am (sF O O O O g) (am (sF O O O O g) (am (sF O O O O g) (am (sF O O O O g) (qY O (ap (vB g) O) ?_)))))))))))))
     obtain rfl:=sI h
     exact key _ _ (kp4 (kp O))
  ·intro e L tm hJ
   obtain⟨rfl,R,t,rfl,rfl⟩:=hJ
   refine⟨(by intro hc;cases hc),?_⟩
   refine ai (aa (cS (cS (cR (oY O (yMI O) (oY O (bN O O) (oN (aa ?_))))))))
   rcases Nat.eq_zero_or_pos j' with hj0|hj0
   ·subst hj0
    refine cT (vB (decide_eq_true (by omega))) ?_
    refine aq (ab (al ?_))
    refine o9 (by intro h;cases h) ?_
    refine al ?_
    have hnx:=hodo.step s x hx
    rw[pe _ _ (by rw[hxl,hkl]) hmx]at hnx
    have hge:=List.getElem?_eq_none_iff.1 hnx
    have he:s+1=(sCs f).length:=by
     have:(sCs f).length≤s+1:=hge
     omega
    refine ex_perm (L':=L2) (fun W hW=>hW.tail) ?_
    exact gC (.inl O) O (fun W2 V=>⟨⟨_,O⟩,.inl ⟨L2,he▸hK2,V⟩⟩)
   ·obtain⟨i,rfl⟩:∃i,j'=i+1:=⟨j'-1,by omega⟩
    have hix:i<x.length:=by omega
    have hb:=(nX _ _ hxm).2 i (by rw[hkl,←hxl];exact hix)
    have hkb:(sKs f).getD i 0≤1000:=by
     rw[mT f i (by omega)]
     exact(hok.2 _ (rk (by omega) (by omega))).2
    have hzl:(zC x (i+1)).length=x.length:=zC_len (by omega)
    have ei:((i+1:Nat):Int)-1=(i:Int):=by omega
    dsimp only
    rw[ei]
    have h1:(0:Int)≤(i:Int):=by omega
    have h2:(i:Int)<(f.fC.length:Int):=by omega
    have hnz:f.fC.length=(zC x (i+1)).length:=by rw[hzl,hxl]
    refine cF (vB (decide_eq_false (by omega))) ?_
    refine cK (aa (cR (oY O (yMS O) (oY O (yMI O) ?_))))
    refine oY O (yI dC (by decide) h1 h2 (RdL.row 0 O) (eL ax hnz) O O) ?_
    refine oY O (yR (A:=(some ⟨U,0,none⟩)) (j:=(Int.toNat (i:Int)*1)) (v:=vI (rdL (zC x (i+1)) (i:Int))) bW (RdL.row 0 O) O (aG ax h1 (av h2 hnz) O)) (oY O (bF O O) ?_)
    refine oY O (yI dC (by decide) h1 h2 (RdL.row 0 O) (eL ax hnz) O O) ?_
    refine d9 O (dP 0 (xs:=zC x (i+1)) ax (w64 (rdL (zC x (i+1)) (i:Int)+1)) rI O h1 (av h2 hnz) O O O O) (oN (au ?_))
    have hv:w64 (rdL (zC x (i+1)) (i:Int)+1)=x.getD i 0+1:=by
     rw[zC_get hix,jI]
     exact gK (by omega) (by omega)
    have hnx:=hodo.step s x hx
    rw[rY _ _ i (by rw[hxl,hkl]) hix hmx (by simpa using hne (by omega)),←zC_set hix]at hnx
    have hnl:((zC x (i+1)).set i (x.getD i 0+1)).length=f.fC.length:=by rw[List.length_set,hzl,hxl]
    have hsl2:s+1<(sCs f).length:=(List.getElem?_eq_some_iff.1 hnx).1
    refine mB (s+1) ⟨(zC x (i+1)).set i (x.getD i 0+1),L2,_,hnx,hK2,?_,(keep (keep (keep O O) O) (by rw[hnl];rfl))⟩ (by omega)
    rw[hv,Int.toNat_natCast,hnl]
    rfl
theorem fo (p0:TL) (res:Unit) (h:cv p0=some res) (W:World) (Aa:Option Addr) (f ca:Nat) (r:f=p0.fNo.length) (d:Rd W Aa f ca (encL TNode_cells p0.fNo)) (Ab:Option Addr) (g cb:Nat) (o:List (Hd × TC)) (u:g=p0.fC.length) (w:Rd W Ab g cb (encL TClaim_cells2 o)) (D:NestW W (fun z:TC=>z.fO) THop_cells o p0.fC) :
  Calls Tryz.prog 86 [.agg #[.slice Aa f ca,.slice Ab g cb]].toArray W fun e W2=>∃x:Nat,e=.returned (.func (.func 130) #[] #[.pointer (some ⟨x,0,none⟩)])∧Ext W W2 [aj x 25 [.slice Aa f ca,.slice Ab g cb]]:=by
 subst r
 subst u
 unfold cv at h
 refine ah (m:=4) Tryz.func86 O O (nB O) (cS (cR ?_))
 refine aO [.slice Aa p0.fNo.length ca,.slice Ab p0.fC.length cb] O O O (fun E=>?_)
 refine oY O (mO O) (oN (aa (cS (cR (oY O (fQ [.pointer (some ⟨E,0,none⟩)] O O) (oY O (oS O) (oN (aa (aq ?_)))))))))
 obtain rfl:=sI h
 exact ao (.inl O) O (rVt (v:=.func (.func 130) #[] #[.pointer (some ⟨E,0,none⟩)]) O) (fun W2 F=>⟨E,O,F⟩)
theorem io (p0:(List Int)) (p1:Int) (p2:Int) (p3:Int→Int→Option Int) (res:(List Int)) (h:aU p0 p1 p2 p3=some res) (W:World) (q:World) (R:Res) (Aa:Option Addr) (r ca:Nat) (Q:r=p0.length) (fid3:Nat) (fst3 caps3:List Value) (X:cN Tryz.prog fid3=true) (Y:∀W2,Below q.heap.size q W2→R.holds W2→∀x b,∀y,p3 x b=some y→Calls Tryz.prog fid3 (fst3++(([vI x,vI b]:List Value)++caps3)).toArray W2 fun e W3=>e=.returned (vI y)∧Ext W2 W3 []) (hW:Ext q W [R,be Aa ca 3 1 r (encL cI p0)]) :
  Calls Tryz.prog 171 [.slice Aa r ca,vI p1,vI p2,.func (.func fid3) fst3.toArray caps3.toArray].toArray W fun e W2=>e=.returned (.tuple #[])∧r=res.length∧Ext q W2 [R,be Aa ca 3 1 r (encL cI res)]:=by
 subst Q
 unfold aU at h
 refine gv (m:=53) Tryz.func171 O O (nB O) hW (cS (cR (oY O (yMI O) (oY O (bF O O) (oY O (yAI O) (oN (aa (ae ?_))))))))
 obtain⟨c,Z,h⟩:=bOs h
 refine bo (fun(s:(Int × (List Int))) L tm=>∃(H:Nat→Value),p0.length=s.2.length∧L=[R,be Aa ca 3 1 p0.length (encL cI s.2)]∧tm=(upd (upd (upd (upd (upd H 0 (.slice Aa p0.length ca)) 1 (vI p1)) 2 (vI p2)) 3 (.func (.func fid3) fst3.toArray caps3.toArray)) 8 (vI s.1))) 0 Z ⟨_,O,O,(kp4 (kp O))⟩ ?_ ?_
 ·rintro p L tm st ⟨n,u,rfl,rfl⟩ h
  unfold aB at h
  refine cS (cS (cR (oY O (yMI O) (oY O (yMI O) (oY O (bN O O) (oN (aa ?_)))))))
  rcases iOs h with⟨U,h⟩|⟨U,h⟩
  ·refine cT (vB U) (cK (aa (cS (ae (cS (cR (oY O (yMI O) (oY O (yAI O) (oN (aa (ae ?_)))))))))))
   obtain⟨u9,V,h⟩:=bOs h
   refine bo (fun(s:(Int × (List Int))) L tm=>∃(H:Nat→Value),p0.length=s.2.length∧L=[R,be Aa ca 3 1 p0.length (encL cI s.2)]∧tm=(upd (upd (upd (upd (upd (upd (upd H 0 (.slice Aa p0.length ca)) 1 (vI p1)) 2 (vI p2)) 3 (.func (.func fid3) fst3.toArray caps3.toArray)) 8 (vI p.1)) 14 (.bool (decide (p.1<p2)))) 9 (vI s.1))) 2 V ⟨_,u,O,(kp4 (kp (kp (kp O))))⟩ ?_ ?_
   ·rintro o L tm st ⟨l,g,rfl,rfl⟩ h
    unfold aI at h
    refine cS (cS ?_)
    refine bl 17 di (by kernel_rfl) (by kernel_rfl) ?_
    refine qY O (yMI O) (qY O (yMI O) (qY O (i8 O O) (qY O (yMB O) ?_)))
    obtain⟨z,T,h⟩:=bOs h
    refine qJ 13 (fun H=>(upd (upd (upd (upd (upd (upd (upd (upd H 0 (.slice Aa p0.length ca)) 1 (vI p1)) 2 (vI p2)) 3 (.func (.func fid3) fst3.toArray caps3.toArray)) 8 (vI p.1)) 14 (.bool (decide (p.1<p2)))) 9 (vI o.1)) 34 (.bool z))) (fun H=>?_) (fun key=>?_)
    ·refine dq (oN (aa ?_))
     rcases iOs h with⟨I,h⟩|⟨I,h⟩
     ·refine cT (vB I) (cK (aa (cS (ae ?_))))
      obtain⟨d,h⟩:=gOs h
      obtain⟨w,h⟩:=gOs h
      obtain⟨D,h⟩:=gOs h
      obtain⟨E,h⟩:=gOs h
      refine j9 [[],[],[],[],[3],[],[],[6],[5,6,7],[5,6,7,8],[],[],[10,11],[10,11,12],[0,1,5,6,7,8,9,10,11,12,13],[0,1,5,6,7,8,9,10,11,12,13,14],[0,1,2,3,4,5,6,7,8,9,10,11,12,13,14,15],[0,1,2,3,4,5,6,7,8,9,10,11,12,13,14,15,16]] [(none,0,[true,true]),(none,0,[true,true]),(none,0,[true,false]),(none,0,[true,false]),(none,0,[true,false]),(none,0,[true,true]),(none,0,[true,true]),(none,0,[true,true]),(none,0,[true,true]),(none,0,[true,true]),(none,0,[true,true]),(none,0,[true,true]),(none,0,[true,true]),(none,0,[true,true]),(none,0,[true,true]),(some 1,0,[true,true]),(none,0,[true,true]),(some 1,0,[true,true])] [⟨fun _=>.slice Aa p0.length ca,fun _=>noR,fun _=>[]⟩,⟨fun _=>vI o.1,fun _=>noR,fun _=>[]⟩,⟨fun _=>.slice Aa p0.length ca,fun _=>noR,fun _=>[]⟩,⟨fun _=>vI o.1,fun _=>noR,fun _=>[]⟩,⟨fun _=>vI (w64 (o.1-1)),fun _=>noR,fun _=>[]⟩,⟨fun _=>.slice Aa p0.length ca,fun _=>noR,fun _=>[]⟩,⟨fun _=>vI o.1,fun _=>noR,fun _=>[]⟩,⟨fun _=>vI (w64 (o.1-1)),fun _=>noR,fun _=>[]⟩,⟨fun _=>slA Aa (Int.toNat (w64 (o.1-1))*1),fun _=>noR,fun _=>[]⟩,⟨fun _=>vI (rdL o.2 (w64 (o.1-1))),fun _=>noR,fun _=>[]⟩,⟨fun _=>.slice Aa p0.length ca,fun _=>noR,fun _=>[]⟩,⟨fun _=>vI o.1,fun _=>noR,fun _=>[]⟩,⟨fun _=>slA Aa (Int.toNat o.1*1),fun _=>noR,fun _=>[]⟩,⟨fun _=>vI (rdL o.2 o.1),fun _=>noR,fun _=>[]⟩,⟨fun _=>slA Aa (Int.toNat o.1*1),fun _=>noR,fun _=>[]⟩,⟨fun _=>undef,fun _=>be Aa ca 3 1 p0.length (encL cI (o.2.set (Int.toNat o.1) (rdL o.2 (w64 (o.1-1))))),fun _=>[]⟩,⟨fun _=>slA Aa (Int.toNat (w64 (o.1-1))*1),fun _=>noR,fun _=>[]⟩,⟨fun _=>undef,fun _=>be Aa ca 3 1 p0.length (encL cI ((o.2.set (Int.toNat o.1) (rdL o.2 (w64 (o.1-1)))).set (Int.toNat (w64 (o.1-1))) (rdL o.2 o.1))),fun _=>[]⟩] 2 di (by kernel_rfl) (by kernel_rfl) ⟨⟨fun ξ14 ξ14' h=>⟨O,O,O⟩,fun _=>O⟩,⟨fun ξ14 ξ14' h=>⟨O,O,O⟩,fun _=>O⟩,⟨fun ξ14 ξ14' h=>⟨O,O,O⟩,fun _=>O⟩,⟨fun ξ14 ξ14' h=>⟨O,O,O⟩,fun _=>O⟩,⟨fun ξ14 ξ14' h=>⟨O,O,O⟩,fun _=>O⟩,⟨fun ξ14 ξ14' h=>⟨O,O,O⟩,fun _=>O⟩,⟨fun ξ14 ξ14' h=>⟨O,O,O⟩,fun _=>O⟩,⟨fun ξ14 ξ14' h=>⟨O,O,O⟩,fun _=>O⟩,⟨fun ξ14 ξ14' h=>⟨O,O,O⟩,fun _=>O⟩,⟨fun ξ14 ξ14' h=>⟨O,O,O⟩,fun _=>O⟩,⟨fun ξ14 ξ14' h=>⟨O,O,O⟩,fun _=>O⟩,⟨fun ξ14 ξ14' h=>⟨O,O,O⟩,fun _=>O⟩,⟨fun ξ14 ξ14' h=>⟨O,O,O⟩,fun _=>O⟩,⟨fun ξ14 ξ14' h=>⟨O,O,O⟩,fun _=>O⟩,⟨fun ξ14 ξ14' h=>⟨O,O,O⟩,fun _=>O⟩,⟨fun ξ14 ξ14' h=>⟨O,O,O⟩,fun _=>O⟩,⟨fun ξ14 ξ14' h=>⟨O,O,O⟩,fun _=>O⟩,⟨fun ξ14 ξ14' h=>⟨O,O,O⟩,fun _=>O⟩,trivial⟩ O (fun ξ14=>?_)
      refine fq O (fun L2=>?_) ?_
      ·dsimp only[aP,lca,lna]
       refine oY O (yMS O) (oN ?_)
       exact aE (fun _=>(none,0,0,[],noR)) O (List.append_nil _)
      dsimp only[dG,lsz,lss,lna,lca,List.append_nil]
      refine fq O (fun L2=>?_) ?_
      ·dsimp only[aP,lca,lna]
       refine oY O (yMI O) (oN ?_)
       exact aE (fun _=>(none,0,0,[],noR)) O (List.append_nil _)
      dsimp only[dG,lsz,lss,lna,lca,List.append_nil]
      refine fq O (fun L2=>?_) ?_
      ·dsimp only[aP,lca,lna]
       refine oY O (yMS O) (oN ?_)
       exact aE (fun _=>(none,0,0,[],noR)) O (List.append_nil _)
      dsimp only[dG,lsz,lss,lna,lca,List.append_nil]
      refine fq O (fun L2=>?_) ?_
      ·dsimp only[aP,lca,lna]
       refine oY O (yMI O) (oN ?_)
       exact aE (fun _=>(none,0,0,[],noR)) O (List.append_nil _)
      dsimp only[dG,lsz,lss,lna,lca,List.append_nil]
      refine fq O (fun L2=>?_) ?_
      ·dsimp only[aP,lca,lna]
       refine oY O (mY O O) (oN ?_)
       exact aE (fun _=>(none,0,0,[],noR)) O (List.append_nil _)
      dsimp only[dG,lsz,lss,lna,lca,List.append_nil]
      refine fq O (fun L2=>?_) ?_
      ·dsimp only[aP,lca,lna]
       refine oY O (yMS O) (oN ?_)
       exact aE (fun _=>(none,0,0,[],noR)) O (List.append_nil _)
      dsimp only[dG,lsz,lss,lna,lca,List.append_nil]
      refine fq O (fun L2=>?_) ?_
      ·dsimp only[aP,lca,lna]
       refine oY O (yMI O) (oN ?_)
       exact aE (fun _=>(none,0,0,[],noR)) O (List.append_nil _)
      dsimp only[dG,lsz,lss,lna,lca,List.append_nil]
      refine fq O (fun L2=>?_) ?_
      ·dsimp only[aP,lca,lna]
       refine oY O (mY O O) (oN ?_)
       exact aE (fun _=>(none,0,0,[],noR)) O (List.append_nil _)
      dsimp only[dG,lsz,lss,lna,lca,List.append_nil]
      refine fq O (fun L2=>?_) ?_
      ·dsimp only[aP,lca,lna]
       refine oY O (yI dC (by decide) d.1 d.2 (RdL.row 1 O) (eL ax g) O O) ?_
       refine oN ?_
       exact aE (fun _=>(none,0,0,[],noR)) O (List.append_nil _)
      dsimp only[dG,lsz,lss,lna,lca,List.append_nil]
      refine fq O (fun L2=>?_) ?_
      ·dsimp only[aP,lca,lna]
       refine oY O (yR (A:=Aa) (j:=(Int.toNat (w64 (o.1-1))*1)) (v:=vI (rdL o.2 (w64 (o.1-1)))) bW (RdL.row 1 O) O (aG ax d.1 (av d.2 g) O)) (oN ?_)
       exact aE (fun _=>(none,0,0,[],noR)) O (List.append_nil _)
      dsimp only[dG,lsz,lss,lna,lca,List.append_nil]
      refine fq O (fun L2=>?_) ?_
      ·dsimp only[aP,lca,lna]
       refine oY O (yMS O) (oN ?_)
       exact aE (fun _=>(none,0,0,[],noR)) O (List.append_nil _)
      dsimp only[dG,lsz,lss,lna,lca,List.append_nil]
      refine fq O (fun L2=>?_) ?_
      ·dsimp only[aP,lca,lna]
       refine oY O (yMI O) (oN ?_)
       exact aE (fun _=>(none,0,0,[],noR)) O (List.append_nil _)
      dsimp only[dG,lsz,lss,lna,lca,List.append_nil]
      refine fq O (fun L2=>?_) ?_
      ·dsimp only[aP,lca,lna]
       refine oY O (yI dC (by decide) w.1 w.2 (RdL.row 1 O) (eL ax g) O O) ?_
       refine oN ?_
       exact aE (fun _=>(none,0,0,[],noR)) O (List.append_nil _)
      dsimp only[dG,lsz,lss,lna,lca,List.append_nil]
      refine fq O (fun L2=>?_) ?_
      ·dsimp only[aP,lca,lna]
       refine oY O (yR (A:=Aa) (j:=(Int.toNat o.1*1)) (v:=vI (rdL o.2 o.1)) bW (RdL.row 1 O) O (aG ax w.1 (av w.2 g) O)) (oN ?_)
       exact aE (fun _=>(none,0,0,[],noR)) O (List.append_nil _)
      dsimp only[dG,lsz,lss,lna,lca,List.append_nil]
      refine fq O (fun L2=>?_) ?_
      ·dsimp only[aP,lca,lna]
       refine oY O (yI dC (by decide) D.1 D.2 (RdL.row 1 O) (eL ax g) O O) ?_
       refine oN ?_
       exact aE (fun _=>(none,0,0,[],noR)) O (List.append_nil _)
      dsimp only[dG,lsz,lss,lna,lca,List.append_nil]
      refine gx_n O (fun L2=>?_) ?_
      ·dsimp only[aP,lca,lna]
       refine d9 O (dP 1 (xs:=o.2) ax (rdL o.2 (w64 (o.1-1))) rI O D.1 (av D.2 g) O O O O) (oN ?_)
       first|exact fc (fun _=>(none,0,0,[],noR)) O|exact fc (fun _=>(none,0,0,[],noR)) (List.append_nil _)
      dsimp only[dG,lsz,lss,lna,lca,List.append_nil]
      refine fq O (fun L2=>?_) ?_
      ·dsimp only[aP,lca,lna]
       refine oY O (yI dC (by decide) E.1 E.2 (RdL.row 1 O) (eL ax (gJ g)) O O) ?_
       refine oN ?_
       exact aE (fun _=>(none,0,0,[],noR)) O (List.append_nil _)
      dsimp only[dG,lsz,lss,lna,lca,List.append_nil]
      refine gx_n O (fun L2=>?_) ?_
      ·dsimp only[aP,lca,lna]
       refine d9 O (dP 1 (xs:=(o.2.set (Int.toNat o.1) (rdL o.2 (w64 (o.1-1))))) ax (rdL o.2 o.1) rI O E.1 (av E.2 (gJ g)) O O O O) (oN ?_)
       first|exact fc (fun _=>(none,0,0,[],noR)) O|exact fc (fun _=>(none,0,0,[],noR)) (List.append_nil _)
      dsimp only[dG,lsz,lss,lna,lca,List.append_nil]
      refine pF (au (aa (cR (oY O (yMI O) (oY O (mY O O) (oY O (yAI O) (oN ?_)))))))
      obtain rfl:=sI h
      exact eN ⟨_,(gJ (gJ g)),O,(kp4 (kp (kp (kp O))))⟩
     ·refine cF (vB I) (aJ (ak ?_))
      obtain rfl:=sI h
      exact aC ⟨O,_,g,O,(kp4 (kp (kp (kp O))))⟩
    ·clear h;rcases iOs T with⟨f,h⟩|⟨f,h⟩
     ·refine qY (sT O O O O f) (iP (v:=.func (.func fid3) fst3.toArray caps3.toArray) O) (qY (sT O O O O f) (yMS O) (qY (sT O O O O f) (yMI O) ?_))
      obtain⟨F,h⟩:=gOs h
      refine qY (sT O O O O f) (yI dC (by decide) F.1 F.2 (RdL.row 1 O) (eL ax g) O O) ?_
      refine qY (sT O O O O f) (yR (A:=Aa) (j:=(Int.toNat o.1*1)) (v:=vI (rdL o.2 o.1)) bW (RdL.row 1 O) O (aG ax F.1 (av F.2 g) O)) (qY (sT O O O O f) (yMS O) (qY (sT O O O O f) (yMI O) (qY (sT O O O O f) (mY O O) ?_)))
      obtain⟨G,h⟩:=gOs h
      refine qY (sT O O O O f) (yI dC (by decide) G.1 G.2 (RdL.row 1 O) (eL ax g) O O) ?_
      refine qY (sT O O O O f) (yR (A:=Aa) (j:=(Int.toNat (w64 (o.1-1))*1)) (v:=vI (rdL o.2 (w64 (o.1-1)))) bW (RdL.row 1 O) O (aG ax G.1 (av G.2 g) O)) ?_
      obtain⟨k,S,h⟩:=bOs h
      refine qY (sT O O O O f) (jH [vI (rdL o.2 o.1),vI (rdL o.2 (w64 (o.1-1)))] X O O (fun W2 K=>Y W2 K.below (K.mem (i:=0) O) (rdL o.2 o.1) (rdL o.2 (w64 (o.1-1))) k S)) (qY (sT O O O O f) (bN O O) (qY O (ar (vB f) O) ?_))
      obtain rfl:=sI h
      exact key _ _ (kp4 (kp4 O))
     ·refine am (sF O O O O f) (am (sF O O O O f) (am (sF O O O O f) (am (sF O O O O f) (am (sF O O O O f) (am (sF O O O O f) (am (sF O O O O f) (am (sF O O O O f) (am (sF O O O O f) (am (sF O O O O f) (am (sF O O O O f) (am (sF O O O O f) (qY O (ap (vB f) O) ?_))))))))))))
      obtain rfl:=sI h
      exact key _ _ (kp4 (kp4 O))
   ·intro e L tm hJ
    obtain⟨rfl,t,M,rfl,rfl⟩:=hJ
    refine⟨(by intro hc;cases hc),?_⟩
    refine ai (au (aa (cR (oY O (yMI O) (oY O (bF O O) (oY O (yAI O) (oN ?_)))))))
    obtain rfl:=sI h
    exact eN ⟨_,M,O,(kp4 (kp O))⟩
  ·refine cF (vB U) (aJ (ak ?_))
   obtain rfl:=sI h
   exact aC ⟨O,_,u,O,(kp4 (kp O))⟩
 ·intro e L tm hJ
  obtain⟨rfl,a,N,rfl,rfl⟩:=hJ
  refine⟨(by intro hc;cases hc),?_⟩
  refine ai ?_
  obtain rfl:=sI h
  exact gC (.inr O) O  (fun W2 K=>⟨O,N,K.take 2⟩)
theorem kW (p0:(List Int)) (p1:Int) (p2:Int→Int→Option Int) (res:(List Int)) (h:bO p0 p1 p2=some res) (W:World) (G:World) (R:Res) (Aa:Option Addr) (f ca:Nat) (g:f=p0.length) (fid2:Nat) (fst2 caps2:List Value) (u:cN Tryz.prog fid2=true) (d:∀W2,Below G.heap.size G W2→R.holds W2→∀X Y,∀y,p2 X Y=some y→Calls Tryz.prog fid2 (fst2++(([vI X,vI Y]:List Value)++caps2)).toArray W2 fun e W3=>e=.returned (vI y)∧Ext W2 W3 []) (hW:Ext G W [R,be Aa ca 3 1 f (encL cI p0)]) :
  Calls Tryz.prog 169 [.slice Aa f ca,vI p1,.func (.func fid2) fst2.toArray caps2.toArray].toArray W fun e W2=>e=.returned (.tuple #[])∧f=res.length∧Ext G W2 [R,be Aa ca 3 1 f (encL cI res)]:=by
 subst g
 unfold bO at h
 refine gv (m:=63) Tryz.func169 O O (nB O) hW (cS (cR (oY O (yAI O) (oN (aa (cS (cR (oY O (yMI O) (oY O (yAI O) (oY O (yAI O) (oN (aa (cS (ae ?_))))))))))))))
 obtain⟨Z,M,h⟩:=bOs h
 refine bo (fun(s:(Int × Int)) L tm=>∃(o:Nat→Value),L=[R,be Aa ca 3 1 p0.length (encL cI p0)]∧tm=(upd (upd (upd (upd (upd (upd o 0 (.slice Aa p0.length ca)) 1 (vI p1)) 2 (.func (.func fid2) fst2.toArray caps2.toArray)) 6 (vI 20)) 7 (vI s.1)) 8 (vI s.2))) 0 M ⟨_,O,(kp4 (kp (kp O)))⟩ ?_ ?_
 ·rintro S L tm st ⟨H,rfl,rfl⟩ h
  unfold bv at h
  refine cS (cS (cR (oY O (yMI O) (oY O (yMI O) (oY O (pO O O) (oN (aa ?_)))))))
  obtain⟨N,h⟩:=gOs h
  refine cF (vB N) (aJ (ak ?_))
  obtain rfl:=sI h
  exact aC ⟨O,_,O,(kp4 (kp (kp O)))⟩
 ·intro e L tm hJ
  obtain⟨rfl,I,rfl,rfl⟩:=hJ
  refine⟨(by intro hc;cases hc),?_⟩
  refine ai (aa (cS (cR (oY O (yMS O) (oY O (yMI O) (oY O (yMI O) (oY O (iP (v:=.func (.func fid2) fst2.toArray caps2.toArray) O) ?_)))))))
  obtain⟨K,Q,h⟩:=bOs h
  refine kE 1 [.slice Aa p0.length ca,vI Z.1,vI p1,.func (.func fid2) fst2.toArray caps2.toArray] (fun(_:Unit)=>p0.length=K.length) (fun _=>.tuple #[]) (fun _=>be Aa ca 3 1 p0.length (encL cI K)) (fun _=>[]) O O go_171 O (fun W2 r=>(io p0 Z.1 p1 p2 K Q W2 _ (na [R,be Aa ca 3 1 p0.length (encL cI p0)] [1]) Aa p0.length ca O fid2 fst2 caps2 u (fun W3 hb hR=>d W3 hb (hR.1 0 _ (by decide) O)) r).mono (fun e W3 h3=>⟨(),h3.2.1,h3.1,h3.2.2⟩)) ?_
  rintro-U
  try dsimp only[lsz,lss,List.append_nil]
  refine oN (aa (ae ?_))
  obtain⟨V,w,h⟩:=bOs h
  refine bo (fun(s:(Int × Int × Int)) L tm=>∃(o:Nat→Value),L=[R,be Aa ca 3 1 p0.length (encL cI K)]∧tm=(upd (upd (upd (upd (upd (upd o 0 (.slice Aa p0.length ca)) 1 (vI p1)) 2 (.func (.func fid2) fst2.toArray caps2.toArray)) 6 (vI s.1)) 7 (vI s.2.1)) 8 (vI s.2.2))) 2 w ⟨_,O,(kp4 (kp (kp O)))⟩ ?_ ?_
  ·rintro T L tm st ⟨D,rfl,rfl⟩ h
   unfold bz at h
   refine cS (cS (cR (oY O (yMI O) (oY O (yMI O) (oY O (bN O O) (oN (aa ?_)))))))
   obtain⟨E,h⟩:=gOs h
   refine cF (vB E) (aJ (ak ?_))
   obtain rfl:=sI h
   exact aC ⟨O,_,O,(kp4 (kp (kp O)))⟩
  ·intro e L tm hJ
   obtain⟨rfl,F,rfl,rfl⟩:=hJ
   refine⟨(by intro hc;cases hc),?_⟩
   refine ai ?_
   obtain rfl:=sI h
   exact gC (.inr O) O  (fun W2 r=>⟨O,U,r.take 2⟩)
theorem jc (p0:(List Int)) (p1:Int→Int→Option Int) (res:(List Int)) (h:bg p0 p1=some res) (W:World) (d:World) (R:Res) (Aa:Option Addr) (f ca:Nat) (g:f=p0.length) (fid1:Nat) (fst1 caps1:List Value) (r:cN Tryz.prog fid1=true) (u:∀W2,Below d.heap.size d W2→R.holds W2→∀F G,∀y,p1 F G=some y→Calls Tryz.prog fid1 (fst1++(([vI F,vI G]:List Value)++caps1)).toArray W2 fun e W3=>e=.returned (vI y)∧Ext W2 W3 []) (hW:Ext d W [R,be Aa ca 3 1 f (encL cI p0)]) :
  Calls Tryz.prog 159 [.slice Aa f ca,.func (.func fid1) fst1.toArray caps1.toArray].toArray W fun e W2=>e=.returned (.tuple #[])∧f=res.length∧Ext d W2 [R,be Aa ca 3 1 f (encL cI res)]:=by
 subst g
 unfold bg at h
 refine gv (m:=9) Tryz.func159 O O (nB O) hW (cR (oY O (yMS O) (oY O (yMS O) (oY O (a8 (us:=[]) bj O) (oY O (iP (v:=.func (.func fid1) fst1.toArray caps1.toArray) O) ?_)))))
 obtain⟨w,D,h⟩:=bOs h
 refine kE 1 [.slice Aa p0.length ca,vI (p0.length:Int),.func (.func fid1) fst1.toArray caps1.toArray] (fun(_:Unit)=>p0.length=w.length) (fun _=>.tuple #[]) (fun _=>be Aa ca 3 1 p0.length (encL cI w)) (fun _=>[]) O O go_169 O (fun W2 o=>(kW p0 (p0.length:Int) p1 w D W2 _ (na [R,be Aa ca 3 1 p0.length (encL cI p0)] [1]) Aa p0.length ca O fid1 fst1 caps1 r (fun W3 hb hR=>u W3 hb (hR.1 0 _ (by decide) O)) o).mono (fun e W3 h3=>⟨(),h3.2.1,h3.1,h3.2.2⟩)) ?_
 rintro-E
 try dsimp only[lsz,lss,List.append_nil]
 refine oN ?_
 obtain rfl:=sI h
 exact gC (.inr O) O  (fun W2 o=>⟨O,E,o.take 2⟩)
theorem nL (p0:Int) (p1:Int) (res:Int) (h:dR p0 p1=some res) (W:World)  :
  Calls Tryz.prog 161 [vI p0,vI p1].toArray W fun e W2=>e=.returned (vI res)∧Ext W W2 []:=by
 unfold dR at h
 refine ah (m:=20) Tryz.func161 O O (nB O) (cS (cR (oY O (yAI O) (oN (aa (cS (cR (oY O (yMI O) ?_))))))))
 obtain⟨E,w,h⟩:=bOs h
 refine oY O (yC [vI p0] go_168 O (fun W2 f=>gZ p0 E w W2 ) O) (oY O (yAB O) (oN (aa (cS (cR (oY O (yMI O) ?_))))))
 obtain⟨F,D,h⟩:=bOs h
 refine oY O (yC [vI p1] go_168 O (fun W2 f=>gZ p1 F D W2 ) O) (oY O (yAB O) (oN (aa (cS (cS (cR (oY O (yMB O) (oN (aa ?_)))))))))
 rcases iOs h with⟨g,h⟩|⟨g,h⟩
 ·refine cT (vB g) (cS (cS (cR (oY O (yMB O) (oN (aa ?_))))))
  rcases iOs h with⟨o,h⟩|⟨o,h⟩
  ·refine cT (vB o) (cS (cR (oY O (yAI O) (oN (aa (aq (ab (ab ?_))))))))
   obtain rfl:=sI h
   exact ao (.inl O) O (rVt (v:=vI 0) O) (fun W2 f=>⟨O,f.none⟩)
  ·refine cF (vB o) (cK (aa (cS (cR (oY O (yAI O) (oN (aa (aq (ab ?_)))))))))
   obtain rfl:=sI h
   exact ao (.inl O) O (rVt (v:=vI (-1)) O) (fun W2 f=>⟨O,f.none⟩)
 ·refine cF (vB g) (cK (aa (cS (cS (cR (oY O (yMB O) (oN (aa ?_))))))))
  rcases iOs h with⟨r,h⟩|⟨r,h⟩
  ·refine cT (vB r) (cS (cR (oY O (yAI O) (oN (aa (aq (ab ?_)))))))
   obtain rfl:=sI h
   exact ao (.inl O) O (rVt (v:=vI 1) O) (fun W2 f=>⟨O,f.none⟩)
  ·refine cF (vB r) (cK (aa (cS (cS (cR (oY O (yMI O) (oY O (yMI O) (oY O (bN O O) (oN (aa ?_))))))))))
   rcases iOs h with⟨u,h⟩|⟨u,h⟩
   ·refine cT (vB u) (cS (cR (oY O (yAI O) (oN (aa (aq (ab ?_)))))))
    obtain rfl:=sI h
    exact ao (.inl O) O (rVt (v:=vI (-1)) O) (fun W2 f=>⟨O,f.none⟩)
   ·refine cF (vB u) (cK (aa (cS (cS (cR (oY O (yMI O) (oY O (yMI O) (oY O (i8 O O) (oN (aa ?_))))))))))
    rcases iOs h with⟨d,h⟩|⟨d,h⟩
    ·refine cT (vB d) (cS (cR (oY O (yAI O) (oN (aa (aq (ab ?_)))))))
     obtain rfl:=sI h
     exact ao (.inl O) O (rVt (v:=vI 1) O) (fun W2 f=>⟨O,f.none⟩)
    ·refine cF (vB d) (cK (aa (cS (cR (oY O (yAI O) (oN (aa (aq ?_))))))))
     obtain rfl:=sI h
     exact ao (.inl O) O (rVt (v:=vI 0) O) (fun W2 f=>⟨O,f.none⟩)
theorem nQ (p0:Int) (p1:Int) (g:TL) (res:Int) (h:du p0 p1 g=some res) (W:World) (F:Nat) (f:Option Addr) (u r:Nat) (G:u=g.fNo.length) (o:Rd W f u r (encL TNode_cells g.fNo)) (D:Option Addr) (d E:Nat) (w:List (Hd × TC)) (H:d=g.fC.length) (N:Rd W D d E (encL TClaim_cells2 w)) (Q:NestW W (fun z:TC=>z.fO) THop_cells w g.fC) (I:Rd W (some ⟨F,0,none⟩) 1 1 [.slice f u r,.slice D d E]) :
  Calls Tryz.prog 160 [vI p0,vI p1,.pointer (some ⟨F,0,none⟩)].toArray W fun e W2=>e=.returned (vI res)∧Ext W W2 []:=by
 subst G
 subst H
 unfold du at h
 refine ah (m:=19) Tryz.func160 O O (nB O) (cS (cR (oY O (yAI O) (oN (aa (cS ?_))))))
 refine bl 14 di (by kernel_rfl) (by kernel_rfl) ?_
 refine qY O (yFR (A:=(some ⟨F,0,none⟩)) (j:=0) cJ O) (qY O (yR (A:=(some ⟨F,0,none⟩)) (j:=(0+0)) (v:=.slice f g.fNo.length r) iM (RdL.arg I) O O) (qY O (yMI O) ?_))
 obtain⟨K,h⟩:=gOs h
 refine qY O (yI nG (by decide) K.1 K.2 (RdL.arg o) (eL ay O) O O) ?_
 refine qY O (yFR (A:=f) (j:=(Int.toNat p0*3)) lX O) (qY O (yR (A:=f) (j:=((Int.toNat p0*3)+1)) (v:=vI ((rdL g.fNo p0).fLevel)) bW (RdL.arg o) O (eG ay K.1 (av K.2 O) O)) (qY O (yFR (A:=(some ⟨F,0,none⟩)) (j:=0) cJ O) (qY O (yR (A:=(some ⟨F,0,none⟩)) (j:=(0+0)) (v:=.slice f g.fNo.length r) iM (RdL.arg I) O O) (qY O (yMI O) ?_))))
 obtain⟨M,h⟩:=gOs h
 refine qY O (yI nG (by decide) M.1 M.2 (RdL.arg o) (eL ay O) O O) ?_
 refine qY O (yFR (A:=f) (j:=(Int.toNat p1*3)) lX O) (qY O (yR (A:=f) (j:=((Int.toNat p1*3)+1)) (v:=vI ((rdL g.fNo p1).fLevel)) bW (RdL.arg o) O (eG ay M.1 (av M.2 O) O)) ?_)
 obtain⟨Y,X,h⟩:=bOs h
 refine qY O (yC [vI ((rdL g.fNo p0).fLevel),vI ((rdL g.fNo p1).fLevel)] go_161 O (fun W2 U=>nL ((rdL g.fNo p0).fLevel) ((rdL g.fNo p1).fLevel) Y X W2 ) O) (qY O (yAI O) (dq (oN (aa (aq ?_)))))
 obtain rfl:=sI h
 exact ao (.inl O) O (rVt (v:=vI Y) O) (fun W2 U=>⟨O,U.none⟩)
theorem qa (p0:TL) (res:(List Int)) (h:fx p0=some res) (W:World) (Aa:Option Addr) (r ca:Nat) (E:r=p0.fNo.length) (F:Rd W Aa r ca (encL TNode_cells p0.fNo)) (Ab:Option Addr) (u cb:Nat) (g:List (Hd × TC)) (G:u=p0.fC.length) (H:Rd W Ab u cb (encL TClaim_cells2 g)) (I:NestW W (fun z:TC=>z.fO) THop_cells g p0.fC) :
  Calls Tryz.prog 131 [.agg #[.slice Aa r ca,.slice Ab u cb]].toArray W fun e W2=>∃x:Option Addr × Nat × Nat,x.2.1=res.length∧e=.returned (.slice x.1 x.2.1 x.2.2)∧Ext W W2 [be x.1 x.2.2 3 1 x.2.1 (encL cI res)]:=by
 subst E
 subst G
 unfold fx at h
 refine ah (m:=23) Tryz.func131 O O (nB O) (cS (cR ?_))
 refine aO [.slice Aa p0.fNo.length ca,.slice Ab p0.fC.length cb] O O O (fun K=>?_)
 refine oY O (yAS O) (oN (aa (cS (cR (oY O (yFA cJ O) (oY O (yL 0 iM O O O) (oY O (a8 (us:=[]) lM O) ?_)))))))
 obtain⟨Q,h⟩:=gOs h
 refine qw (encL cI (List.replicate (Int.toNat (p0.fNo.length:Int)) 0)) bj j7 kY Q.1 Q.2 O (n4 _ _ _ O O) O (fun D=>?_)
 refine oY O (yAS O) (oN (aa (cS (cS (cR (oY O (yMS O) (oY O (a8 (us:=[]) bj O) (oY O (yMI O) (oN (aa (ae ?_)))))))))))
 obtain⟨q,U,h⟩:=bOs h
 refine bo (fun(s:(Int × (List Int))) L tm=>∃(T:Nat→Value),Int.toNat (p0.fNo.length:Int)=s.2.length∧L=[aj K 25 [.slice Aa p0.fNo.length ca,.slice Ab p0.fC.length cb],be (some ⟨D,0,none⟩) (Int.toNat (p0.fNo.length:Int)) 3 1 (Int.toNat (p0.fNo.length:Int)) (encL cI s.2)]∧tm=(upd (upd (upd (upd (upd T 1 (.pointer (some ⟨K,0,none⟩))) 2 (.slice none 0 0)) 3 (.slice (some ⟨D,0,none⟩) (Int.toNat (p0.fNo.length:Int)) (Int.toNat (p0.fNo.length:Int)))) 10 (vI ((Int.toNat (p0.fNo.length:Int):Nat):Int))) 11 (vI s.1))) 0 U ⟨_,(List.length_replicate).symm,O,(kp4 (kp O))⟩ ?_ ?_
 ·rintro p L tm st ⟨Z,f,rfl,rfl⟩ h
  unfold cU at h
  refine cS (cR (oY O (bN O O) (oN (aa (cS ?_)))))
  rcases iOs h with⟨M,h⟩|⟨M,h⟩
  ·refine cT (vB M) (cK (aa (cS (ae (cS (cR (oY O (yMI O) (oY O (yAI O) (oN (aa (cR (oY O (yMS O) (oY O (yMI O) (oY O (yMI O) ?_))))))))))))))
   obtain⟨d,h⟩:=gOs h
   refine oY O (yI dC (by decide) d.1 d.2 (RdL.row 1 O) (eL ax f) O O) ?_
   refine d9 O (dP 1 (xs:=p.2) ax p.1 rI O d.1 (av d.2 f) O O O O) (oN (au (aa (cR (oY O (bF O O) (oY O (yMI O) (oN ?_)))))))
   obtain rfl:=sI h
   exact eN ⟨_,(gJ f),O,(kp4 (kp O))⟩
  ·refine cF (vB M) (aJ (ak ?_))
   obtain rfl:=sI h
   exact aC ⟨O,_,f,O,(kp4 (kp O))⟩
 ·intro e L tm hJ
  obtain⟨rfl,V,w,rfl,rfl⟩:=hJ
  refine⟨(by intro hc;cases hc),?_⟩
  refine ai (aa (cS (cR (oY O (yMS O) (oY O (fQ [.pointer (some ⟨K,0,none⟩)] O O) ?_)))))
  obtain⟨N,X,h⟩:=bOs h
  refine kE 1 [.slice (some ⟨D,0,none⟩) (Int.toNat (p0.fNo.length:Int)) (Int.toNat (p0.fNo.length:Int)),.func (.func 160) #[] #[.pointer (some ⟨K,0,none⟩)]] (fun(_:Unit)=>Int.toNat (p0.fNo.length:Int)=N.length) (fun _=>.tuple #[]) (fun _=>be (some ⟨D,0,none⟩) (Int.toNat (p0.fNo.length:Int)) 3 1 (Int.toNat (p0.fNo.length:Int)) (encL cI N)) (fun _=>[]) O O go_159 O (fun W2 o=>(jc q.2 (fun S R=>du S R p0) N X W2 _ (na [aj K 25 [.slice Aa p0.fNo.length ca,.slice Ab p0.fC.length cb],be (some ⟨D,0,none⟩) (Int.toNat (p0.fNo.length:Int)) 3 1 (Int.toNat (p0.fNo.length:Int)) (encL cI q.2)] [1]) (some ⟨D,0,none⟩) (Int.toNat (p0.fNo.length:Int)) (Int.toNat (p0.fNo.length:Int)) (w) 160 [] [.pointer (some ⟨K,0,none⟩)] go_160 (fun W3 hb hR n l y hxy=>nQ  n l p0 y hxy W3 K Aa p0.fNo.length ca O ((RdL.arg F) W3 (o.rest hb hR)) Ab p0.fC.length cb g O ((RdL.arg H) W3 (o.rest hb hR)) (NestL.at (NestL.arg I) W3 (o.rest hb hR)) ((RdL.cells 0 O) W3 (o.rest hb hR))) o).mono (fun e W3 h3=>⟨(),h3.2.1,h3.1,h3.2.2⟩)) ?_
  rintro-Y
  try dsimp only[lsz,lss,List.append_nil]
  refine oN (aa (cS (cR (oY O (yMS O) (oY O (yAS O) (oN (aa (aq ?_))))))))
  obtain rfl:=sI h
  exact ao (.inl O) O (rVt (v:=.slice (some ⟨D,0,none⟩) (Int.toNat (p0.fNo.length:Int)) (Int.toNat (p0.fNo.length:Int))) O) (fun W2 o=>⟨((some ⟨D,0,none⟩),Int.toNat (p0.fNo.length:Int),Int.toNat (p0.fNo.length:Int)),Y,O,(o.pick 1 O)⟩)
theorem dQ (p0:TL) (p1:(List Int)) (p2:Int→Int→Option Bool) (res:(List (Int × Bool))) (h:rcR p0 p1 p2=some res) (W:World) (Aa:Option Addr) (X ca:Nat) (f0:X=p0.fNo.length) (F:Rd W Aa X ca (encL TNode_cells p0.fNo)) (Ab:Option Addr) (Y cb:Nat) (o:List (Hd × TC)) (f1:Y=p0.fC.length) (G:Rd W Ab Y cb (encL TClaim_cells2 o)) (d:NestW W (fun z:TC=>z.fO) THop_cells o p0.fC) (Ac:Option Addr) (Z cc:Nat) (f2:Z=p1.length) (V:Rd W Ac Z cc (encL cI p1)) (fid2:Nat) (fst2 caps2:List Value) (fE:cN Tryz.prog fid2=true) (fN:∀W2,Below W.heap.size W W2→∀x0 x1,∀y,p2 x0 x1=some y→Calls Tryz.prog fid2 (fst2++(([vI x0,vI x1]:List Value)++caps2)).toArray W2 fun e W3=>e=.returned (.bool y)∧Ext W2 W3 []) :
  Calls Tryz.prog 87 [.agg #[.slice Aa X ca,.slice Ab Y cb],.slice Ac Z cc,.func (.func fid2) fst2.toArray caps2.toArray].toArray W fun e W2=>∃x:Nat,e=.returned (.map (some x))∧Ext W W2 [mapV Tryz.prog 3 kI cX kB false x res]:=by
 subst f0
 subst f1
 subst f2
 unfold rcR at h
 refine ah (m:=94) Tryz.func87 O O (nB O) (cS (cR ?_))
 refine aO [.slice Aa p0.fNo.length ca,.slice Ab p0.fC.length cb] O O O (fun i=>?_)
 refine oY O (bC O) (oN (aa (cS (cR ?_))))
 refine ox_makeMapS 3 kI cX 3 1 cI O (fun U=>?_)
 refine oY O (bC O) (oN (aa (cS (cS (cR (oY O (yFA bp O) (oY O (yL 0 eZ O O O) (oY O (a8 (us:=[]) kj O) (oY O (yMI O) (oN (aa (ae ?_))))))))))))
 obtain⟨u6,fn,h⟩:=bOs h
 refine bo (fun(s:(Int × (List (Int × (List Int))))) L tm=>∃(D:Nat→Value) (h1_s:List (Int × Hd)),HsOk h1_s s.2∧L=[aj i 25 [.slice Aa p0.fNo.length ca,.slice Ab p0.fC.length cb],mapV Tryz.prog 3 kI cX hdV cE U h1_s,mi 3 1 cI h1_s s.2]∧tm=(upd (upd (upd (upd (upd (upd (upd (upd D 1 (.slice Ac p1.length cc)) 2 (.func (.func fid2) fst2.toArray caps2.toArray)) 3 (.pointer (some ⟨i,0,none⟩))) 6 (.map none)) 7 (.map (some U))) 22 (.slice Ab p0.fC.length cb)) 23 (vI (p0.fC.length:Int))) 24 (vI s.1))) 0 fn ⟨_,([]:List (Int × Hd)),HsOk.nil,O,(kp4 (kp4 O))⟩ ?_ ?_
 ·rintro r L tm st ⟨r5,h1_s5,hk1_s5,rfl,rfl⟩ h
  unfold dn at h
  refine cS (cR (oY O (bN O O) (oN (aa (cS ?_)))))
  rcases iOs h with⟨f4,h⟩|⟨f4,h⟩
  ·refine cT (vB f4) (cK (aa (cS (ae (cS (cR (oY O (yMI O) ?_)))))))
   obtain⟨w,h⟩:=gOs h
   refine oY O (yI kx (by decide) w.1 w.2 (RdL.arg G) (eL ad (NestP.hn d.p O)) O O) ?_
   refine oY O (yM (A:=Ab) (j:=(Int.toNat r.1*2)) [vI ((rdL p0.fC r.1).fID),.slice ((rdL o r.1).1.1) ((rdL p0.fC r.1).fO.length) ((rdL o r.1).1.2.2)] ag_90 (Nat.succ_pos _) (RdL.arg G) O (nI (dD (NestP.snd d.p r.1) (NestP.len d.p w.1 (av w.2 O))).symm (bR ad w.1 (av w.2 (NestP.hn d.p O))))) ?_
   refine aT qc O (fun b9=>?_)
   refine oY O (yAI O) (d9 O (yS 3 [vI ((rdL p0.fC r.1).fID),.slice ((rdL o r.1).1.1) ((rdL p0.fC r.1).fO.length) ((rdL o r.1).1.2.2)] sz_90 O (nB O) O O O) (oN (aa (cS (cR (oY O (yFA db O) (oY O (yL 3 kd O O O) (oY O (a8 (us:=[]) lJ O) (oY O (yMI O) (oN (aa (ae ?_))))))))))))
   obtain⟨u3,fl,h⟩:=bOs h
   refine bo (fun(s:(Int × (List (Int × (List Int))))) L tm=>∃(D:Nat→Value) (h1_s:List (Int × Hd)),HsOk h1_s s.2∧L=[aj i 25 [.slice Aa p0.fNo.length ca,.slice Ab p0.fC.length cb],mapV Tryz.prog 3 kI cX hdV cE U h1_s,mi 3 1 cI h1_s s.2,aj b9 90 [vI ((rdL p0.fC r.1).fID),.slice ((rdL o r.1).1.1) ((rdL p0.fC r.1).fO.length) ((rdL o r.1).1.2.2)]]∧tm=(upd (upd (upd (upd (upd (upd (upd (upd (upd (upd (upd (upd (upd (upd D 1 (.slice Ac p1.length cc)) 2 (.func (.func fid2) fst2.toArray caps2.toArray)) 3 (.pointer (some ⟨i,0,none⟩))) 6 (.map none)) 7 (.map (some U))) 22 (.slice Ab p0.fC.length cb)) 23 (vI (p0.fC.length:Int))) 24 (vI r.1)) 25 (.bool (decide (r.1<(p0.fC.length:Int))))) 9 (.pointer (some ⟨b9,0,none⟩))) 8 (vI r.1)) 30 (.slice ((rdL o r.1).1.1) ((rdL p0.fC r.1).fO.length) ((rdL o r.1).1.2.2))) 31 (vI (((rdL p0.fC r.1).fO.length:Nat):Int))) 32 (vI s.1))) 2 fl ⟨_,h1_s5,hk1_s5,O,(kp4 (kp4 (kp4 (kp (kp O)))))⟩ ?_ ?_
   ·rintro f L tm st ⟨g1,h1_s12,hk1_s12,rfl,rfl⟩ h
    unfold dl at h
    refine cS (cR (oY O (bN O O) (oN (aa (cS ?_)))))
    rcases iOs h with⟨T,h⟩|⟨T,h⟩
    ·refine cT (vB T) (cK (aa (cS (ae (cS (cR (oY O (yMI O) ?_)))))))
     obtain⟨I,h⟩:=gOs h
     refine oY O (yI nF (by decide) I.1 I.2 (NestL.rd (NestL.arg d) w.1 (av w.2 O)) (eL aA O) O O) ?_
     refine oY O (yM (A:=((rdL o r.1).1.1)) (j:=(Int.toNat f.1*2)) [vI ((rdL ((rdL p0.fC r.1).fO) f.1).fFrom),vI ((rdL ((rdL p0.fC r.1).fO) f.1).fTo)] mN (Nat.succ_pos _) (NestL.rd (NestL.arg d) w.1 (av w.2 O)) O (bR aA I.1 (av I.2 O))) ?_
     refine aT jd O (fun f9=>?_)
     refine oY O (yAI O) (d9 O (yS 4 [vI ((rdL ((rdL p0.fC r.1).fO) f.1).fFrom),vI ((rdL ((rdL p0.fC r.1).fO) f.1).fTo)] se O (nB O) O O O) (oN (aa (cS (cR (oY O (iP (v:=.func (.func fid2) fst2.toArray caps2.toArray) O) (oY O (yMI O) (oY O (yMI O) ?_))))))))
     obtain⟨ri,g2,h⟩:=bOs h
     refine oY O (jH [vI r.1,vI f.1] fE O O (fun W2 H=>fN W2 H.below r.1 f.1 ri g2)) (oN (aa ?_))
     rcases iOs h with⟨S,h⟩|⟨S,h⟩
     ·refine cT (vB S) ?_
      obtain⟨g3,h⟩:=gOs h
      obtain⟨gf,h⟩:=gOs h
      obtain⟨c,h⟩:=gOs h
      refine j9 [[],[],[1],[],[],[4],[3,4,5],[],[7],[7,8],[3,4,5,6,7,8,9],[0,1,2,3,4,5,6,7,8,9,10]] [(none,0,[true,true,false,true,true]),(none,0,[true,true,false,true,true]),(none,0,[true,true,false,true,true]),(none,0,[true,true,true,true,true]),(none,0,[true,true,true,true,true]),(none,0,[true,true,true,true,true]),(none,0,[true,true,true,true,true]),(none,0,[true,true,true,true,true]),(none,0,[true,true,true,true,true]),(none,1,[true,true,true,true,true]),(some 2,0,[true,true,true,true,true,true]),(some 1,0,[true,true,true,true,true,true])] [⟨fun _=>.map (some U),fun _=>noR,fun _=>[]⟩,⟨fun _=>.pointer (some ⟨f9,0+0,none⟩),fun _=>noR,fun _=>[]⟩,⟨fun _=>vI ((rdL ((rdL p0.fC r.1).fO) f.1).fFrom),fun _=>noR,fun _=>[]⟩,⟨fun _=>.map (some U),fun _=>noR,fun _=>[]⟩,⟨fun _=>.pointer (some ⟨f9,0+0,none⟩),fun _=>noR,fun _=>[]⟩,⟨fun _=>vI ((rdL ((rdL p0.fC r.1).fO) f.1).fFrom),fun _=>noR,fun _=>[]⟩,⟨fun _=>.slice ((aw cE h1_s12 ((rdL ((rdL p0.fC r.1).fO) f.1).fFrom)).1) ((aw [] f.2 ((rdL ((rdL p0.fC r.1).fO) f.1).fFrom)).length) ((aw cE h1_s12 ((rdL ((rdL p0.fC r.1).fO) f.1).fFrom)).2.2),fun _=>noR,fun _=>[]⟩,⟨fun _=>.pointer (some ⟨f9,0+1,none⟩),fun _=>noR,fun _=>[]⟩,⟨fun _=>vI ((rdL ((rdL p0.fC r.1).fO) f.1).fTo),fun _=>noR,fun _=>[]⟩,⟨fun ξ20=>.slice (some ⟨(ξ20 9 0).2.1,0,none⟩) 1 1,fun _=>noR,fun ξ20=>[be (some ⟨(ξ20 9 0).2.1,0,none⟩) 1 3 1 1 (encL cI [(rdL ((rdL p0.fC r.1).fO) f.1).fTo])]⟩,⟨fun ξ20=>.slice (ξ20 10 0).1 ((aw [] f.2 ((rdL ((rdL p0.fC r.1).fO) f.1).fFrom)).length+1) (ξ20 10 0).2.2.1,fun ξ20=>mi 3 1 cI (((rdL ((rdL p0.fC r.1).fO) f.1).fFrom,((ξ20 10 0).1,((aw [] f.2 ((rdL ((rdL p0.fC r.1).fO) f.1).fFrom)).length+1),(ξ20 10 0).2.2.1))::h1_s12) (((rdL ((rdL p0.fC r.1).fO) f.1).fFrom,((aw [] f.2 ((rdL ((rdL p0.fC r.1).fO) f.1).fFrom))++[(rdL ((rdL p0.fC r.1).fO) f.1).fTo]))::f.2),fun _=>[]⟩,⟨fun _=>undef,fun ξ20=>mapV Tryz.prog 3 kI cX hdV cE U (((rdL ((rdL p0.fC r.1).fO) f.1).fFrom,((ξ20 10 0).1,((aw [] f.2 ((rdL ((rdL p0.fC r.1).fO) f.1).fFrom)).length+1),(ξ20 10 0).2.2.1))::h1_s12),fun _=>[]⟩] 5 di (by kernel_rfl) (by kernel_rfl) ⟨⟨fun ξ20 ξ20' h=>⟨O,O,O⟩,fun _=>O⟩,⟨fun ξ20 ξ20' h=>⟨O,O,O⟩,fun _=>O⟩,⟨fun ξ20 ξ20' h=>⟨O,O,O⟩,fun _=>O⟩,⟨fun ξ20 ξ20' h=>⟨O,O,O⟩,fun _=>O⟩,⟨fun ξ20 ξ20' h=>⟨O,O,O⟩,fun _=>O⟩,⟨fun ξ20 ξ20' h=>⟨O,O,O⟩,fun _=>O⟩,⟨fun ξ20 ξ20' h=>⟨O,O,O⟩,fun _=>O⟩,⟨fun ξ20 ξ20' h=>⟨O,O,O⟩,fun _=>O⟩,⟨fun ξ20 ξ20' h=>⟨O,O,O⟩,fun _=>O⟩,⟨fun ξ20 ξ20' h=>⟨by simp only[h 9 (.inl O)],O,by simp only[h 9 (.inl O)]⟩,fun _=>O⟩,⟨fun ξ20 ξ20' h=>⟨by simp only[h 10 (.inl O)],by simp only[h 10 (.inl O)],O⟩,fun _=>O⟩,⟨fun ξ20 ξ20' h=>⟨O,by simp only[h 10 (.inr O)],O⟩,fun _=>O⟩,trivial⟩ O (fun ξ20=>?_)
      refine fq O (fun L2=>?_) ?_
      ·dsimp only[aP,lca,lna]
       refine oY O (bm O) (oN ?_)
       exact aE (fun _=>(none,0,0,[],noR)) O (List.append_nil _)
      dsimp only[dG,lsz,lss,lna,lca,List.append_nil]
      refine fq O (fun L2=>?_) ?_
      ·dsimp only[aP,lca,lna]
       refine oY O (yFA iX O) (oN ?_)
       exact aE (fun _=>(none,0,0,[],noR)) O (List.append_nil _)
      dsimp only[dG,lsz,lss,lna,lca,List.append_nil]
      refine fq O (fun L2=>?_) ?_
      ·dsimp only[aP,lca,lna]
       refine oY O (yL 4 bW O O O) (oN ?_)
       exact aE (fun _=>(none,0,0,[],noR)) O (List.append_nil _)
      dsimp only[dG,lsz,lss,lna,lca,List.append_nil]
      refine fq O (fun L2=>?_) ?_
      ·dsimp only[aP,lca,lna]
       refine oY O (bm O) (oN ?_)
       exact aE (fun _=>(none,0,0,[],noR)) O (List.append_nil _)
      dsimp only[dG,lsz,lss,lna,lca,List.append_nil]
      refine fq O (fun L2=>?_) ?_
      ·dsimp only[aP,lca,lna]
       refine oY O (yFA iX O) (oN ?_)
       exact aE (fun _=>(none,0,0,[],noR)) O (List.append_nil _)
      dsimp only[dG,lsz,lss,lna,lca,List.append_nil]
      refine fq O (fun L2=>?_) ?_
      ·dsimp only[aP,lca,lna]
       refine oY O (yL 4 bW O O O) (oN ?_)
       exact aE (fun _=>(none,0,0,[],noR)) O (List.append_nil _)
      dsimp only[dG,lsz,lss,lna,lca,List.append_nil]
      refine fq O (fun L2=>?_) ?_
      ·dsimp only[aP,lca,lna]
       refine oY O (tr (k:=(rdL ((rdL p0.fC r.1).fO) f.1).fFrom) hk1_s12 (MpL.own 1 O) mQ um_154 ze_26 O O g3) (oN ?_)
       exact aE (fun _=>(none,0,0,[],noR)) O (List.append_nil _)
      dsimp only[dG,lsz,lss,lna,lca,List.append_nil]
      refine fq O (fun L2=>?_) ?_
      ·dsimp only[aP,lca,lna]
       refine oY O (yFA lO O) (oN ?_)
       exact aE (fun _=>(none,0,0,[],noR)) O (List.append_nil _)
      dsimp only[dG,lsz,lss,lna,lca,List.append_nil]
      refine fq O (fun L2=>?_) ?_
      ·dsimp only[aP,lca,lna]
       refine oY O (yL 4 bW O O O) (oN ?_)
       exact aE (fun _=>(none,0,0,[],noR)) O (List.append_nil _)
      dsimp only[dG,lsz,lss,lna,lca,List.append_nil]
      refine fq O (fun L2=>?_) ?_
      ·dsimp only[aP,lca,lna]
       refine az 1 (encL cI [(rdL ((rdL p0.fC r.1).fO) f.1).fTo]) _ go bj j7 kY (by decide) (by decide) (by kernel_rfl) (eL ax O) O (fun rj=>?_)
       refine oN ?_
       exact aE (fun _=>(none,rj,0,[],noR)) O O
      dsimp only[dG,lsz,lss,lna,lca,List.append_nil]
      refine fq O (fun L2=>?_) ?_
      ·dsimp only[aP,lca,lna]
       refine ox_appendS 2 ((rdL ((rdL p0.fC r.1).fO) f.1).fFrom) bj j7 kY hk1_s12 O O O (RdL.row 5 O) (eL ax O) (eA mj _) (eF gf (by decide)) O (fun ga gb=>?_)
       refine oN ?_
       first|exact aE (fun _=>(ga,0,gb,[],noR)) O O|exact aE (fun _=>(ga,0,gb,[],noR)) O (List.append_nil _)
      dsimp only[dG,lsz,lss,lna,lca,List.append_nil]
      refine gx_n O (fun L2=>?_) ?_
      ·dsimp only[aP,lca,lna]
       refine d9 O (iB 1 (k:=(rdL ((rdL p0.fC r.1).fO) f.1).fFrom) (v:=((ξ20 10 0).1,((aw [] f.2 ((rdL ((rdL p0.fC r.1).fO) f.1).fFrom)).length+1),(ξ20 10 0).2.2.1)) O mQ um_154 O O O ⟨c.1,(by rw[HsOk.len hk1_s12];exact c.2)⟩) ?_
       refine oN ?_
       first|exact fc (fun _=>(none,0,0,[],noR)) O|exact fc (fun _=>(none,0,0,[],noR)) (List.append_nil _)
      dsimp only[dG,lsz,lss,lna,lca,List.append_nil]
      refine pF (au (aa (cR ?_)))
      try dsimp only[lna,lca,lsz,lss]
      refine oY O (bF O O) (oY O (yMI O) (oN (aX 4 ?_)))
      obtain rfl:=sI h
      exact eN ⟨_,(((rdL ((rdL p0.fC r.1).fO) f.1).fFrom,((ξ20 10 0).1,((aw [] f.2 ((rdL ((rdL p0.fC r.1).fO) f.1).fFrom)).length+1),(ξ20 10 0).2.2.1))::h1_s12),(HsOk.cons hk1_s12 (lH O O)),O,(kp4 (kp4 (kp4 (kp (kp O)))))⟩
     ·refine cF (vB S) (cK (au (aa (cR (oY O (bF O O) (oY O (yMI O) (oN (aX 4 ?_))))))))
      obtain rfl:=sI h
      exact eN ⟨_,h1_s12,hk1_s12,O,(kp4 (kp4 (kp4 (kp (kp O)))))⟩
    ·refine cF (vB T) (aJ (ak ?_))
     obtain rfl:=sI h
     exact aC ⟨O,_,h1_s12,hk1_s12,O,(kp4 (kp4 (kp4 (kp (kp O)))))⟩
   ·intro e L tm hJ
    obtain⟨rfl,o0,h1_u13,hk1_u13,rfl,rfl⟩:=hJ
    refine⟨(by intro hc;cases hc),?_⟩
    refine ai (au (aa (cR (oY O (bF O O) (oY O (yMI O) (oN (aX 3 ?_)))))))
    obtain rfl:=sI h
    exact eN ⟨_,h1_u13,hk1_u13,O,(kp4 (kp4 O))⟩
  ·refine cF (vB f4) (aJ (ak ?_))
   obtain rfl:=sI h
   exact aC ⟨O,_,h1_s5,hk1_s5,O,(kp4 (kp4 O))⟩
 ·intro e L tm hJ
  obtain⟨rfl,r6,h1_u6,hk1_u6,rfl,rfl⟩:=hJ
  refine⟨(by intro hc;cases hc),?_⟩
  refine ai (aa (cS (cR ?_)))
  refine jn 3 kI cX kB false O (fun E=>?_)
  refine oY O (bC O) (oN (aa (cS (cS (cR (oY O (yMS O) (oY O (a8 (us:=[]) bj O) (oY O (yMI O) (oN (aa (ae ?_)))))))))))
  obtain⟨u4,o1,h⟩:=bOs h
  refine bo (fun(s:(Int × (List (Int × Bool)))) L tm=>∃(D:Nat→Value),L=[aj i 25 [.slice Aa p0.fNo.length ca,.slice Ab p0.fC.length cb],mapV Tryz.prog 3 kI cX hdV cE U h1_u6,mi 3 1 cI h1_u6 u6.2,mapV Tryz.prog 3 kI cX kB false E s.2]∧tm=(upd (upd (upd (upd (upd (upd (upd D 3 (.pointer (some ⟨i,0,none⟩))) 6 (.map none)) 7 (.map (some U))) 12 (.map (some E))) 55 (.slice Ac p1.length cc)) 56 (vI (p1.length:Int))) 57 (vI s.1))) 4 o1 ⟨_,O,(kp4 (kp (kp (kp O))))⟩ ?_ ?_
  ·rintro fr L tm st ⟨oq,rfl,rfl⟩ h
   unfold dV at h
   refine cS (cR (oY O (bN O O) (oN (aa (cS ?_)))))
   rcases iOs h with⟨R,h⟩|⟨R,h⟩
   ·refine cT (vB R) (cK (aa (cS (ae (cS (cR ?_))))))
    obtain⟨K,h⟩:=gOs h
    refine oY O (yI dC (by decide) K.1 K.2 (RdL.arg V) (eL ax O) O O) ?_
    refine oY O (yR (A:=Ac) (j:=(Int.toNat fr.1*1)) (v:=vI (rdL p1 fr.1)) bW (RdL.arg V) O (aG ax K.1 (av K.2 O) O)) (oY O (yAI O) (oN (aa (cR (oY O (bm O) (oY O (yMI O) ?_))))))
    obtain⟨op,h⟩:=gOs h
    refine d9 O (iB 3 (k:=(rdL p1 fr.1)) (v:=true) O mQ jN O O O op) (oN (au (aa (cR (oY O (bF O O) (oY O (yMI O) (oN ?_)))))))
    obtain rfl:=sI h
    exact eN ⟨_,O,(kp4 (kp (kp (kp O))))⟩
   ·refine cF (vB R) (aJ (ak ?_))
    obtain rfl:=sI h
    exact aC ⟨O,_,O,(kp4 (kp (kp (kp O))))⟩
  ·intro e L tm hJ
   obtain⟨rfl,om,rfl,rfl⟩:=hJ
   refine⟨(by intro hc;cases hc),?_⟩
   refine ai (aa (cS (cS (cR (oY O (yN 0 [.slice Aa p0.fNo.length ca,.slice Ab p0.fC.length cb] aR O O O) ?_)))))
   obtain⟨g,ot,h⟩:=bOs h
   refine oC [.agg #[.slice Aa p0.fNo.length ca,.slice Ab p0.fC.length cb]] _ _ _ O go_131 O (fun W2 H=>qa p0 g ot W2 Aa p0.fNo.length ca O ((RdL.arg F) W2 H) Ab p0.fC.length cb o O ((RdL.arg G) W2 H) (NestL.at (NestL.arg d) W2 H)) ?_
   rintro⟨q,rx,b⟩ n
   replace n:rx=g.length:=n;subst n
   refine oY O (a8 (us:=[]) bj O) (oY O (yMI O) (oN (aa (ae ?_))))
   obtain⟨u5,oa,h⟩:=bOs h
   refine bo (fun(s:(Int × (List (Int × Bool)))) L tm=>∃(D:Nat→Value),L=[aj i 25 [.slice Aa p0.fNo.length ca,.slice Ab p0.fC.length cb],mapV Tryz.prog 3 kI cX hdV cE U h1_u6,mi 3 1 cI h1_u6 u6.2,mapV Tryz.prog 3 kI cX kB false E s.2,be q b 3 1 g.length (encL cI g)]∧tm=(upd (upd (upd (upd (upd (upd (upd D 3 (.pointer (some ⟨i,0,none⟩))) 6 (.map none)) 7 (.map (some U))) 12 (.map (some E))) 65 (.slice q g.length b)) 66 (vI (g.length:Int))) 67 (vI s.1))) 6 oa ⟨_,O,(kp4 (kp (kp (kp O))))⟩ ?_ ?_
   ·rintro u L tm st ⟨oi,rfl,rfl⟩ h
    unfold dm at h
    refine cS (cR (oY O (bN O O) (oN (aa (cS ?_)))))
    rcases iOs h with⟨l,h⟩|⟨l,h⟩
    ·refine cT (vB l) (cK (aa (cS (ae (cS (cR ?_))))))
     obtain⟨M,h⟩:=gOs h
     refine oY O (yI dC (by decide) M.1 M.2 (RdL.row 4 O) (eL ax O) O O) ?_
     refine oY O (yR (A:=q) (j:=(Int.toNat u.1*1)) (v:=vI (rdL g u.1)) bW (RdL.row 4 O) O (aG ax M.1 (av M.2 O) O)) (oY O (yAI O) (oN (aa (cS (cR (oY O (yFA cJ O) (oY O (yL 0 iM O O O) (oY O (yMI O) ?_))))))))
     obtain⟨N,h⟩:=gOs h
     refine oY O (yI nG (by decide) N.1 N.2 (RdL.arg F) (eL ay O) O O) ?_
     refine oY O (yFR (A:=Aa) (j:=(Int.toNat (rdL g u.1)*3)) g6 O) (oY O (yR (A:=Aa) (j:=((Int.toNat (rdL g u.1)*3)+0)) (v:=vI ((rdL p0.fNo (rdL g u.1)).fID)) bW (RdL.arg F) O (eG ay N.1 (av N.2 O) O)) (oY O (yAI O) (oN (aa (cS (cS (cR (oY O (bm O) (oY O (yMI O) ?_)))))))))
     obtain⟨oj,h⟩:=gOs h
     refine oY O (fj (k:=(rdL p0.fNo (rdL g u.1)).fID) (MpL.own 3 O) mQ jN tE O O oj) (oY O (fa O) (oN (aa ?_)))
     rcases iOs h with⟨t,h⟩|⟨t,h⟩
     ·refine cT (vB t) (aJ (ak (ai (aa (cR (oY O (bF O O) (oY O (yMI O) (oN ?_))))))))
      obtain rfl:=sI h
      exact eN ⟨_,O,(kp4 (kp (kp (kp O))))⟩
     ·refine cF (vB t) (cK (aa (cS (cR (oY O (bm O) (oY O (yMI O) ?_))))))
      obtain⟨ok,h⟩:=gOs h
      refine oY O (tr (k:=(rdL p0.fNo (rdL g u.1)).fID) hk1_u6 (MpL.own 1 O) mQ um_154 ze_26 O O ok) (oY O (a8 (us:=[]) bj O) (oY O (yMI O) (oN (aa (ae ?_)))))
      obtain⟨u7,r0,h⟩:=bOs h
      refine bo (fun(s:(Int × (List (Int × Bool)))) L tm=>∃(D:Nat→Value),L=[aj i 25 [.slice Aa p0.fNo.length ca,.slice Ab p0.fC.length cb],mapV Tryz.prog 3 kI cX hdV cE U h1_u6,mi 3 1 cI h1_u6 u6.2,mapV Tryz.prog 3 kI cX kB false E s.2,be q b 3 1 g.length (encL cI g)]∧tm=(upd (upd (upd (upd (upd (upd (upd (upd (upd (upd (upd (upd (upd (upd D 3 (.pointer (some ⟨i,0,none⟩))) 6 (.map none)) 7 (.map (some U))) 12 (.map (some E))) 65 (.slice q g.length b)) 66 (vI (g.length:Int))) 67 (vI u.1)) 68 (.bool (decide (u.1<(g.length:Int))))) 16 (vI (rdL g u.1))) 17 (vI ((rdL p0.fNo (rdL g u.1)).fID))) 80 (.bool (!(aw false u.2 ((rdL p0.fNo (rdL g u.1)).fID))))) 83 (.slice ((aw cE h1_u6 ((rdL p0.fNo (rdL g u.1)).fID)).1) ((aw [] u6.2 ((rdL p0.fNo (rdL g u.1)).fID)).length) ((aw cE h1_u6 ((rdL p0.fNo (rdL g u.1)).fID)).2.2))) 84 (vI (((aw [] u6.2 ((rdL p0.fNo (rdL g u.1)).fID)).length:Nat):Int))) 85 (vI s.1))) 8 r0 ⟨_,O,(kp4 (kp4 (kp4 (kp (kp O)))))⟩ ?_ ?_
      ·rintro fd L tm st ⟨r1,rfl,rfl⟩ h
       unfold dT at h
       refine cS (cR (oY O (bN O O) (oN (aa (cS ?_)))))
       rcases iOs h with⟨a,h⟩|⟨a,h⟩
       ·refine cT (vB a) (cK (aa (cS (ae (cS (cR ?_))))))
        obtain⟨Q,h⟩:=gOs h
        refine oY O (yI dC (by decide) Q.1 Q.2 (RdL.rows hk1_u6 2 O ((rdL p0.fNo (rdL g u.1)).fID)) (eL ax O) O O) ?_
        refine oY O (yR (A:=((aw cE h1_u6 ((rdL p0.fNo (rdL g u.1)).fID)).1)) (j:=(Int.toNat fd.1*1)) (v:=vI (rdL (aw [] u6.2 ((rdL p0.fNo (rdL g u.1)).fID)) fd.1)) bW (RdL.rows hk1_u6 2 O ((rdL p0.fNo (rdL g u.1)).fID)) O (aG ax Q.1 (av Q.2 O) O)) (oY O (yAI O) (oN (aa (cR (oY O (bm O) (oY O (yMI O) ?_))))))
        obtain⟨r2,h⟩:=gOs h
        refine d9 O (iB 3 (k:=(rdL (aw [] u6.2 ((rdL p0.fNo (rdL g u.1)).fID)) fd.1)) (v:=true) O mQ jN O O O r2) (oN (au (aa (cR (oY O (bF O O) (oY O (yMI O) (oN ?_)))))))
        obtain rfl:=sI h
        exact eN ⟨_,O,(kp4 (kp4 (kp4 (kp (kp O)))))⟩
       ·refine cF (vB a) (aJ (ak ?_))
        obtain rfl:=sI h
        exact aC ⟨O,_,O,(kp4 (kp4 (kp4 (kp (kp O)))))⟩
      ·intro e L tm hJ
       obtain⟨rfl,r3,rfl,rfl⟩:=hJ
       refine⟨(by intro hc;cases hc),?_⟩
       refine ai (au (aa (cR (oY O (bF O O) (oY O (yMI O) (oN ?_))))))
       obtain rfl:=sI h
       exact eN ⟨_,O,(kp4 (kp (kp (kp O))))⟩
    ·refine cF (vB l) (aJ (ak ?_))
     obtain rfl:=sI h
     exact aC ⟨O,_,O,(kp4 (kp (kp (kp O))))⟩
   ·intro e L tm hJ
    obtain⟨rfl,r4,rfl,rfl⟩:=hJ
    refine⟨(by intro hc;cases hc),?_⟩
    refine ai (aa (cS (cR (oY O (bm O) (oY O (bC O) (oN (aa (aq ?_))))))))
    obtain rfl:=sI h
    exact ao (.inl O) O (rVt (v:=.map (some E)) O) (fun W2 H=>⟨E,O,(H.pick 3 O)⟩)
theorem dU (p0:(List Int)) (p1:Int) (p2:Int) (res:Bool) (h:aN p0 p1 p2=some res) (W:World) (Aa:Option Addr) (f ca:Nat) (r:f=p0.length) (g:Rd W Aa f ca (encL cI p0)) :
  Calls Tryz.prog 132 [.slice Aa f ca,vI p1,vI p2].toArray W fun e W2=>e=.returned (.bool res)∧Ext W W2 []:=by
 subst r
 unfold aN at h
 refine ah (m:=13) Tryz.func132 O O (nB O) (cS (cR (oY O (yAB O) (oN (aa (cS (cR (oY O (yMS O) (oY O (yMI O) ?_)))))))))
 obtain⟨o,h⟩:=gOs h
 refine oY O (yI sl_155 (by decide) o.1 o.2 (RdL.arg g) (eL ax O) O O) ?_
 refine oY O (yR (A:=Aa) (j:=(Int.toNat p1*1)) (v:=vI (rdL p0 p1)) bW (RdL.arg g) O (aG ax o.1 (av o.2 O) O)) (oY O (yMI O) (oY O (ge O O) (oY O (yAB O) (oN (aa (aq ?_))))))
 obtain rfl:=sI h
 exact ao (.inl O) O (rVt (v:=.bool ((rdL p0 p1)==p2)) O) (fun W2 u=>⟨O,u.none⟩)
theorem fF (p0:(List Int)) (res:Unit) (h:bM p0=some res) (W:World) (Aa:Option Addr) (f ca:Nat) (g:f=p0.length) (o:Rd W Aa f ca (encL cI p0)) :
  Calls Tryz.prog 88 [.slice Aa f ca].toArray W fun e W2=>e=.returned (.func (.func 132) #[.slice Aa p0.length ca] #[])∧Ext W W2 []:=by
 subst g
 unfold bM at h
 refine ah (m:=5) Tryz.func88 O O (nB O) (cS (cR (oY O (mO O) (oN (aa (cS (cR (oY O (yMS O) (oY O (y_makeFuncF [.slice Aa p0.length ca] [] O O) (oY O (oS O) (oN (aa (aq ?_)))))))))))))
 obtain rfl:=sI h
 exact ao (.inl O) O (rVt (v:=.func (.func 132) #[.slice Aa p0.length ca] #[]) O) (fun W2 r=>⟨O,r.none⟩)
theorem dw (p0:TL) (p1:(List Int)) (res:(List (Int × Bool))) (h:bI p0 p1=some res) (W:World) (Aa:Option Addr) (F ca:Nat) (Q:F=p0.fNo.length) (G:Rd W Aa F ca (encL TNode_cells p0.fNo)) (Ab:Option Addr) (H cb:Nat) (g:List (Hd × TC)) (U:H=p0.fC.length) (r:Rd W Ab H cb (encL TClaim_cells2 g)) (u:NestW W (fun z:TC=>z.fO) THop_cells g p0.fC) (Ac:Option Addr) (I cc:Nat) (X:I=p1.length) (Y:Rd W Ac I cc (encL cI p1)) :
  Calls Tryz.prog 65 [.agg #[.slice Aa F ca,.slice Ab H cb],.slice Ac I cc].toArray W fun e W2=>∃x:Nat,e=.returned (.map (some x))∧Ext W W2 [mapV Tryz.prog 3 kI cX kB false x res]:=by
 subst Q
 subst U
 subst X
 unfold bI at h
 refine il (m:=25) Tryz.func65 O O (nB O) (cS (cR ?_))
 refine aO [.slice Aa p0.fNo.length ca,.slice Ab p0.fC.length cb] O O O (fun i=>?_)
 refine aO [.slice Ac p1.length cc] O O O (fun j=>?_)
 refine oY O (bC O) (oN (aa (cS (cR ?_))))
 refine jn 3 kI cX kB false O (fun K=>?_)
 refine aT ze_94 O (fun b=>?_)
 refine d9 O (cL 3 (v:=.map (some K)) sz_94 O (Nat.lt_of_lt_of_le (Nat.lt_succ_self _) (nB O)) O O O) (oN (aa (cS (cS (cR (oY O (yN 0 [.slice Aa p0.fNo.length ca,.slice Ab p0.fC.length cb] aR O O O) ?_))))))
 obtain⟨y5,c,h⟩:=bOs h
 refine cD [.agg #[.slice Aa p0.fNo.length ca,.slice Ab p0.fC.length cb]] _ _ O go_86 O (fun W2 f=>fo p0 y5 c W2 Aa p0.fNo.length ca O ((RdL.arg G) W2 f) Ab p0.fC.length cb g O ((RdL.arg r) W2 f) (NestL.at (NestL.arg u) W2 f)) ?_
 rintro V
 refine oN (aa (ae ?_))
 obtain⟨hok44,h⟩:=gOs h
 obtain⟨f9,T,h⟩:=bOs h
 refine mr (caps:=[.pointer (some ⟨V,0,none⟩)]) (fun(s:(List (Int × Bool))) L=>L=[aj i 25 [.slice Aa p0.fNo.length ca,.slice Ab p0.fC.length cb],aj j 26 [.slice Ac p1.length cc],mapV Tryz.prog 3 kI cX kB false K s,aj b 94 [.map (some K)],aj V 25 [.slice Aa p0.fNo.length ca,.slice Ab p0.fC.length cb]]) (fun(_:Unit) _ _=>False) T O rU (dx p0 hok44 V Aa p0.fNo.length ca Ab p0.fC.length cb O g u.p) (fun W2 s L hI f=>by obtain rfl:=hI;exact⟨(RdL.cells 4 O) W2 f,(RdL.arg r) W2 f⟩) O (fun _ _ _ h=>h.elim) ?_ ?_ ?_
 ·rintro D8 l9 rec10 d w M o L st hrec11 rfl h
  unfold dz at h
  refine cR ?_
  try dsimp only[lna,lca,lsz,lss]
  refine oY O (yAS O) (oN (nj 6 O hrec11 (ae (cS ?_))))
  refine bl 4 di (by kernel_rfl) (by kernel_rfl) ?_
  refine qY O (yN 0 [.slice Aa p0.fNo.length ca,.slice Ab p0.fC.length cb] aR O O O) (qY O (yL 1 fk O O O) (qY O (yMS O) ?_))
  obtain⟨f0,S,h⟩:=bOs h
  refine qY O (yC [.slice d o.length w] go_88 O (fun W2 f=>fF o f0 S W2 d o.length w O ((RdL.row 7 O) W2 f)) O) (dq ?_)
  obtain⟨E,R,h⟩:=bOs h
  refine cD [.agg #[.slice Aa p0.fNo.length ca,.slice Ab p0.fC.length cb],.slice Ac p1.length cc,.func (.func 132) #[.slice d o.length w] #[]] _ _ O go_87 O (fun W2 f=>dQ p0 p1 (fun f1 f2=>aN o f1 f2) E R W2 Aa p0.fNo.length ca O ((RdL.arg G) W2 f) Ab p0.fC.length cb g O ((RdL.arg r) W2 f) (NestL.at (NestL.arg u) W2 f) Ac p1.length cc O ((RdL.arg Y) W2 f) 132 [.slice d o.length w] [] tl (fun W3 hb x0 x1 y hxy=>dU o x0 x1  y hxy W3 d o.length w O (((RdL.row 7 O) W2 f).later hb))) ?_
  rintro f3
  try dsimp only[lna,lca,lsz,lss]
  refine qQ 8 O mQ jN O O (fun n k29 hk30=>(oN (aa ?_)))
  obtain⟨l,h⟩:=gOs h
  refine ae (nW (fun(D:Nat × (Int→Bool) × (List (Int × Bool))) L tm=>UnionI cX false true E M D∧∃(a:Nat→Value),L=[aj i 25 [.slice Aa p0.fNo.length ca,.slice Ab p0.fC.length cb],aj j 26 [.slice Ac p1.length cc],mapV Tryz.prog 3 kI cX kB false K D.2.2,aj b 94 [.map (some K)],aj V 25 [.slice Aa p0.fNo.length ca,.slice Ab p0.fC.length cb],dfR D8,lpR l9 { rec10 with state:=.busy },be d w 3 1 o.length (encL cI o),rD Tryz.prog 3 kI cX kB false f3 n E D.2.1 D.1 none]∧tm=(upd (upd (upd (upd (upd (upd (upd (upd (upd a 0 (.agg #[.slice Aa p0.fNo.length ca,.slice Ab p0.fC.length cb])) 1 (.slice Ac p1.length cc)) 2 (.pointer (some ⟨i,0,none⟩))) 3 (.pointer (some ⟨j,0,none⟩))) 4 (.map none)) 5 (.pointer (some ⟨b,0,none⟩))) 10 (.func (.func 130) #[] #[.pointer (some ⟨V,0,none⟩)])) 6 (.slice d o.length w)) 17 (.pointer (some ⟨n,0,none⟩)))) (fun s=>s.1) (k29,(fun y=>bH E y),M) ⟨(UnionI.start hk30),_,O,(kp4 (kp4 (kp O)))⟩ ?_)
  rintro D L tm ⟨hI41,a,rfl,rfl⟩
  refine cS (cR ?_)
  refine sk 8 O mQ O O (fun hno37=>?_) (fun Z k32 N hly34 hM35 hk36=>?_)
  ·refine oY O (yE O O) (oN (aa (cS (cF O (aJ (ak ?_))))))
   refine o9 (by intro h;cases h) ?_
   refine re 2 (lQ true E M) mQ O (hI41.done hno37) (qR 8 O ?_)
   try dsimp only[lsz,lss]
   refine ai (au (aX 8 ?_))
   obtain rfl:=sI h
   exact mK [aj i 25 [.slice Aa p0.fNo.length ca,.slice Ab p0.fC.length cb],aj j 26 [.slice Ac p1.length cc],mapV Tryz.prog 3 kI cX kB false K (lQ true E M),aj b 94 [.map (some K)],aj V 25 [.slice Aa p0.fNo.length ca,.slice Ab p0.fC.length cb]] O
  ·refine oY O (yE O O) (oN (aa (cS (cT O (cK (aa (ae (cS (cR (oY O (sM 8 O O) (oY O (yE O O) (oY O (yAI O) (oN (aa (cR (oY O (yL 3 sc_94 O O O) (oY O (yMI O) (d9 O (iB 2 (k:=Z) (v:=true) O mQ jN O O O ⟨N,hI41.room hk36 l⟩) (oN (au (nk 8 O ?_)))))))))))))))))))))
   exact mB (k32,(fun q=>D.2.1 q && !decide (q=Z)),((Z,true)::D.2.2)) ⟨hI41.step N hM35 hk36,_,O,(kp4 (kp4 (kp O)))⟩ hk36
 ·rintro D8 fE L hst rfl
  subst hst
  dsimp only at h
  refine au (aa (cS (cR ?_)))
  try dsimp only[lna,lca,lsz,lss]
  refine oY O (yL 3 sc_94 O O O) (oY O (bC O) (oN (aa (aq (tH 5 O (.inl O) ?_)))))
  obtain rfl:=sI h
  exact ao (.inl O) O (rVt (v:=.map (some K)) O) (fun W2 f=>⟨K,O,(f.pick 2 O)⟩)
 ·intro D8 t e L _ hh
  exact hh.elim
end Go.Proofs.YtbblpokfbmekfaaGreat
