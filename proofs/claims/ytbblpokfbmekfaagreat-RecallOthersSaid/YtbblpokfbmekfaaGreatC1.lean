import Derived.Test.YtbblpokfbmekfaaGreatF
import Derived.Test.YtbblpokfbmekfaaGreatG8
import Derived.Test.YtbblpokfbmekfaaGreatGv
set_option maxHeartbeats 4000000
set_option maxRecDepth 100000
set_option linter.unusedVariables false
namespace Go.Proofs.YtbblpokfbmekfaaGreat
open Go.RowKit (Below)
attribute [local irreducible] OX QX CX EX OpY Calls CallsIn
theorem ka (p0:(List TN)) (p1:TN→Option Bool) (res:Int) (h:be p0 p1=some res) (W:World) (Aa:Option Addr) (f ca:Nat) (d:f=p0.length) (g:Rd W Aa f ca (encL TNode_cells p0)) (fid1:Nat) (fst1 caps1:List Value) (E:cE Tryz.prog fid1=true) (F:∀W2,Below W.heap.size W W2→∀x,∀y,p1 x=some y→Calls Tryz.prog fid1 (fst1++(([.agg #[vI x.fID,vI x.fLevel,vI x.fCost]]:List Value)++caps1)).toArray W2 fun e W3=>e=.returned (.bool y)∧Ext W2 W3 []) :
  Calls Tryz.prog 119 [.slice Aa f ca,.func (.func fid1) fst1.toArray caps1.toArray].toArray W fun e W2=>e=.returned (vI res)∧Ext W W2 []:=by
 subst d
 unfold be at h
 refine ae (m:=19) Tryz.func119 O O (nB O) (cS (cR (oY O (yAI O) (oN (eT (cS (cS (cR (oY O (yMS O) (oY O (bd (us:=[]) gE O) (oY O (yMI O) (oN (eT (cB ?_))))))))))))))
 obtain⟨U,K,h⟩:=bOs h
 refine bW (fun(s:(Int × Int)) L tm=>∃(M:Nat→Value),L=[]∧tm=(upd (upd (upd (upd (upd M 0 (.slice Aa p0.length ca)) 1 (.func (.func fid1) fst1.toArray caps1.toArray)) 4 (vI s.1)) 7 (vI (p0.length:Int))) 8 (vI s.2))) 0 K ⟨_,O,(kp4 (kp O))⟩ ?_ ?_
 ·rintro r L tm st ⟨I,rfl,rfl⟩ h
  unfold aQ at h
  refine cS (cR (oY O (bA O O) (oN (eT (cS ?_)))))
  rcases iOs h with⟨w,h⟩|⟨w,h⟩
  ·refine cT (vB w) (cK (eT (cS (cB (cS (cR (oY O (yMI O) (oY O (yAI O) (oN (eT (cS (cR (oY O (iO (v:=.func (.func fid1) fst1.toArray caps1.toArray) O) (oY O (yMS O) (oY O (yMI O) ?_)))))))))))))))
   obtain⟨u,h⟩:=gOs h
   refine oY O (yI jL (by decide) u.1 u.2 (RdL.arg g) (eL ad O) O O) ?_
   refine oY O (yM (A:=Aa) (j:=(Int.toNat r.2*3)) [vI ((rdL p0 r.2).fID),vI ((rdL p0 r.2).fLevel),vI ((rdL p0 r.2).fCost)] mr (Nat.succ_pos _) (RdL.arg g) O (aM ad u.1 (ao u.2 O))) ?_
   obtain⟨X,N,h⟩:=bOs h
   refine oY O (iH [.agg #[vI ((rdL p0 r.2).fID),vI ((rdL p0 r.2).fLevel),vI ((rdL p0 r.2).fCost)]] E O O (fun W2 o=>F W2 o.below (TN.mk ((rdL p0 r.2).fID) ((rdL p0 r.2).fLevel) ((rdL p0 r.2).fCost)) X N)) (oN (eT ?_))
   rcases iOs h with⟨D,h⟩|⟨D,h⟩
   ·refine cT (vB D) (cS (cR (oY O (yMI O) (oY O (yAI O) (oN (eT (ak (ai (ab ?_)))))))))
    obtain rfl:=sI h
    exact ay ⟨O,_,O,(kp4 (kp O))⟩
   ·refine cF (vB D) (cK (aq (eT (cR (oY O (bc O O) (oY O (yMI O) (oN ?_)))))))
    obtain rfl:=sI h
    exact eN ⟨_,O,(kp4 (kp O))⟩
  ·refine cF (vB w) (aK (ah ?_))
   obtain rfl:=sI h
   exact ay ⟨O,_,O,(kp4 (kp O))⟩
 ·intro e L tm hJ
  rcases U with Q|Y
  ·dsimp only at h hJ
   obtain⟨rfl,G,rfl,rfl⟩:=hJ
   refine⟨(by intro hc;cases hc),?_⟩
   refine ai (ab ?_)
   obtain rfl:=sI h
   exact am (.inl O) O (rVt (v:=vI Q.1) O) (fun W2 o=>⟨O,o.none⟩)
  ·dsimp only at h hJ
   obtain⟨rfl,H,rfl,rfl⟩:=hJ
   refine⟨(by intro hc;cases hc),?_⟩
   refine ag (eT (cS (cR (oY O (yAI O) (oN (eT (ak ?_)))))))
   obtain rfl:=sI h
   exact am (.inl O) O (rVt (v:=vI (-1)) O) (fun W2 o=>⟨O,o.none⟩)
theorem ox (p0:TN) (f:Int) (res:Bool) (h:dR p0 f=some res) (W:World) (g:Nat) (o:Rd W (some ⟨g,0,none⟩) 1 1 (cI f)) :
  Calls Tryz.prog 120 [.agg #[vI p0.fID,vI p0.fLevel,vI p0.fCost],.pointer (some ⟨g,0,none⟩)].toArray W fun e W2=>e=.returned (.bool res)∧Ext W W2 []:=by
 unfold dR at h
 refine ae (m:=8) Tryz.func120 O O (nB O) (cS (cR ?_))
 refine aP [vI p0.fID,vI p0.fLevel,vI p0.fCost] O O O (fun u=>?_)
 refine oY O (yAB O) (oN (eT (cS (cR (oY O (yFA gd O) (oY O (yL 0 bN O O O) (oY O (yR (A:=(some ⟨g,0,none⟩)) (j:=0) (v:=vI f) bN (RdL.arg o) O O) (oY O (ig O O) (oY O (yAB O) (oN (eT (ak ?_))))))))))))
 obtain rfl:=sI h
 exact am (.inl O) O (rVt (v:=.bool (p0.fID==f)) O) (fun W2 r=>⟨O,r.none⟩)
theorem dA (p0:TL) (p1:Int) (res:Int) (h:bV p0 p1=some res) (W:World) (Aa:Option Addr) (f ca:Nat) (u:f=p0.fNo.length) (d:Rd W Aa f ca (encL TNode_cells p0.fNo)) (Ab:Option Addr) (g cb:Nat) (o:List (Hd × TC)) (w:g=p0.fC.length) (E:Rd W Ab g cb (encL TClaim_cells2 o)) (F:NestW W (fun z:TC=>z.fO) THop_cells o p0.fC) :
  Calls Tryz.prog 62 [.agg #[.slice Aa f ca,.slice Ab g cb],vI p1].toArray W fun e W2=>e=.returned (vI res)∧Ext W W2 []:=by
 subst u
 subst w
 unfold bV at h
 refine ae (m:=9) Tryz.func62 O O (nB O) (cS (cR ?_))
 refine aP [.slice Aa p0.fNo.length ca,.slice Ab p0.fC.length cb] O O O (fun K=>?_)
 refine aP [vI p1] O O O (fun D=>?_)
 refine oY O (yAI O) (oN (eT (cS (cR (oY O (yFA aY O) (oY O (yL 0 dK O O O) (oY O (eS [.pointer (some ⟨D,0,none⟩)] O O) ?_)))))))
 obtain⟨H,G,h⟩:=bOs h
 refine oY O (yC [.slice Aa p0.fNo.length ca,.func (.func 120) #[] #[.pointer (some ⟨D,0,none⟩)]] go_119 O (fun W2 r=>ka p0.fNo (fun I=>dR I p1) H G W2 Aa p0.fNo.length ca O ((RdL.arg d) W2 r) 120 [] [.pointer (some ⟨D,0,none⟩)] go_120 (fun W3 hb x y hxy=>ox  x p1 y hxy W3 D (((RdL.cells 1 O) W2 r).later hb))) O) (oY O (yAI O) (oN (eT (ak ?_))))
 obtain rfl:=sI h
 exact am (.inl O) O (rVt (v:=vI H) O) (fun W2 r=>⟨O,r.none⟩)
theorem fb (p0:(List TC)) (p1:TC→Option Bool) (res:Int) (h:aR p0 p1=some res) (W:World) (Aa:Option Addr) (d ca:Nat) (f:List (Hd × TC)) (D:d=p0.length) (w:Rd W Aa d ca (encL TClaim_cells2 f)) (g:NestW W (fun z:TC=>z.fO) THop_cells f p0) (fid1:Nat) (fst1 caps1:List Value) (G:cE Tryz.prog fid1=true) (H:∀W2,Below W.heap.size W W2→∀x,∀(hx:Hd),Rd W2 hx.1 x.fO.length hx.2.2 (encL THop_cells x.fO)→∀y,p1 x=some y→Calls Tryz.prog fid1 (fst1++(([.agg #[vI x.fID,.slice hx.1 x.fO.length hx.2.2]]:List Value)++caps1)).toArray W2 fun e W3=>e=.returned (.bool y)∧Ext W2 W3 []) :
  Calls Tryz.prog 139 [.slice Aa d ca,.func (.func fid1) fst1.toArray caps1.toArray].toArray W fun e W2=>e=.returned (vI res)∧Ext W W2 []:=by
 subst D
 unfold aR at h
 refine ae (m:=19) Tryz.func139 O O (nB O) (cS (cR (oY O (yAI O) (oN (eT (cS (cS (cR (oY O (yMS O) (oY O (bd (us:=[]) dQ O) (oY O (yMI O) (oN (eT (cB ?_))))))))))))))
 obtain⟨Y,N,h⟩:=bOs h
 refine bW (fun(s:(Int × Int)) L tm=>∃(Q:Nat→Value),L=[]∧tm=(upd (upd (upd (upd (upd Q 0 (.slice Aa p0.length ca)) 1 (.func (.func fid1) fst1.toArray caps1.toArray)) 4 (vI s.1)) 7 (vI (p0.length:Int))) 8 (vI s.2))) 0 N ⟨_,O,(kp4 (kp O))⟩ ?_ ?_
 ·rintro r L tm st ⟨M,rfl,rfl⟩ h
  unfold aN at h
  refine cS (cR (oY O (bA O O) (oN (eT (cS ?_)))))
  rcases iOs h with⟨E,h⟩|⟨E,h⟩
  ·refine cT (vB E) (cK (eT (cS (cB (cS (cR (oY O (yMI O) (oY O (yAI O) (oN (eT (cS (cR (oY O (iO (v:=.func (.func fid1) fst1.toArray caps1.toArray) O) (oY O (yMS O) (oY O (yMI O) ?_)))))))))))))))
   obtain⟨o,h⟩:=gOs h
   refine oY O (yI dY (by decide) o.1 o.2 (RdL.arg w) (eL aa (NestP.hn g.p O)) O O) ?_
   refine oY O (yM (A:=Aa) (j:=(Int.toNat r.2*2)) [vI ((rdL p0 r.2).fID),.slice ((rdL f r.2).1.1) ((rdL p0 r.2).fO.length) ((rdL f r.2).1.2.2)] lX (Nat.succ_pos _) (RdL.arg w) O (iL (a6 (NestP.snd g.p r.2) (NestP.len g.p o.1 (ao o.2 O))).symm (aM aa o.1 (ao o.2 (NestP.hn g.p O))))) ?_
   obtain⟨Z,U,h⟩:=bOs h
   refine oY O (iH [.agg #[vI ((rdL p0 r.2).fID),.slice ((rdL f r.2).1.1) ((rdL p0 r.2).fO.length) ((rdL f r.2).1.2.2)]] G O O (fun W2 u=>H W2 u.below (TC.mk ((rdL p0 r.2).fID) ((rdL p0 r.2).fO)) ((rdL f r.2).1.1,0,(rdL f r.2).1.2.2) ((NestL.rd (NestL.arg g) o.1 (ao o.2 O)) W2 u) Z U)) (oN (eT ?_))
   rcases iOs h with⟨F,h⟩|⟨F,h⟩
   ·refine cT (vB F) (cS (cR (oY O (yMI O) (oY O (yAI O) (oN (eT (ak (ai (ab ?_)))))))))
    obtain rfl:=sI h
    exact ay ⟨O,_,O,(kp4 (kp O))⟩
   ·refine cF (vB F) (cK (aq (eT (cR (oY O (bc O O) (oY O (yMI O) (oN ?_)))))))
    obtain rfl:=sI h
    exact eN ⟨_,O,(kp4 (kp O))⟩
  ·refine cF (vB E) (aK (ah ?_))
   obtain rfl:=sI h
   exact ay ⟨O,_,O,(kp4 (kp O))⟩
 ·intro e L tm hJ
  rcases Y with X|V
  ·dsimp only at h hJ
   obtain⟨rfl,I,rfl,rfl⟩:=hJ
   refine⟨(by intro hc;cases hc),?_⟩
   refine ai (ab ?_)
   obtain rfl:=sI h
   exact am (.inl O) O (rVt (v:=vI X.1) O) (fun W2 u=>⟨O,u.none⟩)
  ·dsimp only at h hJ
   obtain⟨rfl,K,rfl,rfl⟩:=hJ
   refine⟨(by intro hc;cases hc),?_⟩
   refine ag (eT (cS (cR (oY O (yAI O) (oN (eT (ak ?_)))))))
   obtain rfl:=sI h
   exact am (.inl O) O (rVt (v:=vI (-1)) O) (fun W2 u=>⟨O,u.none⟩)
theorem og (p0:TC) (f:Int) (res:Bool) (h:dT p0 f=some res) (W:World) (Ab:Option Addr) (g cb:Nat) (o:g=p0.fO.length) (d:Rd W Ab g cb (encL THop_cells p0.fO)) (r:Nat) (u:Rd W (some ⟨r,0,none⟩) 1 1 (cI f)) :
  Calls Tryz.prog 144 [.agg #[vI p0.fID,.slice Ab g cb],.pointer (some ⟨r,0,none⟩)].toArray W fun e W2=>e=.returned (.bool res)∧Ext W W2 []:=by
 subst o
 unfold dT at h
 refine ae (m:=8) Tryz.func144 O O (nB O) (cS (cR ?_))
 refine aP [vI p0.fID,.slice Ab p0.fO.length cb] O O O (fun D=>?_)
 refine oY O (yAB O) (oN (eT (cS (cR (oY O (yFA fh O) (oY O (yL 0 bN O O O) (oY O (yR (A:=(some ⟨r,0,none⟩)) (j:=0) (v:=vI f) bN (RdL.arg u) O O) (oY O (ig O O) (oY O (yAB O) (oN (eT (ak ?_))))))))))))
 obtain rfl:=sI h
 exact am (.inl O) O (rVt (v:=.bool (p0.fID==f)) O) (fun W2 w=>⟨O,w.none⟩)
theorem gU (p0:TL) (p1:Int) (res:Int) (h:c9 p0 p1=some res) (W:World) (Aa:Option Addr) (g ca:Nat) (u:g=p0.fNo.length) (F:Rd W Aa g ca (encL TNode_cells p0.fNo)) (Ab:Option Addr) (o cb:Nat) (f:List (Hd × TC)) (d:o=p0.fC.length) (w:Rd W Ab o cb (encL TClaim_cells2 f)) (D:NestW W (fun z:TC=>z.fO) THop_cells f p0.fC) :
  Calls Tryz.prog 114 [.agg #[.slice Aa g ca,.slice Ab o cb],vI p1].toArray W fun e W2=>e=.returned (vI res)∧Ext W W2 []:=by
 subst u
 subst d
 unfold c9 at h
 refine ae (m:=9) Tryz.func114 O O (nB O) (cS (cR ?_))
 refine aP [.slice Aa p0.fNo.length ca,.slice Ab p0.fC.length cb] O O O (fun K=>?_)
 refine aP [vI p1] O O O (fun E=>?_)
 refine oY O (yAI O) (oN (eT (cS (cR (oY O (yFA aD O) (oY O (yL 0 bT O O O) (oY O (eS [.pointer (some ⟨E,0,none⟩)] O O) ?_)))))))
 obtain⟨H,G,h⟩:=bOs h
 refine oY O (yC [.slice Ab p0.fC.length cb,.func (.func 144) #[] #[.pointer (some ⟨E,0,none⟩)]] go_139 O (fun W2 r=>fb p0.fC (fun I=>dT I p1) H G W2 Ab p0.fC.length cb f O ((RdL.arg w) W2 r) (NestL.at (NestL.arg D) W2 r) 144 [] [.pointer (some ⟨E,0,none⟩)] go_144 (fun W3 hb x hx rx y hxy=>og  x p1 y hxy W3 hx.1 _ hx.2.2 O rx E (((RdL.cells 1 O) W2 r).later hb))) O) (oY O (yAI O) (oN (eT (ak ?_))))
 obtain rfl:=sI h
 exact am (.inl O) O (rVt (v:=vI H) O) (fun W2 r=>⟨O,r.none⟩)
theorem ef (p0:Int) (p1:Int) (p2:Int) (res:Bool) (h:co p0 p1 p2=some res) (W:World)  :
  Calls Tryz.prog 117 [vI p0,vI p1,vI p2].toArray W fun e W2=>e=.returned (.bool res)∧Ext W W2 []:=by
 unfold co at h
 refine ae (m:=15) Tryz.func117 O O (nB O) (cS (cR (oY O (yAB O) (oN (eT (cS (cR (oY O (yMI O) (oY O (yMI O) (oY O (pO O O) (oY O (yMB O) ?_)))))))))))
 refine oJ 4 (fun g=>(upd (upd g 6 (.bool false)) 14 (.bool ((decide (p1≤p0))&&(decide (p0≤p2)))))) (fun g=>?_) (fun key=>?_)
 ·refine oY O (yAB O) (oN (eT (ak ?_)))
  obtain rfl:=sI h
  exact am (.inl O) O (rVt (v:=.bool ((decide (p1≤p0))&&(decide (p0≤p2)))) O) (fun W2 o=>⟨O,o.none⟩)
 ·rcases aB (decide (p1≤p0))with f|f
  ·refine oY (sT O O O O f) (yMI O) (oY (sT O O O O f) (yMI O) (oY (sT O O O O f) (pO O O) (oY O (aw (vB f) O) ?_)))
   exact key _ _ (keep (keep O O) (vB (mv f)))
  ·refine oSk (sF O O O O f) (oSk (sF O O O O f) (oSk (sF O O O O f) (oY O (av (vB f) O) ?_)))
   exact key _ _ (keep (keep O O) (vB (mu f)))
theorem l4 (p0:(List TH)) (p1:TH) (res:Int) (h:bY p0 p1=some res) (W:World) (Aa:Option Addr) (f ca:Nat) (r:f=p0.length) (g:Rd W Aa f ca (encL THop_cells p0)) :
  Calls Tryz.prog 162 [.slice Aa f ca,.agg #[vI p1.fFrom,vI p1.fTo]].toArray W fun e W2=>e=.returned (vI res)∧Ext W W2 []:=by
 subst r
 unfold bY at h
 refine ae (m:=19) Tryz.func162 O O (nB O) (cS (cR ?_))
 refine aP [vI p1.fFrom,vI p1.fTo] O O O (fun K=>?_)
 refine oY O (yAI O) (oN (eT (cS (cS (cR (oY O (yMS O) (oY O (bd (us:=[]) fZ O) (oY O (yMI O) (oN (eT (cB ?_)))))))))))
 obtain⟨M,H,h⟩:=bOs h
 refine bW (fun(s:(Int × Int)) L tm=>∃(I:Nat→Value),L=[aj K 111 [vI p1.fFrom,vI p1.fTo]]∧tm=(upd (upd (upd (upd (upd I 0 (.slice Aa p0.length ca)) 3 (.pointer (some ⟨K,0,none⟩))) 4 (vI s.1)) 7 (vI (p0.length:Int))) 8 (vI s.2))) 0 H ⟨_,O,(kp4 (kp O))⟩ ?_ ?_
 ·rintro D L tm st ⟨F,rfl,rfl⟩ h
  unfold bi at h
  refine cS (cR (oY O (bA O O) (oN (eT (cS ?_)))))
  rcases iOs h with⟨u,h⟩|⟨u,h⟩
  ·refine cT (vB u) (cK (eT (cS (cB (cS (cR (oY O (yMI O) (oY O (yAI O) (oN (eT (cS ?_)))))))))))
   refine aU 6 cD (by kernel_rfl) (by kernel_rfl) ?_
   refine qY O (yN 0 [vI p1.fFrom,vI p1.fTo] lW O O O) (qY O (yMS O) (qY O (yMI O) ?_))
   obtain⟨o,h⟩:=gOs h
   refine qY O (yI lw (by decide) o.1 o.2 (RdL.arg g) (eL au O) O O) ?_
   refine qY O (yM (A:=Aa) (j:=(Int.toNat D.2*2)) [vI ((rdL p0 D.2).fFrom),vI ((rdL p0 D.2).fTo)] lW (Nat.succ_pos _) (RdL.arg g) O (aM au o.1 (ao o.2 O))) (qY O (y_eqla (b:=((p1.fFrom==(rdL p0 D.2).fFrom)&&(p1.fTo==(rdL p0 D.2).fTo))) eg_111 O O (fun _=>(eqS2 fl_111 (ep bN O) (ep bN O) (ep bN O) (ep bN O) (run_equalIn_int _ _ _ _ _ _ _ pQ) (run_equalIn_int _ _ _ _ _ _ _ pQ)))) (ck (oN (eT ?_))))
   rcases iOs h with⟨d,h⟩|⟨d,h⟩
   ·refine cT (vB d) (cS (cR (oY O (yMI O) (oY O (yAI O) (oN (eT (ak (ai (ab ?_)))))))))
    obtain rfl:=sI h
    exact ay ⟨O,_,O,(kp4 (kp O))⟩
   ·refine cF (vB d) (cK (aq (eT (cR (oY O (bc O O) (oY O (yMI O) (oN ?_)))))))
    obtain rfl:=sI h
    exact eN ⟨_,O,(kp4 (kp O))⟩
  ·refine cF (vB u) (aK (ah ?_))
   obtain rfl:=sI h
   exact ay ⟨O,_,O,(kp4 (kp O))⟩
 ·intro e L tm hJ
  rcases M with N|Q
  ·dsimp only at h hJ
   obtain⟨rfl,G,rfl,rfl⟩:=hJ
   refine⟨(by intro hc;cases hc),?_⟩
   refine ai (ab ?_)
   obtain rfl:=sI h
   exact am (.inl O) O (rVt (v:=vI N.1) O) (fun W2 w=>⟨O,w.none⟩)
  ·dsimp only at h hJ
   obtain⟨rfl,E,rfl,rfl⟩:=hJ
   refine⟨(by intro hc;cases hc),?_⟩
   refine ag (eT (cS (cR (oY O (yAI O) (oN (eT (ak ?_)))))))
   obtain rfl:=sI h
   exact am (.inl O) O (rVt (v:=vI (-1)) O) (fun W2 w=>⟨O,w.none⟩)
theorem li (p0:(List TH)) (p1:TH) (res:Bool) (h:bD p0 p1=some res) (W:World) (Aa:Option Addr) (f ca:Nat) (g:f=p0.length) (o:Rd W Aa f ca (encL THop_cells p0)) :
  Calls Tryz.prog 146 [.slice Aa f ca,.agg #[vI p1.fFrom,vI p1.fTo]].toArray W fun e W2=>e=.returned (.bool res)∧Ext W W2 []:=by
 subst g
 unfold bD at h
 refine ae (m:=9) Tryz.func146 O O (nB O) (cS (cR ?_))
 refine aP [vI p1.fFrom,vI p1.fTo] O O O (fun w=>?_)
 refine oY O (yAB O) (oN (eT (cS (cR (oY O (yMS O) (oY O (yN 0 [vI p1.fFrom,vI p1.fTo] lW O O O) ?_))))))
 obtain⟨d,u,h⟩:=bOs h
 refine oY O (yC [.slice Aa p0.length ca,.agg #[vI p1.fFrom,vI p1.fTo]] go_162 O (fun W2 r=>l4 p0 p1 d u W2 Aa p0.length ca O ((RdL.arg o) W2 r)) O) (oY O (qf O O) (oY O (yAB O) (oN (eT (ak ?_)))))
 obtain rfl:=sI h
 exact am (.inl O) O (rVt (v:=.bool (decide (0≤d))) O) (fun W2 r=>⟨O,r.none⟩)
theorem pj (p0:TL) (p1:(List TH)) (res:Bool) (h:eO p0 p1=some res) (W:World) (Aa:Option Addr) (M ca:Nat) (V:M=p0.fNo.length) (d:Rd W Aa M ca (encL TNode_cells p0.fNo)) (Ab:Option Addr) (N cb:Nat) (D:List (Hd × TC)) (T:N=p0.fC.length) (Q:Rd W Ab N cb (encL TClaim_cells2 D)) (U:NestW W (fun z:TC=>z.fO) THop_cells D p0.fC) (Ac:Option Addr) (X cc:Nat) (S:X=p1.length) (E:Rd W Ac X cc (encL THop_cells p1)) :
  Calls Tryz.prog 118 [.agg #[.slice Aa M ca,.slice Ab N cb],.slice Ac X cc].toArray W fun e W2=>e=.returned (.bool res)∧Ext W W2 []:=by
 subst V
 subst T
 subst S
 unfold eO at h
 refine ae (m:=57) Tryz.func118 O O (nB O) (cS (cR ?_))
 refine aP [.slice Aa p0.fNo.length ca,.slice Ab p0.fC.length cb] O O O (fun n=>?_)
 refine oY O (yAB O) (oN (eT (cS (cS (cR (oY O (yMS O) (oY O (bd (us:=[]) fZ O) ?_)))))))
 obtain⟨y2,f0,h⟩:=bOs h
 refine oY O (yC [vI (p1.length:Int),vI 1,vI 4] rl O (fun W2 o=>ef (p1.length:Int) 1 4 y2 f0 W2 ) O) (oY O (fe O) (oN (eT ?_)))
 rcases iOs h with⟨R,h⟩|⟨R,h⟩
 ·refine cT (vB R) (cS (cR (oY O (yAB O) (oN (eT (ak (ab ?_)))))))
  obtain rfl:=sI h
  exact am (.inl O) O (rVt (v:=.bool false) O) (fun W2 o=>⟨O,o.none⟩)
 ·refine cF (vB R) (cK (eT (cS (cS (cR (oY O (yMS O) (oY O (bd (us:=[]) fZ O) (oY O (yMI O) (oN (eT (cB ?_)))))))))))
  obtain⟨u7,l,h⟩:=bOs h
  refine bW (fun(s:(Bool × Int)) L tm=>∃(w:Nat→Value),L=[aj n 25 [.slice Aa p0.fNo.length ca,.slice Ab p0.fC.length cb]]∧tm=(upd (upd (upd (upd (upd (upd w 1 (.slice Ac p1.length cc)) 2 (.pointer (some ⟨n,0,none⟩))) 4 (.bool s.1)) 13 (.slice Ac p1.length cc)) 14 (vI (p1.length:Int))) 15 (vI s.2))) 0 l ⟨_,O,(kp4 (kp (kp O)))⟩ ?_ ?_
  ·rintro r L tm st ⟨c,rfl,rfl⟩ h
   unfold cw at h
   refine cS (cR (oY O (bA O O) (oN (eT (cS ?_)))))
   rcases iOs h with⟨q,h⟩|⟨q,h⟩
   ·refine cT (vB q) (cK (eT (cS (cB (cS (cR (oY O (yMI O) ?_)))))))
    obtain⟨Z,h⟩:=gOs h
    refine oY O (yI lw (by decide) Z.1 Z.2 (RdL.arg E) (eL au O) O O) ?_
    refine oY O (yM (A:=Ac) (j:=(Int.toNat r.2*2)) [vI ((rdL p1 r.2).fFrom),vI ((rdL p1 r.2).fTo)] lW (Nat.succ_pos _) (RdL.arg E) O (aM au Z.1 (ao Z.2 O))) ?_
    refine aC i8 O (fun p=>?_)
    refine oY O (yAI O) (cr O (yS 1 [vI ((rdL p1 r.2).fFrom),vI ((rdL p1 r.2).fTo)] sz_111 O (nB O) O O O) (oN (eT (cS ?_))))
    refine aU 10 cD (by kernel_rfl) (by kernel_rfl) ?_
    refine qY O (yN 0 [.slice Aa p0.fNo.length ca,.slice Ab p0.fC.length cb] aF O O O) (qY O (yFA pV O) (qY O (yL 1 bN O O O) ?_))
    obtain⟨F,t,h⟩:=bOs h
    refine qY O (yC [.agg #[.slice Aa p0.fNo.length ca,.slice Ab p0.fC.length cb],vI ((rdL p1 r.2).fFrom)] s4 O (fun W2 o=>dA p0 ((rdL p1 r.2).fFrom) F t W2 Aa p0.fNo.length ca O ((RdL.arg d) W2 o) Ab p0.fC.length cb D O ((RdL.arg Q) W2 o) (NestL.at (NestL.arg U) W2 o)) O) (qY O (yN 0 [.slice Aa p0.fNo.length ca,.slice Ab p0.fC.length cb] aF O O O) (qY O (yFA p5 O) (qY O (yL 1 bN O O O) ?_)))
    obtain⟨G,a,h⟩:=bOs h
    refine qY O (yC [.agg #[.slice Aa p0.fNo.length ca,.slice Ab p0.fC.length cb],vI ((rdL p1 r.2).fTo)] s4 O (fun W2 o=>dA p0 ((rdL p1 r.2).fTo) G a W2 Aa p0.fNo.length ca O ((RdL.arg d) W2 o) Ab p0.fC.length cb D O ((RdL.arg Q) W2 o) (NestL.at (NestL.arg U) W2 o)) O) (qY O (yAI O) (qY O (yAI O) (ck (oN (eT (cS ?_))))))
    refine aU 28 cD (by kernel_rfl) (by kernel_rfl) ?_
    refine qY O (yMI O) (qY O (bA O O) (qY O (yMB O) ?_))
    refine qJ 3 (fun w=>(upd (upd (upd (upd (upd (upd (upd (upd (upd (upd (upd (upd w 1 (.slice Ac p1.length cc)) 2 (.pointer (some ⟨n,0,none⟩))) 4 (.bool r.1)) 13 (.slice Ac p1.length cc)) 14 (vI (p1.length:Int))) 15 (vI r.2)) 16 (.bool (decide (r.2<(p1.length:Int))))) 6 (.pointer (some ⟨p,0,none⟩))) 5 (vI r.2)) 7 (vI F)) 8 (vI G)) 33 (.bool ((decide (F<0))||(decide (G<0)))))) (fun w=>?_) (fun key=>?_)
    ·refine qY O (yMB O) ?_
     obtain⟨f1,i,h⟩:=bOs h
     refine qJ 14 (fun w=>(upd (upd (upd (upd (upd (upd (upd (upd (upd (upd (upd (upd w 1 (.slice Ac p1.length cc)) 2 (.pointer (some ⟨n,0,none⟩))) 4 (.bool r.1)) 13 (.slice Ac p1.length cc)) 14 (vI (p1.length:Int))) 15 (vI r.2)) 16 (.bool (decide (r.2<(p1.length:Int))))) 6 (.pointer (some ⟨p,0,none⟩))) 5 (vI r.2)) 7 (vI F)) 8 (vI G)) 48 (.bool f1))) (fun w=>?_) (fun key=>?_)
     ·refine qY O (yMB O) ?_
      obtain⟨f2,k,h⟩:=bOs h
      refine qJ 6 (fun w=>(upd (upd (upd (upd (upd (upd (upd (upd (upd (upd (upd (upd w 1 (.slice Ac p1.length cc)) 2 (.pointer (some ⟨n,0,none⟩))) 4 (.bool r.1)) 13 (.slice Ac p1.length cc)) 14 (vI (p1.length:Int))) 15 (vI r.2)) 16 (.bool (decide (r.2<(p1.length:Int))))) 6 (.pointer (some ⟨p,0,none⟩))) 5 (vI r.2)) 7 (vI F)) 8 (vI G)) 55 (.bool f2))) (fun w=>?_) (fun key=>?_)
      ·refine ck (oN (eT ?_))
       rcases iOs h with⟨Y,h⟩|⟨Y,h⟩
       ·refine cT (vB Y) (cS (cR (oY O (yAB O) (oN (eT (ak (ai (ab (aS 1 ?_)))))))))
        obtain rfl:=sI h
        exact ay ⟨O,_,O,(kp4 (kp (kp O)))⟩
       ·refine cF (vB Y) (cK (aq (eT (cR (oY O (bc O O) (oY O (yMI O) (oN (aS 1 ?_))))))))
        obtain rfl:=sI h
        exact eN ⟨_,O,(kp4 (kp (kp O)))⟩
      ·clear h;rcases iOs k with⟨g,h⟩|⟨g,h⟩
       ·refine ar (sF O O O O g) (ar (sF O O O O g) (ar (sF O O O O g) (ar (sF O O O O g) (ar (sF O O O O g) (qY O (aw (vB g) O) ?_)))))
        obtain rfl:=sI h
        exact key _ _ (kp4 (kp4 (kp4 O)))
       ·refine qY (sT O O O O g) (yMS O) (qY (sT O O O O g) (yMI O) ?_)
        obtain⟨H,h⟩:=gOs h
        refine qY (sT O O O O g) (y_cutH lw H.1 H.2 (RdL.arg E) O O) (qY (sT O O O O g) (yN 1 [vI ((rdL p1 r.2).fFrom),vI ((rdL p1 r.2).fTo)] lW O O O) ?_)
        obtain⟨f3,x,h⟩:=bOs h
        refine qY (sT O O O O g) (yC [.slice Ac (Int.toNat r.2) cc,.agg #[vI ((rdL p1 r.2).fFrom),vI ((rdL p1 r.2).fTo)]] go_146 O (fun W2 o=>li (p1.take (Int.toNat r.2)) (TH.mk ((rdL p1 r.2).fFrom) ((rdL p1 r.2).fTo)) f3 x W2 Ac (Int.toNat r.2) cc (cutH_len H.2 O) ((RdL.cutH au (RdL.arg E) H.1 H.2) W2 o)) O) (qY O (av (vB g) O) ?_)
        obtain rfl:=sI h
        exact key _ _ (kp4 (kp4 (kp4 O)))
     ·clear h;rcases iOs i with⟨f,h⟩|⟨f,h⟩
      ·refine ar (sF O O O O f) (ar (sF O O O O f) (ar (sF O O O O f) (ar (sF O O O O f) (ar (sF O O O O f) (ar (sF O O O O f) (ar (sF O O O O f) (ar (sF O O O O f) (ar (sF O O O O f) (ar (sF O O O O f) (ar (sF O O O O f) (ar (sF O O O O f) (ar (sF O O O O f) (qY O (aw (vB f) O) ?_)))))))))))))
       obtain rfl:=sI h
       exact key _ _ (kp4 (kp4 (kp4 O)))
      ·refine qY (sT O O O O f) (yFA aY O) (qY (sT O O O O f) (yL 0 dK O O O) (qY (sT O O O O f) (yMI O) ?_))
       obtain⟨I,h⟩:=gOs h
       refine qY (sT O O O O f) (yI jL (by decide) I.1 I.2 (RdL.arg d) (eL ad O) O O) ?_
       refine qY (sT O O O O f) (yFR (A:=Aa) (j:=(Int.toNat F*3)) ls O) (qY (sT O O O O f) (yR (A:=Aa) (j:=((Int.toNat F*3)+1)) (v:=vI ((rdL p0.fNo F).fLevel)) bN (RdL.arg d) O (eG ad I.1 (ao I.2 O) O)) (qY (sT O O O O f) (yFA aY O) (qY (sT O O O O f) (yL 0 dK O O O) (qY (sT O O O O f) (yMI O) ?_))))
       obtain⟨K,h⟩:=gOs h
       refine qY (sT O O O O f) (yI jL (by decide) K.1 K.2 (RdL.arg d) (eL ad O) O O) ?_
       refine qY (sT O O O O f) (yFR (A:=Aa) (j:=(Int.toNat G*3)) ls O) (qY (sT O O O O f) (yR (A:=Aa) (j:=((Int.toNat G*3)+1)) (v:=vI ((rdL p0.fNo G).fLevel)) bN (RdL.arg d) O (eG ad K.1 (ao K.2 O) O)) (qY (sT O O O O f) (qf O O) (qY O (av (vB f) O) ?_)))
       obtain rfl:=sI h
       exact key _ _ (kp4 (kp4 (kp4 O)))
    ·rcases aB (decide (F<0))with u|u
     ·refine ar (sF O O O O u) (ar (sF O O O O u) (qY O (aw (vB u) O) ?_))
      exact key _ _ (keep (keep (keep (keep (keep (keep (keep (keep (keep (keep (keep (keep O O) O) O) O) O) O) O) O) O) O) O) (vB (rf u)))
     ·refine qY (sT O O O O u) (yMI O) (qY (sT O O O O u) (bA O O) (qY O (av (vB u) O) ?_))
      exact key _ _ (keep (keep (keep (keep (keep (keep (keep (keep (keep (keep (keep (keep O O) O) O) O) O) O) O) O) O) O) O) (vB (re u)))
   ·refine cF (vB q) (aK (ah ?_))
    obtain rfl:=sI h
    exact ay ⟨O,_,O,(kp4 (kp (kp O)))⟩
  ·intro e L tm hJ
   rcases u7 with f4|fE
   ·dsimp only at h hJ
    obtain⟨rfl,y,rfl,rfl⟩:=hJ
    refine⟨(by intro hc;cases hc),?_⟩
    refine ai (ab ?_)
    obtain rfl:=sI h
    exact am (.inl O) O (rVt (v:=.bool f4.1) O) (fun W2 o=>⟨O,o.none⟩)
   ·dsimp only at h hJ
    obtain⟨rfl,b,rfl,rfl⟩:=hJ
    refine⟨(by intro hc;cases hc),?_⟩
    refine ag (eT (cS (cR (oY O (yAB O) (oN (eT (ak ?_)))))))
    obtain rfl:=sI h
    exact am (.inl O) O (rVt (v:=.bool true) O) (fun W2 o=>⟨O,o.none⟩)
theorem dm (p0:TL) (res:Int) (h:ce p0=some res) (W:World) (Aa:Option Addr) (K ca:Nat) (S:K=p0.fNo.length) (G:Rd W Aa K ca (encL TNode_cells p0.fNo)) (Ab:Option Addr) (M cb:Nat) (f:List (Hd × TC)) (R:M=p0.fC.length) (H:Rd W Ab M cb (encL TClaim_cells2 f)) (u:NestW W (fun z:TC=>z.fO) THop_cells f p0.fC) :
  Calls Tryz.prog 61 [.agg #[.slice Aa K ca,.slice Ab M cb]].toArray W fun e W2=>e=.returned (vI res)∧Ext W W2 []:=by
 subst S
 subst R
 unfold ce at h
 refine ae (m:=83) Tryz.func61 O O (nB O) (cS (cR ?_))
 refine aP [.slice Aa p0.fNo.length ca,.slice Ab p0.fC.length cb] O O O (fun T=>?_)
 refine oY O (yAI O) (oN (eT (cS (cS (cR (oY O (yFA aY O) (oY O (yL 0 dK O O O) (oY O (bd (us:=[]) gE O) (oY O (mq O O) (oY O (yMB O) ?_))))))))))
 refine oJ 5 (fun D=>(upd (upd (upd D 1 (.pointer (some ⟨T,0,none⟩))) 2 (vI 0)) 17 (.bool ((decide (60<(p0.fNo.length:Int)))||(decide (80<(p0.fC.length:Int))))))) (fun D=>?_) (fun key=>?_)
 ·refine oN (eT ?_)
  rcases iOs h with⟨q,h⟩|⟨q,h⟩
  ·refine cT (vB q) (cS (cR (oY O (yAI O) (oN (eT (ak (ab ?_)))))))
   obtain rfl:=sI h
   exact am (.inl O) O (rVt (v:=vI 2) O) (fun W2 g=>⟨O,g.none⟩)
  ·refine cF (vB q) (cK (eT (cS (cS (cR (oY O (yFA aY O) (oY O (yL 0 dK O O O) (oY O (bd (us:=[]) gE O) (oY O (yMI O) (oN (eT (cB ?_))))))))))))
   obtain⟨u6,l,h⟩:=bOs h
   refine bW (fun(s:(Int × Int)) L tm=>∃(D:Nat→Value),L=[aj T 25 [.slice Aa p0.fNo.length ca,.slice Ab p0.fC.length cb]]∧tm=(upd (upd (upd (upd (upd D 1 (.pointer (some ⟨T,0,none⟩))) 2 (vI s.1)) 19 (.slice Aa p0.fNo.length ca)) 20 (vI (p0.fNo.length:Int))) 21 (vI s.2))) 0 l ⟨_,O,(kp4 (kp O))⟩ ?_ ?_
   ·rintro I L tm st ⟨fN,rfl,rfl⟩ h
    unfold dh at h
    refine cS (cR (oY O (bA O O) (oN (eT (cS ?_)))))
    rcases iOs h with⟨n,h⟩|⟨n,h⟩
    ·refine cT (vB n) (cK (eT (cS (cB (cS (cR (oY O (yMI O) ?_)))))))
     obtain⟨V,h⟩:=gOs h
     refine oY O (yI jL (by decide) V.1 V.2 (RdL.arg G) (eL ad O) O O) ?_
     refine oY O (yM (A:=Aa) (j:=(Int.toNat I.2*3)) [vI ((rdL p0.fNo I.2).fID),vI ((rdL p0.fNo I.2).fLevel),vI ((rdL p0.fNo I.2).fCost)] mr (Nat.succ_pos _) (RdL.arg G) O (aM ad V.1 (ao V.2 O))) ?_
     refine aC j7 O (fun b9=>?_)
     refine oY O (yAI O) (cr O (yS 1 [vI ((rdL p0.fNo I.2).fID),vI ((rdL p0.fNo I.2).fLevel),vI ((rdL p0.fNo I.2).fCost)] sz_97 O (nB O) O O O) (oN (eT (cS (cS (cR (oY O (yFA gd O) (oY O (yL 1 bN O O O) ?_))))))))
     obtain⟨fn,t,h⟩:=bOs h
     refine oY O (yC [vI ((rdL p0.fNo I.2).fID),vI 1,vI 1099511627776] rl O (fun W2 g=>ef ((rdL p0.fNo I.2).fID) 1 1099511627776 fn t W2 ) O) (oY O (fe O) (oY O (yMB O) ?_))
     obtain⟨fl,a,h⟩:=bOs h
     refine oJ 5 (fun D=>(upd (upd (upd (upd (upd (upd (upd (upd (upd D 1 (.pointer (some ⟨T,0,none⟩))) 2 (vI I.1)) 19 (.slice Aa p0.fNo.length ca)) 20 (vI (p0.fNo.length:Int))) 21 (vI I.2)) 22 (.bool (decide (I.2<(p0.fNo.length:Int))))) 4 (.pointer (some ⟨b9,0,none⟩))) 3 (vI I.2)) 35 (.bool fl))) (fun D=>?_) (fun key=>?_)
     ·refine oY O (yMB O) ?_
      obtain⟨g1,i,h⟩:=bOs h
      refine oJ 5 (fun D=>(upd (upd (upd (upd (upd (upd (upd (upd (upd D 1 (.pointer (some ⟨T,0,none⟩))) 2 (vI I.1)) 19 (.slice Aa p0.fNo.length ca)) 20 (vI (p0.fNo.length:Int))) 21 (vI I.2)) 22 (.bool (decide (I.2<(p0.fNo.length:Int))))) 4 (.pointer (some ⟨b9,0,none⟩))) 3 (vI I.2)) 41 (.bool g1))) (fun D=>?_) (fun key=>?_)
      ·refine oN (eT ?_)
       rcases iOs h with⟨N,h⟩|⟨N,h⟩
       ·refine cT (vB N) (cS (cR (oY O (yAI O) (oN (eT (ak (ab (ai (ab (aS 1 ?_))))))))))
        obtain rfl:=sI h
        exact ay ⟨O,_,O,(kp4 (kp O))⟩
       ·refine cF (vB N) (cK (eT (cS (cR (oY O (yN 0 [.slice Aa p0.fNo.length ca,.slice Ab p0.fC.length cb] aF O O O) (oY O (yFA gd O) (oY O (yL 1 bN O O O) ?_)))))))
        obtain⟨g2,k,h⟩:=bOs h
        refine oY O (yC [.agg #[.slice Aa p0.fNo.length ca,.slice Ab p0.fC.length cb],vI ((rdL p0.fNo I.2).fID)] s4 O (fun W2 g=>dA p0 ((rdL p0.fNo I.2).fID) g2 k W2 Aa p0.fNo.length ca O ((RdL.arg G) W2 g) Ab p0.fC.length cb f O ((RdL.arg H) W2 g) (NestL.at (NestL.arg u) W2 g)) O) (oY O (yMI O) (oY O (bA O O) (oN (eT ?_))))
        rcases iOs h with⟨Q,h⟩|⟨Q,h⟩
        ·refine cT (vB Q) (cS (cR (oY O (yAI O) (oN (eT (ak (ai (ab (aS 1 ?_)))))))))
         obtain rfl:=sI h
         exact ay ⟨O,_,O,(kp4 (kp O))⟩
        ·refine cF (vB Q) (cK (aq (eT (cR (oY O (bc O O) (oY O (yMI O) (oN (aS 1 ?_))))))))
         obtain rfl:=sI h
         exact eN ⟨_,O,(kp4 (kp O))⟩
      ·clear h;rcases iOs i with⟨d,h⟩|⟨d,h⟩
       ·refine oSk (sF O O O O d) (oSk (sF O O O O d) (oSk (sF O O O O d) (oSk (sF O O O O d) (oY O (aw (vB d) O) ?_))))
        obtain rfl:=sI h
        exact key _ _ (kp4 (kp4 (kp O)))
       ·refine oY (sT O O O O d) (yFA th O) (oY (sT O O O O d) (yL 1 bN O O O) ?_)
        obtain⟨g3,x,h⟩:=bOs h
        refine oY (sT O O O O d) (yC [vI ((rdL p0.fNo I.2).fCost),vI 0,vI 1073741824] rl O (fun W2 g=>ef ((rdL p0.fNo I.2).fCost) 0 1073741824 g3 x W2 ) O) (oY (sT O O O O d) (fe O) (oY O (av (vB d) O) ?_))
        obtain rfl:=sI h
        exact key _ _ (kp4 (kp4 (kp O)))
     ·clear h;rcases iOs a with⟨w,h⟩|⟨w,h⟩
      ·refine oSk (sF O O O O w) (oSk (sF O O O O w) (oSk (sF O O O O w) (oSk (sF O O O O w) (oY O (aw (vB w) O) ?_))))
       obtain rfl:=sI h
       exact key _ _ (kp4 (kp4 (kp O)))
      ·refine oY (sT O O O O w) (yFA ls O) (oY (sT O O O O w) (yL 1 bN O O O) ?_)
       obtain⟨gf,y,h⟩:=bOs h
       refine oY (sT O O O O w) (yC [vI ((rdL p0.fNo I.2).fLevel),vI 0,vI 9] rl O (fun W2 g=>ef ((rdL p0.fNo I.2).fLevel) 0 9 gf y W2 ) O) (oY (sT O O O O w) (fe O) (oY O (av (vB w) O) ?_))
       obtain rfl:=sI h
       exact key _ _ (kp4 (kp4 (kp O)))
    ·refine cF (vB n) (aK (ah ?_))
     obtain rfl:=sI h
     exact ay ⟨O,_,O,(kp4 (kp O))⟩
   ·intro e L tm hJ
    rcases u6 with o0|ok
    ·dsimp only at h hJ
     obtain⟨rfl,b,rfl,rfl⟩:=hJ
     refine⟨(by intro hc;cases hc),?_⟩
     refine ai (ab ?_)
     obtain rfl:=sI h
     exact am (.inl O) O (rVt (v:=vI o0.1) O) (fun W2 g=>⟨O,g.none⟩)
    ·dsimp only at h hJ
     obtain⟨rfl,c,rfl,rfl⟩:=hJ
     refine⟨(by intro hc;cases hc),?_⟩
     refine ag (eT (cS (cR (oY O (yAI O) (oN (eT (cS (cS (cR (oY O (yFA aD O) (oY O (yL 0 bT O O O) (oY O (bd (us:=[]) dQ O) (oY O (yMI O) (oN (eT (cB ?_))))))))))))))))
     obtain⟨o1,f0,h⟩:=bOs h
     refine bW (fun(s:(Int × Int × Int)) L tm=>∃(D:Nat→Value),L=[aj T 25 [.slice Aa p0.fNo.length ca,.slice Ab p0.fC.length cb]]∧tm=(upd (upd (upd (upd (upd (upd D 1 (.pointer (some ⟨T,0,none⟩))) 2 (vI s.1)) 5 (vI s.2.1)) 50 (.slice Ab p0.fC.length cb)) 51 (vI (p0.fC.length:Int))) 52 (vI s.2.2))) 2 f0 ⟨_,O,(kp4 (kp (kp O)))⟩ ?_ ?_
     ·rintro o L tm st ⟨f1,rfl,rfl⟩ h
      unfold di at h
      refine cS (cR (oY O (bA O O) (oN (eT (cS ?_)))))
      rcases iOs h with⟨U,h⟩|⟨U,h⟩
      ·refine cT (vB U) (cK (eT (cS (cB (cS (cR (oY O (yMI O) ?_)))))))
       obtain⟨F,h⟩:=gOs h
       refine oY O (yI dY (by decide) F.1 F.2 (RdL.arg H) (eL aa (NestP.hn u.p O)) O O) ?_
       refine oY O (yM (A:=Ab) (j:=(Int.toNat o.2.2*2)) [vI ((rdL p0.fC o.2.2).fID),.slice ((rdL f o.2.2).1.1) ((rdL p0.fC o.2.2).fO.length) ((rdL f o.2.2).1.2.2)] lX (Nat.succ_pos _) (RdL.arg H) O (iL (a6 (NestP.snd u.p o.2.2) (NestP.len u.p F.1 (ao F.2 O))).symm (aM aa F.1 (ao F.2 (NestP.hn u.p O))))) ?_
       refine aC gR O (fun o2=>?_)
       refine oY O (yAI O) (cr O (yS 1 [vI ((rdL p0.fC o.2.2).fID),.slice ((rdL f o.2.2).1.1) ((rdL p0.fC o.2.2).fO.length) ((rdL f o.2.2).1.2.2)] rY O (nB O) O O O) (oN (eT (cS (cS (cR (oY O (yFA fh O) (oY O (yL 1 bN O O O) ?_))))))))
       obtain⟨oq,f2,h⟩:=bOs h
       refine oY O (yC [vI ((rdL p0.fC o.2.2).fID),vI 1,vI 1099511627776] rl O (fun W2 g=>ef ((rdL p0.fC o.2.2).fID) 1 1099511627776 oq f2 W2 ) O) (oY O (fe O) (oY O (yMB O) ?_))
       obtain⟨op,f3,h⟩:=bOs h
       refine oJ 6 (fun D=>(upd (upd (upd (upd (upd (upd (upd (upd (upd (upd D 1 (.pointer (some ⟨T,0,none⟩))) 2 (vI o.1)) 5 (vI o.2.1)) 50 (.slice Ab p0.fC.length cb)) 51 (vI (p0.fC.length:Int))) 52 (vI o.2.2)) 53 (.bool (decide (o.2.2<(p0.fC.length:Int))))) 7 (.pointer (some ⟨o2,0,none⟩))) 6 (vI o.2.2)) 67 (.bool op))) (fun D=>?_) (fun key=>?_)
       ·refine oN (eT ?_)
        rcases iOs h with⟨X,h⟩|⟨X,h⟩
        ·refine cT (vB X) (cS (cR (oY O (yAI O) (oN (eT (ak (ab (ai (ab (aS 1 ?_))))))))))
         obtain rfl:=sI h
         exact ay ⟨O,_,O,(kp4 (kp (kp O)))⟩
        ·refine cF (vB X) (cK (eT (cS (cS (cR (oY O (yN 0 [.slice Aa p0.fNo.length ca,.slice Ab p0.fC.length cb] aF O O O) (oY O (yFA fh O) (oY O (yL 1 bN O O O) ?_))))))))
         obtain⟨om,f4,h⟩:=bOs h
         refine oY O (yC [.agg #[.slice Aa p0.fNo.length ca,.slice Ab p0.fC.length cb],vI ((rdL p0.fC o.2.2).fID)] go_114 O (fun W2 g=>gU p0 ((rdL p0.fC o.2.2).fID) om f4 W2 Aa p0.fNo.length ca O ((RdL.arg G) W2 g) Ab p0.fC.length cb f O ((RdL.arg H) W2 g) (NestL.at (NestL.arg u) W2 g)) O) (oY O (yMI O) (oY O (bA O O) (oN (eT ?_))))
         rcases iOs h with⟨Y,h⟩|⟨Y,h⟩
         ·refine cT (vB Y) (cS (cR (oY O (yAI O) (oN (eT (ak (ab (ai (ab (aS 1 ?_))))))))))
          obtain rfl:=sI h
          exact ay ⟨O,_,O,(kp4 (kp (kp O)))⟩
         ·refine cF (vB Y) (cK (eT (cR (oY O (yMI O) (oY O (yFA bQ O) (oY O (yL 1 gL O O O) (oY O (bd (us:=[]) fZ O) (oY O (y_mul O O) (oY O (y_min O O) (oY O (yAI O) (oN (aq (eT (cR (oY O (bc O O) (oY O (yMI O) (oN (aS 1 ?_))))))))))))))))))
          obtain rfl:=sI h
          exact eN ⟨_,O,(kp4 (kp (kp O)))⟩
       ·clear h;rcases iOs f3 with⟨r,h⟩|⟨r,h⟩
        ·refine oSk (sF O O O O r) (oSk (sF O O O O r) (oSk (sF O O O O r) (oSk (sF O O O O r) (oSk (sF O O O O r) (oY O (aw (vB r) O) ?_)))))
         obtain rfl:=sI h
         exact key _ _ (kp4 (kp4 (kp (kp O))))
        ·refine oY (sT O O O O r) (yN 0 [.slice Aa p0.fNo.length ca,.slice Ab p0.fC.length cb] aF O O O) (oY (sT O O O O r) (yFA bQ O) (oY (sT O O O O r) (yL 1 gL O O O) ?_))
         obtain⟨ot,fr,h⟩:=bOs h
         refine oY (sT O O O O r) (yC [.agg #[.slice Aa p0.fNo.length ca,.slice Ab p0.fC.length cb],.slice ((rdL f o.2.2).1.1) ((rdL p0.fC o.2.2).fO.length) ((rdL f o.2.2).1.2.2)] go_118 O (fun W2 g=>pj p0 ((rdL p0.fC o.2.2).fO) ot fr W2 Aa p0.fNo.length ca O ((RdL.arg G) W2 g) Ab p0.fC.length cb f O ((RdL.arg H) W2 g) (NestL.at (NestL.arg u) W2 g) ((rdL f o.2.2).1.1) ((rdL p0.fC o.2.2).fO.length) ((rdL f o.2.2).1.2.2) O ((NestL.rd (NestL.arg u) F.1 (ao F.2 O)) W2 g)) O) (oY (sT O O O O r) (fe O) (oY O (av (vB r) O) ?_))
         obtain rfl:=sI h
         exact key _ _ (kp4 (kp4 (kp (kp O))))
      ·refine cF (vB U) (aK (ah ?_))
       obtain rfl:=sI h
       exact ay ⟨O,_,O,(kp4 (kp (kp O)))⟩
     ·intro e L tm hJ
      rcases o1 with oa|r0
      ·dsimp only at h hJ
       obtain⟨rfl,fd,rfl,rfl⟩:=hJ
       refine⟨(by intro hc;cases hc),?_⟩
       refine ai (ab ?_)
       obtain rfl:=sI h
       exact am (.inl O) O (rVt (v:=vI oa.1) O) (fun W2 g=>⟨O,g.none⟩)
      ·dsimp only at h hJ
       obtain⟨rfl,fE,rfl,rfl⟩:=hJ
       refine⟨(by intro hc;cases hc),?_⟩
       refine ag (eT (cS (cS (cR (oY O (yMI O) (oY O (mq O O) (oN (eT ?_))))))))
       rcases iOs h with⟨Z,h⟩|⟨Z,h⟩
       ·refine cT (vB Z) (cS (cR (oY O (yAI O) (oN (eT (ak (ab ?_)))))))
        obtain rfl:=sI h
        exact am (.inl O) O (rVt (v:=vI 2) O) (fun W2 g=>⟨O,g.none⟩)
       ·refine cF (vB Z) (cK (eT (cS (cR (oY O (yAI O) (oN (eT (ak ?_))))))))
        obtain rfl:=sI h
        exact am (.inl O) O (rVt (v:=vI 0) O) (fun W2 g=>⟨O,g.none⟩)
 ·rcases aB (decide (60<(p0.fNo.length:Int)))with E|E
  ·refine oSk (sF O O O O E) (oSk (sF O O O O E) (oSk (sF O O O O E) (oSk (sF O O O O E) (oY O (aw (vB E) O) ?_))))
   exact key _ _ (keep (keep (keep O O) O) (vB (rf E)))
  ·refine oY (sT O O O O E) (yFA aD O) (oY (sT O O O O E) (yL 0 bT O O O) (oY (sT O O O O E) (bd (us:=[]) dQ O) (oY (sT O O O O E) (mq O O) (oY O (av (vB E) O) ?_))))
   exact key _ _ (keep (keep (keep O O) O) (vB (re E)))
theorem gT (p0:Int) (res:Bool) (h:c5 p0=some res) (W:World)  :
  Calls Tryz.prog 168 [vI p0].toArray W fun e W2=>e=.returned (.bool res)∧Ext W W2 []:=by
 unfold c5 at h
 refine ae (m:=6) Tryz.func168 O O (nB O) (cS (cR (oY O (yAB O) (oN (eT (cS (cR (oY O (yMI O) (oY O (yMI O) (oY O (dD O O) (oY O (yAB O) (oN (eT (ak ?_))))))))))))))
 obtain rfl:=sI h
 exact am (.inl O) O (rVt (v:=.bool (p0 !=p0)) O) (fun W2 f=>⟨O,f.none⟩)
theorem qq (p0:Int) (p1:Int) (res:Bool) (h:jP p0 p1=some res) (W:World)  :
  Calls Tryz.prog 154 [vI p0,vI p1].toArray W fun e W2=>e=.returned (.bool res)∧Ext W W2 []:=by
 unfold jP at h
 refine ae (m:=17) Tryz.func154 O O (nB O) (cS (cR (oY O (yAB O) (oN (eT (cS (cR (oY O (yMI O) ?_))))))))
 obtain⟨E,d,h⟩:=bOs h
 refine oY O (yC [vI p0] go_168 O (fun W2 r=>gT p0 E d W2 ) O) (oY O (yMB O) ?_)
 obtain⟨u,w,h⟩:=bOs h
 refine oJ 4 (fun o=>(upd (upd (upd (upd o 0 (vI p0)) 1 (vI p1)) 4 (.bool false)) 11 (.bool u))) (fun o=>?_) (fun key=>?_)
 ·refine oY O (yMB O) ?_
  refine oJ 4 (fun o=>(upd (upd o 4 (.bool false)) 16 (.bool (u||(decide (p0<p1)))))) (fun o=>?_) (fun key=>?_)
  ·refine oY O (yAB O) (oN (eT (ak ?_)))
   obtain rfl:=sI h
   exact am (.inl O) O (rVt (v:=.bool (u||(decide (p0<p1)))) O) (fun W2 r=>⟨O,r.none⟩)
  ·rcases aB u with f|f
   ·refine oSk (sF O O O O f) (oSk (sF O O O O f) (oSk (sF O O O O f) (oY O (aw (vB f) O) ?_)))
    exact key _ _ (keep (keep O O) (vB (rf f)))
   ·refine oY (sT O O O O f) (yMI O) (oY (sT O O O O f) (yMI O) (oY (sT O O O O f) (bA O O) (oY O (av (vB f) O) ?_)))
    exact key _ _ (keep (keep O O) (vB (re f)))
 ·clear h;rcases iOs w with⟨g,h⟩|⟨g,h⟩
  ·refine oY (sT O O O O g) (yMI O) ?_
   obtain⟨F,D,h⟩:=bOs h
   refine oY (sT O O O O g) (yC [vI p1] go_168 O (fun W2 r=>gT p1 F D W2 ) O) (oY (sT O O O O g) (fe O) (oY O (aw (vB g) O) ?_))
   obtain rfl:=sI h
   exact key _ _ (kp4 O)
  ·refine oSk (sF O O O O g) (oSk (sF O O O O g) (oSk (sF O O O O g) (oY O (av (vB g) O) ?_)))
   obtain rfl:=sI h
   exact key _ _ (kp4 O)
theorem io (p0:(List Int)) (p1:Int) (p2:Int) (res:(List Int)) (h:bt p0 p1 p2=some res) (W:World) (a:World) (R:Res) (Aa:Option Addr) (r ca:Nat) (N:r=p0.length) (hW:Ext a W [R,aO Aa ca 3 1 r (encL cI p0)]) :
  Calls Tryz.prog 148 [.slice Aa r ca,vI p1,vI p2].toArray W fun e W2=>e=.returned (.tuple #[])∧r=res.length∧Ext a W2 [R,aO Aa ca 3 1 r (encL cI res)]:=by
 subst N
 unfold bt at h
 refine ff (m:=49) Tryz.func148 O O (nB O) hW (cS (cR (oY O (yMI O) (oY O (bc O O) (oY O (yAI O) (oN (eT (cB ?_))))))))
 obtain⟨z,U,h⟩:=bOs h
 refine bF (fun(s:(Int × (List Int))) L tm=>∃(H:Nat→Value),p0.length=s.2.length∧L=[R,aO Aa ca 3 1 p0.length (encL cI s.2)]∧tm=(upd (upd (upd (upd H 0 (.slice Aa p0.length ca)) 1 (vI p1)) 2 (vI p2)) 6 (vI s.1))) 0 U ⟨_,O,O,(kp4 O)⟩ ?_ ?_
 ·rintro T L tm st ⟨S,u,rfl,rfl⟩ h
  unfold aE at h
  refine cS (cS (cR (oY O (yMI O) (oY O (yMI O) (oY O (bA O O) (oN (eT ?_)))))))
  rcases iOs h with⟨Q,h⟩|⟨Q,h⟩
  ·refine cT (vB Q) (cK (eT (cS (cB (cS (cR (oY O (yMI O) (oY O (yAI O) (oN (eT (cB ?_)))))))))))
   obtain⟨i,X,h⟩:=bOs h
   refine bF (fun(s:(Int × (List Int))) L tm=>∃(H:Nat→Value),p0.length=s.2.length∧L=[R,aO Aa ca 3 1 p0.length (encL cI s.2)]∧tm=(upd (upd (upd (upd (upd (upd H 0 (.slice Aa p0.length ca)) 1 (vI p1)) 2 (vI p2)) 6 (vI T.1)) 12 (.bool (decide (T.1<p2)))) 7 (vI s.1))) 2 X ⟨_,u,O,(kp4 (kp (kp O)))⟩ ?_ ?_
   ·rintro o L tm st ⟨q,f,rfl,rfl⟩ h
    unfold aV at h
    refine cS (cS ?_)
    refine aU 15 cD (by kernel_rfl) (by kernel_rfl) ?_
    refine qY O (yMI O) (qY O (yMI O) (qY O (mq O O) (qY O (yMB O) ?_)))
    obtain⟨l,Y,h⟩:=bOs h
    refine qJ 11 (fun H=>(upd (upd (upd (upd (upd (upd (upd H 0 (.slice Aa p0.length ca)) 1 (vI p1)) 2 (vI p2)) 6 (vI T.1)) 12 (.bool (decide (T.1<p2)))) 7 (vI o.1)) 30 (.bool l))) (fun H=>?_) (fun key=>?_)
    ·refine ck (oN (eT ?_))
     rcases iOs h with⟨I,h⟩|⟨I,h⟩
     ·refine cT (vB I) (cK (eT (cS (cB ?_))))
      obtain⟨d,h⟩:=gOs h
      obtain⟨w,h⟩:=gOs h
      obtain⟨D,h⟩:=gOs h
      obtain⟨E,h⟩:=gOs h
      refine eV [[],[],[],[],[3],[],[],[6],[5,6,7],[5,6,7,8],[],[],[10,11],[10,11,12],[0,1,5,6,7,8,9,10,11,12,13],[0,1,5,6,7,8,9,10,11,12,13,14],[0,1,2,3,4,5,6,7,8,9,10,11,12,13,14,15],[0,1,2,3,4,5,6,7,8,9,10,11,12,13,14,15,16]] [(none,0,[true,true]),(none,0,[true,true]),(none,0,[true,false]),(none,0,[true,false]),(none,0,[true,false]),(none,0,[true,true]),(none,0,[true,true]),(none,0,[true,true]),(none,0,[true,true]),(none,0,[true,true]),(none,0,[true,true]),(none,0,[true,true]),(none,0,[true,true]),(none,0,[true,true]),(none,0,[true,true]),(some 1,0,[true,true]),(none,0,[true,true]),(some 1,0,[true,true])] [⟨fun _=>.slice Aa p0.length ca,fun _=>noR,fun _=>[]⟩,⟨fun _=>vI o.1,fun _=>noR,fun _=>[]⟩,⟨fun _=>.slice Aa p0.length ca,fun _=>noR,fun _=>[]⟩,⟨fun _=>vI o.1,fun _=>noR,fun _=>[]⟩,⟨fun _=>vI (w64 (o.1-1)),fun _=>noR,fun _=>[]⟩,⟨fun _=>.slice Aa p0.length ca,fun _=>noR,fun _=>[]⟩,⟨fun _=>vI o.1,fun _=>noR,fun _=>[]⟩,⟨fun _=>vI (w64 (o.1-1)),fun _=>noR,fun _=>[]⟩,⟨fun _=>slA Aa (Int.toNat (w64 (o.1-1))*1),fun _=>noR,fun _=>[]⟩,⟨fun _=>vI (rdL o.2 (w64 (o.1-1))),fun _=>noR,fun _=>[]⟩,⟨fun _=>.slice Aa p0.length ca,fun _=>noR,fun _=>[]⟩,⟨fun _=>vI o.1,fun _=>noR,fun _=>[]⟩,⟨fun _=>slA Aa (Int.toNat o.1*1),fun _=>noR,fun _=>[]⟩,⟨fun _=>vI (rdL o.2 o.1),fun _=>noR,fun _=>[]⟩,⟨fun _=>slA Aa (Int.toNat o.1*1),fun _=>noR,fun _=>[]⟩,⟨fun _=>undef,fun _=>aO Aa ca 3 1 p0.length (encL cI (o.2.set (Int.toNat o.1) (rdL o.2 (w64 (o.1-1))))),fun _=>[]⟩,⟨fun _=>slA Aa (Int.toNat (w64 (o.1-1))*1),fun _=>noR,fun _=>[]⟩,⟨fun _=>undef,fun _=>aO Aa ca 3 1 p0.length (encL cI ((o.2.set (Int.toNat o.1) (rdL o.2 (w64 (o.1-1)))).set (Int.toNat (w64 (o.1-1))) (rdL o.2 o.1))),fun _=>[]⟩] 2 cD (by kernel_rfl) (by kernel_rfl) ⟨⟨fun ξ14 ξ14' h=>⟨O,O,O⟩,fun _=>O⟩,⟨fun ξ14 ξ14' h=>⟨O,O,O⟩,fun _=>O⟩,⟨fun ξ14 ξ14' h=>⟨O,O,O⟩,fun _=>O⟩,⟨fun ξ14 ξ14' h=>⟨O,O,O⟩,fun _=>O⟩,⟨fun ξ14 ξ14' h=>⟨O,O,O⟩,fun _=>O⟩,⟨fun ξ14 ξ14' h=>⟨O,O,O⟩,fun _=>O⟩,⟨fun ξ14 ξ14' h=>⟨O,O,O⟩,fun _=>O⟩,⟨fun ξ14 ξ14' h=>⟨O,O,O⟩,fun _=>O⟩,⟨fun ξ14 ξ14' h=>⟨O,O,O⟩,fun _=>O⟩,⟨fun ξ14 ξ14' h=>⟨O,O,O⟩,fun _=>O⟩,⟨fun ξ14 ξ14' h=>⟨O,O,O⟩,fun _=>O⟩,⟨fun ξ14 ξ14' h=>⟨O,O,O⟩,fun _=>O⟩,⟨fun ξ14 ξ14' h=>⟨O,O,O⟩,fun _=>O⟩,⟨fun ξ14 ξ14' h=>⟨O,O,O⟩,fun _=>O⟩,⟨fun ξ14 ξ14' h=>⟨O,O,O⟩,fun _=>O⟩,⟨fun ξ14 ξ14' h=>⟨O,O,O⟩,fun _=>O⟩,⟨fun ξ14 ξ14' h=>⟨O,O,O⟩,fun _=>O⟩,⟨fun ξ14 ξ14' h=>⟨O,O,O⟩,fun _=>O⟩,trivial⟩ O (fun ξ14=>?_)
      refine cf O (fun L2=>?_) ?_
      ·dsimp only[aA,lca,lna]
       refine oY O (yMS O) (oN ?_)
       exact al (fun _=>(none,0,0,[],noR)) O (List.append_nil _)
      dsimp only[bG,lsz,lss,lna,lca,List.append_nil]
      refine cf O (fun L2=>?_) ?_
      ·dsimp only[aA,lca,lna]
       refine oY O (yMI O) (oN ?_)
       exact al (fun _=>(none,0,0,[],noR)) O (List.append_nil _)
      dsimp only[bG,lsz,lss,lna,lca,List.append_nil]
      refine cf O (fun L2=>?_) ?_
      ·dsimp only[aA,lca,lna]
       refine oY O (yMS O) (oN ?_)
       exact al (fun _=>(none,0,0,[],noR)) O (List.append_nil _)
      dsimp only[bG,lsz,lss,lna,lca,List.append_nil]
      refine cf O (fun L2=>?_) ?_
      ·dsimp only[aA,lca,lna]
       refine oY O (yMI O) (oN ?_)
       exact al (fun _=>(none,0,0,[],noR)) O (List.append_nil _)
      dsimp only[bG,lsz,lss,lna,lca,List.append_nil]
      refine cf O (fun L2=>?_) ?_
      ·dsimp only[aA,lca,lna]
       refine oY O (nq O O) (oN ?_)
       exact al (fun _=>(none,0,0,[],noR)) O (List.append_nil _)
      dsimp only[bG,lsz,lss,lna,lca,List.append_nil]
      refine cf O (fun L2=>?_) ?_
      ·dsimp only[aA,lca,lna]
       refine oY O (yMS O) (oN ?_)
       exact al (fun _=>(none,0,0,[],noR)) O (List.append_nil _)
      dsimp only[bG,lsz,lss,lna,lca,List.append_nil]
      refine cf O (fun L2=>?_) ?_
      ·dsimp only[aA,lca,lna]
       refine oY O (yMI O) (oN ?_)
       exact al (fun _=>(none,0,0,[],noR)) O (List.append_nil _)
      dsimp only[bG,lsz,lss,lna,lca,List.append_nil]
      refine cf O (fun L2=>?_) ?_
      ·dsimp only[aA,lca,lna]
       refine oY O (nq O O) (oN ?_)
       exact al (fun _=>(none,0,0,[],noR)) O (List.append_nil _)
      dsimp only[bG,lsz,lss,lna,lca,List.append_nil]
      refine cf O (fun L2=>?_) ?_
      ·dsimp only[aA,lca,lna]
       refine oY O (yI gM (by decide) d.1 d.2 (RdL.row 1 O) (eL aG f) O O) ?_
       refine oN ?_
       exact al (fun _=>(none,0,0,[],noR)) O (List.append_nil _)
      dsimp only[bG,lsz,lss,lna,lca,List.append_nil]
      refine cf O (fun L2=>?_) ?_
      ·dsimp only[aA,lca,lna]
       refine oY O (yR (A:=Aa) (j:=(Int.toNat (w64 (o.1-1))*1)) (v:=vI (rdL o.2 (w64 (o.1-1)))) bN (RdL.row 1 O) O (bB aG d.1 (ao d.2 f) O)) (oN ?_)
       exact al (fun _=>(none,0,0,[],noR)) O (List.append_nil _)
      dsimp only[bG,lsz,lss,lna,lca,List.append_nil]
      refine cf O (fun L2=>?_) ?_
      ·dsimp only[aA,lca,lna]
       refine oY O (yMS O) (oN ?_)
       exact al (fun _=>(none,0,0,[],noR)) O (List.append_nil _)
      dsimp only[bG,lsz,lss,lna,lca,List.append_nil]
      refine cf O (fun L2=>?_) ?_
      ·dsimp only[aA,lca,lna]
       refine oY O (yMI O) (oN ?_)
       exact al (fun _=>(none,0,0,[],noR)) O (List.append_nil _)
      dsimp only[bG,lsz,lss,lna,lca,List.append_nil]
      refine cf O (fun L2=>?_) ?_
      ·dsimp only[aA,lca,lna]
       refine oY O (yI gM (by decide) w.1 w.2 (RdL.row 1 O) (eL aG f) O O) ?_
       refine oN ?_
       exact al (fun _=>(none,0,0,[],noR)) O (List.append_nil _)
      dsimp only[bG,lsz,lss,lna,lca,List.append_nil]
      refine cf O (fun L2=>?_) ?_
      ·dsimp only[aA,lca,lna]
       refine oY O (yR (A:=Aa) (j:=(Int.toNat o.1*1)) (v:=vI (rdL o.2 o.1)) bN (RdL.row 1 O) O (bB aG w.1 (ao w.2 f) O)) (oN ?_)
       exact al (fun _=>(none,0,0,[],noR)) O (List.append_nil _)
      dsimp only[bG,lsz,lss,lna,lca,List.append_nil]
      refine cf O (fun L2=>?_) ?_
      ·dsimp only[aA,lca,lna]
       refine oY O (yI gM (by decide) D.1 D.2 (RdL.row 1 O) (eL aG f) O O) ?_
       refine oN ?_
       exact al (fun _=>(none,0,0,[],noR)) O (List.append_nil _)
      dsimp only[bG,lsz,lss,lna,lca,List.append_nil]
      refine gx_n O (fun L2=>?_) ?_
      ·dsimp only[aA,lca,lna]
       refine cr O (ky 1 (xs:=o.2) aG (rdL o.2 (w64 (o.1-1))) sz_3 O D.1 (ao D.2 f) O O O O) (oN ?_)
       first|exact bK (fun _=>(none,0,0,[],noR)) O|exact bK (fun _=>(none,0,0,[],noR)) (List.append_nil _)
      dsimp only[bG,lsz,lss,lna,lca,List.append_nil]
      refine cf O (fun L2=>?_) ?_
      ·dsimp only[aA,lca,lna]
       refine oY O (yI gM (by decide) E.1 E.2 (RdL.row 1 O) (eL aG (lL f)) O O) ?_
       refine oN ?_
       exact al (fun _=>(none,0,0,[],noR)) O (List.append_nil _)
      dsimp only[bG,lsz,lss,lna,lca,List.append_nil]
      refine gx_n O (fun L2=>?_) ?_
      ·dsimp only[aA,lca,lna]
       refine cr O (ky 1 (xs:=(o.2.set (Int.toNat o.1) (rdL o.2 (w64 (o.1-1))))) aG (rdL o.2 o.1) sz_3 O E.1 (ao E.2 (lL f)) O O O O) (oN ?_)
       first|exact bK (fun _=>(none,0,0,[],noR)) O|exact bK (fun _=>(none,0,0,[],noR)) (List.append_nil _)
      dsimp only[bG,lsz,lss,lna,lca,List.append_nil]
      refine lK (aq (eT (cR (oY O (yMI O) (oY O (nq O O) (oY O (yAI O) (oN ?_)))))))
      obtain rfl:=sI h
      exact eN ⟨_,(lL (lL f)),O,(kp4 (kp (kp O)))⟩
     ·refine cF (vB I) (aK (ah ?_))
      obtain rfl:=sI h
      exact ay ⟨O,_,f,O,(kp4 (kp (kp O)))⟩
    ·clear h;rcases iOs Y with⟨g,h⟩|⟨g,h⟩
     ·refine qY (sT O O O O g) (yMS O) (qY (sT O O O O g) (yMI O) ?_)
      obtain⟨F,h⟩:=gOs h
      refine qY (sT O O O O g) (yI gM (by decide) F.1 F.2 (RdL.row 1 O) (eL aG f) O O) ?_
      refine qY (sT O O O O g) (yR (A:=Aa) (j:=(Int.toNat o.1*1)) (v:=vI (rdL o.2 o.1)) bN (RdL.row 1 O) O (bB aG F.1 (ao F.2 f) O)) (qY (sT O O O O g) (yMS O) (qY (sT O O O O g) (yMI O) (qY (sT O O O O g) (nq O O) ?_)))
      obtain⟨G,h⟩:=gOs h
      refine qY (sT O O O O g) (yI gM (by decide) G.1 G.2 (RdL.row 1 O) (eL aG f) O O) ?_
      refine qY (sT O O O O g) (yR (A:=Aa) (j:=(Int.toNat (w64 (o.1-1))*1)) (v:=vI (rdL o.2 (w64 (o.1-1)))) bN (RdL.row 1 O) O (bB aG G.1 (ao G.2 f) O)) ?_
      obtain⟨t,Z,h⟩:=bOs h
      refine qY (sT O O O O g) (yC [vI (rdL o.2 o.1),vI (rdL o.2 (w64 (o.1-1)))] go_154 O (fun W2 V=>qq (rdL o.2 o.1) (rdL o.2 (w64 (o.1-1))) t Z W2 ) O) (qY O (aw (vB g) O) ?_)
      obtain rfl:=sI h
      exact key _ _ (kp4 (kp (kp (kp O))))
     ·refine ar (sF O O O O g) (ar (sF O O O O g) (ar (sF O O O O g) (ar (sF O O O O g) (ar (sF O O O O g) (ar (sF O O O O g) (ar (sF O O O O g) (ar (sF O O O O g) (ar (sF O O O O g) (ar (sF O O O O g) (qY O (av (vB g) O) ?_))))))))))
      obtain rfl:=sI h
      exact key _ _ (kp4 (kp (kp (kp O))))
   ·intro e L tm hJ
    obtain⟨rfl,p,K,rfl,rfl⟩:=hJ
    refine⟨(by intro hc;cases hc),?_⟩
    refine ag (aq (eT (cR (oY O (yMI O) (oY O (bc O O) (oY O (yAI O) (oN ?_)))))))
    obtain rfl:=sI h
    exact eN ⟨_,K,O,(kp4 O)⟩
  ·refine cF (vB Q) (aK (ah ?_))
   obtain rfl:=sI h
   exact ay ⟨O,_,u,O,(kp4 O)⟩
 ·intro e L tm hJ
  obtain⟨rfl,n,M,rfl,rfl⟩:=hJ
  refine⟨(by intro hc;cases hc),?_⟩
  refine ag ?_
  obtain rfl:=sI h
  exact ia (.inr O) O  (fun W2 V=>⟨O,M,V.take 2⟩)
theorem pl {x:Int} (h:0≤x∧x<16):x=0∨x=1∨x=2∨x=3∨x=4∨x=5∨x=6∨x=7∨x=8∨x=9∨x=10∨x=11∨x=12∨x=13∨x=14∨x=15:=by omega
theorem nA (p0:Int) (res:Int) (h:iy p0=some res) (W:World) :
  Calls Tryz.prog 158 [.int .u64 p0].toArray W fun e W2=>e=.returned (vI res)∧Ext W W2 []:=by
 unfold iy at h
 obtain⟨hg,h⟩:=gOs h
 refine ae (m:=25) Tryz.func158 O O (nB O) ?_
 have h1:decide ((4294967296:Int)≤p0)=false:=decide_eq_false (by omega)
 have h2:decide ((65536:Int)≤p0)=false:=decide_eq_false (by omega)
 have h3:decide ((256:Int)≤p0)=false:=decide_eq_false (by omega)
 refine cS (cR (oY O (yAI O) (oN (eT (cS (cS (cR (oY O (yMI O) (oY O (qf O O) (oN (eT (cF (vB h1) (cK (eT (cS (cS (cR (oY O (yMI O) (oY O (qf O O) (oN (eT (cF (vB h2) (cK (eT (cS (cS (cR (oY O (yMI O) (oY O (qf O O) (oN (eT (cF (vB h3) (cK (eT (cS (cR (oY O (yMI O) (oY O (yMI O) ?_))))))))))))))))))))))))))))))))))))))
 refine oY O (y_convQ (a':=p0) (q':=.u8) ui_175 ui_5 (by rcases pl hg with rfl|rfl|rfl|rfl|rfl|rfl|rfl|rfl|rfl|rfl|rfl|rfl|rfl|rfl|rfl|rfl <;> decide) O) ?_
 refine oY O (y_indexStr (b:=UInt8.ofNat (lenv p0).toNat) us_s9 hg.1 (by rcases pl hg with rfl|rfl|rfl|rfl|rfl|rfl|rfl|rfl|rfl|rfl|rfl|rfl|rfl|rfl|rfl|rfl <;> rfl) O O) ?_
 refine oY O (y_convQ (a':=lenv p0) (q':=.i64) ui_5 pQ (by rcases pl hg with rfl|rfl|rfl|rfl|rfl|rfl|rfl|rfl|rfl|rfl|rfl|rfl|rfl|rfl|rfl|rfl <;> decide) O) ?_
 refine oY O (bc O O) (oY O (yAI O) (oN (eT (ak ?_))))
 obtain rfl:=sI h
 exact am (.inl O) O (rVt (v:=vI (w64 (0+lenv p0))) O) (fun W2 f=>⟨O,f.none⟩)
theorem pT (p0:Int) (res:Int) (h:kk p0=some res) (W:World)  :
  Calls Tryz.prog 128 [.int .u64 p0].toArray W fun e W2=>e=.returned (vI res)∧Ext W W2 []:=by
 unfold kk at h
 refine ae (m:=8) Tryz.func128 O O (nB O) (cS (cR (oY O (yAI O) (oN (eT (cS (cF O (cK (eT (cS (cR (oY O (yMI O) ?_))))))))))))
 obtain⟨o,g,h⟩:=bOs h
 refine oY O (yC [.int .u64 p0] go_158 O (fun W2 f=>nA p0 o g W2 ) O) (oY O (yAI O) (oN (eT (ak ?_))))
 obtain rfl:=sI h
 exact am (.inl O) O (rVt (v:=vI o) O) (fun W2 f=>⟨O,f.none⟩)
theorem kv (p0:(List Int)) (p1:Int) (p2:Int) (p3:Int) (res:(List Int)) (h:cZ p0 p1 p2 p3=some res) (W:World) (M:World) (R:Res) (Aa:Option Addr) (f ca:Nat) (r:f=p0.length) (hW:Ext M W [R,aO Aa ca 3 1 f (encL cI p0)]) :
  Calls Tryz.prog 127 [.slice Aa f ca,vI p1,vI p2,vI p3].toArray W fun e W2=>e=.returned (.tuple #[])∧f=res.length∧Ext M W2 [R,aO Aa ca 3 1 f (encL cI res)]:=by
 subst r
 unfold cZ at h
 refine ff (m:=134) Tryz.func127 O O (nB O) hW (cS (cR (oY O (yAB O) (oN (eT (cS (cR (oY O (yAB O) (oN (eT (cB ?_)))))))))))
 obtain⟨N,F,h⟩:=bOs h
 refine rX (fun(s:(Int × Int × Int × Bool × Bool × (List Int))) L tm=>∃(u:Nat→Value),p0.length=s.2.2.2.2.2.length∧L=[R,aO Aa ca 3 1 p0.length (encL cI s.2.2.2.2.2)]∧tm=(upd (upd (upd (upd (upd (upd u 0 (.slice Aa p0.length ca)) 1 (vI s.1)) 2 (vI s.2.1)) 3 (vI s.2.2.1)) 8 (.bool s.2.2.2.1)) 9 (.bool s.2.2.2.2.1))) (fun s e L tm=>e=.ret∧∃(u:Nat→Value),p0.length=s.2.2.2.2.2.length∧L=[R,aO Aa ca 3 1 p0.length (encL cI s.2.2.2.2.2)]∧tm=(upd (upd (upd (upd (upd (upd u 0 (.slice Aa p0.length ca)) 1 (vI s.1)) 2 (vI s.2.1)) 3 (vI s.2.2.1)) 8 (.bool s.2.2.2.1)) 9 (.bool s.2.2.2.2.1))) F ⟨_,O,O,(kp4 (kp (kp O)))⟩ ?_ ?_
 ·rintro w L tm st ⟨D,g,rfl,rfl⟩ h
  unfold cC at h
  refine cB (cS (cR (oY O (yMI O) (oY O (yMI O) (oY O (nq O O) (oY O (yAI O) (oN (eT (cS (cS (cR (oY O (yMI O) (oY O (pO O O) (oN (eT ?_)))))))))))))))
  obtain⟨G,h⟩:=gOs h
  refine cT (vB G) (cS (cR (oY O (yMS O) (oY O (yMI O) (oY O (yMI O) ?_)))))
  obtain⟨H,I,h⟩:=bOs h
  refine jG 1 [.slice Aa p0.length ca,vI w.1,vI w.2.1] (fun(_:Unit)=>p0.length=H.length) (fun _=>.tuple #[]) (fun _=>aO Aa ca 3 1 p0.length (encL cI H)) (fun _=>[]) O O go_148 O (fun W2 d=>(io w.2.2.2.2.2 w.1 w.2.1 H I W2 _ (mw [R,aO Aa ca 3 1 p0.length (encL cI w.2.2.2.2.2)] [1]) Aa p0.length ca (g) d).mono (fun e W3 h3=>⟨(),h3.2.1,h3.1,h3.2.2⟩)) ?_
  rintro-K
  try dsimp only[lsz,lss,List.append_nil]
  refine oN (eT (ak (ab (ai ?_))))
  obtain rfl:=sI h
  exact ay ⟨O,_,K,O,(kp4 (kp (kp O)))⟩
 ·intro e L tm hJ
  obtain⟨rfl,E,o,rfl,rfl⟩:=hJ
  refine⟨(by intro hc;cases hc),?_⟩
  refine ai ?_
  obtain rfl:=sI h
  exact ia (.inl O) O  (fun W2 d=>⟨O,o,d.take 2⟩)
theorem insO_l2 {n:Nat} {data0:List Int} (h0:data0.length=n) (hn:n<1000000) (x:Int) :
  ∀(k:Nat) (f T:List Int),f.length=k→f.length+1+T.length=n→∃B1 B2:List Int,f=B1++B2∧aL (aV data0 0) ((f.length:Int),f++x::T)=some ((B1.length:Int),B1++x::(B2++T))∧(∀y∈B2,x<y)∧(∀y,B1.getLast? = some y→¬x<y):=by
 intro k
 induction k with
 | zero =>
  intro f T hk hl
  have:f=[]:=List.eq_nil_of_length_eq_zero hk
  subst this
  refine⟨[],[],O,?_,by simp,by simp⟩
  refine ci ?_
  unfold aV;dsimp only
  rfl
 | succ k ih =>
  intro f T hk hl
  obtain⟨A,y,rfl⟩:∃A y,f=A++[y]:=⟨f.dropLast,f.getLast (by intro h;rw[h]at hk;cases hk),(List.dropLast_concat_getLast _).symm⟩
  have hA:A.length=k:=by simpa using hk
  simp only[List.length_append,List.length_cons,List.length_nil]at hl
  have e1:A++[y]++x::T=A++y::x::T:=by simp
  have hi:(((A++[y]).length:Nat):Int)=(A.length:Int)+1:=by simp
  have hj1:w64 ((((A++[y]).length:Nat):Int)-1)=(A.length:Int):=by rw[iZ (by simp only[List.length_append,List.length_cons,List.length_nil];omega) (by simp only[List.length_append,List.length_cons,List.length_nil];omega)];simp
  have r1:rdL (A++[y]++x::T) (((A++[y]).length:Nat):Int)=x:=pU _ _ _ _ O
  have r2:rdL (A++[y]++x::T) (A.length:Int)=y:=by rw[e1];exact pU _ _ _ _ O
  have g1:(0:Int)≤(((A++[y]).length:Nat):Int)∧(((A++[y]).length:Nat):Int)<(data0.length:Int):=by rw[h0];simp only[List.length_append,List.length_cons,List.length_nil];omega
  have g2:(0:Int)≤(A.length:Int)∧(A.length:Int)<(data0.length:Int):=by rw[h0];omega
  have hd:decide ((0:Int)<(((A++[y]).length:Nat):Int))=true:=decide_eq_true (by rw[hi];omega)
  have hless:jP x y=some (decide (x<y)):=by
   unfold jP c5
   simp
  have step:aV data0 0 ((((A++[y]).length:Nat):Int),A++[y]++x::T)=if x<y then some (.inl ((A.length:Int),A++x::([y]++T)))else some (.inr ((((A++[y]).length:Nat):Int),A++[y]++x::T)):=by
   unfold aV;dsimp only
   simp only[hj1,r1,r2,hd,if_true,gPo g1,gPo g2,hless,Option.bind_some,decide_eq_true_eq]
   by_cases hlt:x<y
   ·rw[if_pos hlt,if_pos hlt]
    refine congrArg some (congrArg Sum.inl (Prod.ext O ?_))
    show((A++[y]++x::T).set (Int.toNat (((A++[y]).length:Nat):Int)) y).set (Int.toNat (A.length:Int)) x=_
    rw[Int.toNat_natCast,Int.toNat_natCast,nW (A++[y]) x y T _ O]
    have e3:A++[y]++y::T=A++y::(y::T):=by simp
    rw[e3,nW A y x (y::T) _ O]
    simp
   ·rw[if_neg hlt,if_neg hlt]
  by_cases hlt:x<y
  ·rw[if_pos hlt]at step
   obtain⟨B1,B2,hB,hr,h2,h3⟩:=ih A ([y]++T) hA (by simp;omega)
   refine⟨B1,B2++[y],by rw[hB,List.append_assoc],?_,?_,h3⟩
   ·rw[g7 step,hr]
    simp
   ·intro z hz
    rcases List.mem_append.1 hz with hz|hz
    ·exact h2 z hz
    ·rw[List.mem_singleton.1 hz];exact hlt
  ·rw[if_neg hlt]at step
   refine⟨A++[y],[],by simp,?_,by simp,?_⟩
   ·rw[ci step];simp
   ·intro z hz
    simp at hz
    rw[←hz]
    exact hlt
theorem insO_all {l:List Int} (hl:l.length<1000000):bt l 0 (l.length:Int)=some (srtI l):=by
 unfold bt
 have e1:w64 (0+1)=1:=rfl
 rw[e1]
 have main:∀(R A:List Int),(A++R).Perm l→g5 A→∃s,aL (aE l 0 (l.length:Int)) ((A.length:Int),A++R)=some ((l.length:Int),s)∧s.Perm l∧g5 s:=by
  intro R
  induction R with
  | nil =>
   intro A hp hs
   have hlen:A.length=l.length:=by have:=hp.length_eq;simpa using this
   refine⟨A,?_,by simpa using hp,hs⟩
   rw[List.append_nil,hlen]
   refine ci ?_
   unfold aE;dsimp only
   rw[show decide ((l.length:Int)<(l.length:Int))=false from decide_eq_false (by omega)]
   rfl
  | cons x T ih =>
   intro A hp hs
   have hlen:A.length+(T.length+1)=l.length:=by have:=hp.length_eq;simpa using this
   obtain⟨B1,B2,hB,hr,h2,h3⟩:=insO_l2 (data0:=l) O hl x A.length A T O (by omega)
   have hstep:aE l 0 (l.length:Int) ((A.length:Int),A++x::T)=some (.inl (((B1++x::B2).length:Int),(B1++x::B2)++T)):=by
    unfold aE;dsimp only
    rw[show decide ((A.length:Int)<(l.length:Int))=true from decide_eq_true (by omega)]
    rw[if_pos O,hr,Option.bind_some]
    have hw:w64 ((A.length:Int)+1)=(A.length:Int)+1:=iZ (by omega) (by omega)
    simp only[hw]
    refine congrArg some (congrArg Sum.inl (Prod.ext ?_ ?_))
    ·simp[hB];omega
    ·simp
   have hs':g5 (B1++x::B2):=by
    unfold g5 at hs ⊢
    rw[hB,List.pairwise_append]at hs
    obtain⟨f,g,o⟩:=hs
    have hle:∀y∈B1,y≤x:=by
     intro y hy
     rcases List.eq_nil_or_concat B1 with rfl|⟨B,z,rfl⟩
     ·cases hy
     ·have hz:=h3 z (by simp)
      rw[List.concat_eq_append]at hy f
      rcases List.mem_append.1 hy with hy|hy
      ·rw[List.pairwise_append]at f
       have:=f.2.2 y hy z (by simp);omega
      ·rw[List.mem_singleton.1 hy];omega
    rw[List.pairwise_append]
    refine⟨f,List.pairwise_cons.2 ⟨fun y hy=>by have:=h2 y hy;omega,g⟩,fun a ha b hb=>?_⟩
    rcases List.mem_cons.1 hb with rfl|hb
    ·exact hle a ha
    ·exact o a ha b hb
   have hp':((B1++x::B2)++T).Perm l:=by
    refine List.Perm.trans ?_ hp
    rw[hB]
    simp only[List.append_assoc,lca]
    exact List.Perm.append_left B1 (List.perm_middle).symm
   obtain⟨s,h4,h5,h6⟩:=ih (B1++x::B2) hp' hs'
   exact⟨s,by rw[g7 hstep];exact h4,h5,h6⟩
 rcases l with _|⟨x,T⟩
 ·have:aL (aE [] 0 (([]:List Int).length:Int)) (1,[])=some (1,[]):=by
   refine ci ?_
   unfold aE
   rfl
  rw[this]
  rfl
 ·obtain⟨s,h1,h2,h3⟩:=main T [x] (by simp) (by simp[g5])
  have h1':aL (aE (x::T) 0 ((x::T).length:Int)) (1,x::T)=some (((x::T).length:Int),s):=h1
  rw[h1',Option.bind_some,srtI_eq h2 h3]
theorem pdqO_all {l:List Int} (hl:l.length≤12) (v:Int):cZ l 0 (l.length:Int) v=some (srtI l):=by
 unfold cZ
 have hstep:cC (0,(l.length:Int),v,true,true,l)=some (.inr (0,(l.length:Int),v,true,true,srtI l)):=by
  unfold cC;dsimp only
  have hw:w64 ((l.length:Int)-0)=(l.length:Int):=by rw[iZ (by omega) (by omega)];omega
  rw[hw,gPo (decide_eq_true (by omega)),insO_all (by omega)]
  rfl
 rw[ci hstep]
 rfl
theorem fX (p0:(List Int)) (res:(List Int)) (h:bP p0=some res) (W:World) (E:World) (R:Res) (Aa:Option Addr) (f ca:Nat) (o:f=p0.length) (hW:Ext E W [R,aO Aa ca 3 1 f (encL cI p0)]) :
  Calls Tryz.prog 78 [.slice Aa f ca].toArray W fun e W2=>e=.returned (.tuple #[])∧f=res.length∧Ext E W2 [R,aO Aa ca 3 1 f (encL cI res)]:=by
 subst o
 unfold bP at h
 obtain⟨u,h⟩:=gOs h
 obtain rfl:=sI h
 have hlen:p0.length=(srtI p0).length:=(srtI_len p0).symm
 refine ff (m:=11) Tryz.func78 O O (nB O) hW (cS (cR (oY O (yMS O) (oY O (bd (us:=[]) c6 O) (oY O (yAI O) (oN (eT (cR (oY O (yMS O) (oY O (yMI O) (oY O (yMI O) ?_)))))))))))
 have d:(0:Int)≤(p0.length:Int)∧(p0.length:Int)≤9223372036854775807:=by omega
 refine oY O (y_convertU pQ ui_151 d O) ?_
 obtain⟨r,w⟩:∃r,kk (p0.length:Int)=some r:=by
  unfold kk iy
  rw[gPo (by omega)]
  exact⟨_,O⟩
 refine oY O (yC [.int .u64 (p0.length:Int)] go_128 O (fun W2 g=>pT (p0.length:Int) r w W2 ) O) ?_
 have D:=pdqO_all u r
 refine jG 1 [.slice Aa p0.length ca,vI 0,vI (p0.length:Int),vI r] (fun(_:Unit)=>p0.length=(srtI p0).length) (fun _=>.tuple #[]) (fun _=>aO Aa ca 3 1 p0.length (encL cI (srtI p0))) (fun _=>[]) O O go_127 O (fun W2 g=>(kv p0 0 (p0.length:Int) r (srtI p0) D W2 _ (mw [R,aO Aa ca 3 1 p0.length (encL cI p0)] [1]) Aa p0.length ca O g).mono (fun e W3 h3=>⟨(),h3.2.1,h3.1,h3.2.2⟩)) ?_
 rintro-F
 try dsimp only[lsz,lss,List.append_nil]
 refine oN ?_
 exact ia (.inr O) O  (fun W2 g=>⟨O,hlen,g.take 2⟩)
theorem d8 (p0:(List (Int × Bool))) (res:(List Int)) (h:bo p0=some res) (W:World) (f:Nat) (hm0_0:(mapV Tryz.prog 3 kI dx kB false f p0).holds W) :
  Calls Tryz.prog 96 [.map (some f)].toArray W fun e W2=>∃x:Option Addr × Nat × Nat,x.2.1=res.length∧e=.returned (.slice x.1 x.2.1 x.2.2)∧Ext W W2 [aO x.1 x.2.2 3 1 x.2.1 (encL cI res)]:=by
 unfold bo at h
 obtain⟨⟨F,d,w⟩,h⟩:=gOs h
 obtain rfl:=sI h
 have o:f<W.heap.size:=(mapV Tryz.prog 3 kI dx kB false f p0).inb W hm0_0 f O
 have hfin:∀s:Nat × (Int→Bool) × List Int,CollI dx p0 s→(∀y,dx y=true→s.2.1 y=false)→bP s.2.2=some (ir p0)∧s.2.2.length=(ir p0).length:=fun s hI hno=>by
  have hm:∀q,q∈s.2.2↔q∈ir p0:=fun q=>by
   rw[hI.val q,(er p0).2 q]
   refine⟨fun h=>h.2.2.2,fun h=>?_⟩
   have h1:bH p0 q=true:=by
    cases hh:bH p0 q with
    | true=>rfl
    | false=>rw[nM hh]at h;cases h
   have h2:dx q=true:=by
    obtain⟨p,hp,rfl⟩:=List.mem_map.1 (oI.1 h1)
    exact List.all_eq_true.1 w p hp
   exact⟨h2,h1,hno q h2,h⟩
  have hp:=s9 hI.nd (er p0).1.nodup hm
  refine⟨?_,hp.length_eq⟩
  unfold bP
  rw[gPo (by rw[hp.length_eq];exact d),srtI_eq hp.symm (er p0).1.sorted]
 refine ae (m:=21) Tryz.func96 O O (nB O) (cS (cR (oY O (yAS O) (oN (eT (cS (cR (oY O (yAS O) (oN (eT (cS (cS (cR (oY O (bm O) (ox_rangeA hm0_0 mR ku O O (fun it k hk=>(oN (eT (cB (cN 3 1 (n7 (fun(s:Nat × (Int→Bool) × List Int) L tm=>CollI dx p0 s∧∃(A:Option Addr) (c:Nat) (r:Nat→Value),L=[rngA W Tryz.prog 3 kI dx kB false f it p0 s.2.1 s.1 none,aO A c 3 1 s.2.2.length (encL cI s.2.2)]∧tm=(upd (upd r 7 (.pointer (some ⟨it,0,none⟩))) 3 (.slice A s.2.2.length c))) (fun s=>s.1) (k,(fun y=>bH p0 y),[]) ⟨CollI.start hk,none,0,_,O,keep (kp O) O⟩ ?_)))))))))))))))))))))
 rintro s L tm ⟨hI,A,c,r,rfl,rfl⟩
 refine cS (cR ?_)
 refine ox_nextA 0 o O mR O O (fun hno=>?_) (fun y k' hy hly hM hk'=>?_)
 ·refine oY O (yE O O) (oN (eT (cS (cF O (aK (ah ?_))))))
  refine pk (by intro h;cases h) ?_
  refine ag (eT (cS (cR (oY O (yMS O) ?_))))
  obtain⟨hS,hl⟩:=hfin s hI hno
  refine jG 1 [.slice A s.2.2.length c] (fun(_:Unit)=>s.2.2.length=(ir p0).length) (fun _=>.tuple #[]) (fun _=>aO A c 3 1 s.2.2.length (encL cI (ir p0))) (fun _=>[]) O O go_78 O (fun W2 g=>(fX s.2.2 (ir p0) hS W2 _ (mw [rngA W Tryz.prog 3 kI dx kB false f it p0 s.2.1 s.1 none,aO A c 3 1 s.2.2.length (encL cI s.2.2)] [1]) A s.2.2.length c O g).mono (fun e W3 h3=>⟨(),h3.2.1,h3.1,h3.2.2⟩)) ?_
  rintro-u
  try dsimp only[lsz,lss,List.append_nil]
  refine oN (eT (cS (cR (oY O (yMS O) (oY O (yAS O) (oN (eT (ak ?_))))))))
  exact am (.inl O) O (rVt (v:=.slice A s.2.2.length c) O) (fun W2 g=>⟨(A,s.2.2.length,c),u,O,(g.pick 1 O)⟩)
 ·refine oY O (yE O O) (oN (eT (cS (cT O (cK (eT (cB (cS (cR (oY O (y_entryA 0 o O O) (oY O (yE O O) (oY O (yE O O) (oY O (yAI O) (oY O (yAB O) (oN (eT (cS (cR (oY O (yMB O) (oN (eT ?_)))))))))))))))))))))
  rcases aB (ax false p0 y)with hp|hp
  ·refine cT (vB hp) (cR (oY O (yMS O) (oY O (yMI O) ?_)))
   refine ap 1 (encL cI [y]) _ ib c6 mf mC (by decide) (by decide) (by kernel_rfl) (eL aG O) O (fun G=>?_)
   have hroom:s.2.2.length+1≤1000000000:=by have:=hI.len;omega
   refine bg 1 c6 mf mC O O O (RdL.row 2 O) (eL aG O) (cg qg _) (cp hroom (by decide)) O (fun D E=>?_)
   refine oY O (yAS O) (oN (aq (aS 2 (qi 0 O ?_))))
   refine l3 (k',(fun q=>s.2.1 q && !decide (q=y)),s.2.2++[y]) ⟨hI.app hy hly hM hk' hp,D,E,_,?_,keep (kp O) ?_⟩ hk'
   ·show[_,_]=[_,_]
    rw[List.length_append]
    rfl
   ·rw[List.length_append]
    rfl
  ·refine cF (vB hp) (cK (aq (qi 0 O ?_)))
   exact l3 (k',(fun q=>s.2.1 q && !decide (q=y)),s.2.2) ⟨hI.keep hk' hp,A,c,_,O,keep (kp O) O⟩ hk'
end Go.Proofs.YtbblpokfbmekfaaGreat
set_option maxHeartbeats 4000000
set_option maxRecDepth 100000
namespace Go.Proofs.YtbblpokfbmekfaaGreat
open Go.RowKit (Below)
attribute [local irreducible] OX QX CX EX OpY Calls CallsIn
theorem qH (p0:TL) (p1:Int) (res:(List (Int × Bool))) (h:jM p0 p1=some res) (W:World) (Aa:Option Addr) (f ca:Nat) (D:f=p0.fNo.length) (g:Rd W Aa f ca (encL TNode_cells p0.fNo)) (Ab:Option Addr) (o cb:Nat) (r:List (Hd × TC)) (E:o=p0.fC.length) (N:Rd W Ab o cb (encL TClaim_cells2 r)) (Q:NestW W (fun z:TC=>z.fO) THop_cells r p0.fC) :
  Calls Tryz.prog 121 [.agg #[.slice Aa f ca,.slice Ab o cb],vI p1].toArray W fun e W2=>∃x:Nat,e=.returned (.map (some x))∧Ext W W2 [mapV Tryz.prog 3 kI dx kB false x res]:=by
 subst D
 subst E
 unfold jM at h
 refine ae (m:=25) Tryz.func121 O O (nB O) (cS (cR ?_))
 refine aP [.slice Aa p0.fNo.length ca,.slice Ab p0.fC.length cb] O O O (fun Y=>?_)
 refine oY O (bC O) (oN (eT (cS (cR ?_))))
 refine jx 3 kI dx kB false O (fun I=>?_)
 refine oY O (bC O) (oN (eT (cS (cS (cR (oY O (yFA aY O) (oY O (yL 0 dK O O O) (oY O (bd (us:=[]) gE O) (oY O (yMI O) (oN (eT (cB ?_))))))))))))
 obtain⟨Z,G,h⟩:=bOs h
 refine bF (fun(s:(Int × (List (Int × Bool)))) L tm=>∃(U:Nat→Value),L=[aj Y 25 [.slice Aa p0.fNo.length ca,.slice Ab p0.fC.length cb],mapV Tryz.prog 3 kI dx kB false I s.2]∧tm=(upd (upd (upd (upd (upd (upd U 1 (vI p1)) 4 (.map none)) 5 (.map (some I))) 10 (.slice Aa p0.fNo.length ca)) 11 (vI (p0.fNo.length:Int))) 12 (vI s.1))) 0 G ⟨_,O,(kp4 (kp (kp O)))⟩ ?_ ?_
 ·rintro w L tm st ⟨K,rfl,rfl⟩ h
  unfold iS at h
  refine cS (cR (oY O (bA O O) (oN (eT (cS ?_)))))
  rcases iOs h with⟨F,h⟩|⟨F,h⟩
  ·refine cT (vB F) (cK (eT (cS (cB (cS (cR ?_))))))
   obtain⟨d,h⟩:=gOs h
   refine oY O (yI jL (by decide) d.1 d.2 (RdL.arg g) (eL ad O) O O) ?_
   refine oY O (yM (A:=Aa) (j:=(Int.toNat w.1*3)) [vI ((rdL p0.fNo w.1).fID),vI ((rdL p0.fNo w.1).fLevel),vI ((rdL p0.fNo w.1).fCost)] mr (Nat.succ_pos _) (RdL.arg g) O (aM ad d.1 (ao d.2 O))) ?_
   refine aC j7 O (fun V=>?_)
   refine cr O (yS 2 [vI ((rdL p0.fNo w.1).fID),vI ((rdL p0.fNo w.1).fLevel),vI ((rdL p0.fNo w.1).fCost)] sz_97 O (nB O) O O O) (oN (eT (cS (cR (oY O (yFA ls O) (oY O (yL 2 bN O O O) (oY O (yMI O) (oY O (ig O O) (oN (eT ?_))))))))))
   rcases iOs h with⟨u,h⟩|⟨u,h⟩
   ·refine cT (vB u) (cR (oY O (bm O) (oY O (yFA gd O) (oY O (yL 2 bN O O O) ?_))))
    obtain⟨H,h⟩:=gOs h
    refine cr O (iR 1 (k:=(rdL p0.fNo w.1).fID) (v:=true) O mR ku O O O H) (oN (aq (eT (cR (oY O (bc O O) (oY O (yMI O) (oN (aS 2 ?_))))))))
    obtain rfl:=sI h
    exact eN ⟨_,O,(kp4 (kp (kp O)))⟩
   ·refine cF (vB u) (cK (aq (eT (cR (oY O (bc O O) (oY O (yMI O) (oN (aS 2 ?_))))))))
    obtain rfl:=sI h
    exact eN ⟨_,O,(kp4 (kp (kp O)))⟩
  ·refine cF (vB F) (aK (ah ?_))
   obtain rfl:=sI h
   exact ay ⟨O,_,O,(kp4 (kp (kp O)))⟩
 ·intro e L tm hJ
  obtain⟨rfl,M,rfl,rfl⟩:=hJ
  refine⟨(by intro hc;cases hc),?_⟩
  refine ag (eT (cS (cR (oY O (bm O) (oY O (bC O) (oN (eT (ak ?_))))))))
  obtain rfl:=sI h
  exact am (.inl O) O (rVt (v:=.map (some I)) O) (fun W2 X=>⟨I,O,(X.pick 1 O)⟩)
theorem pq (p0:TL) (res:(List Int)) (h:gH p0=some res) (W:World) (Aa:Option Addr) (o ca:Nat) (d:o=p0.fNo.length) (w:Rd W Aa o ca (encL TNode_cells p0.fNo)) (Ab:Option Addr) (r cb:Nat) (f:List (Hd × TC)) (D:r=p0.fC.length) (E:Rd W Ab r cb (encL TClaim_cells2 f)) (F:NestW W (fun z:TC=>z.fO) THop_cells f p0.fC) :
  Calls Tryz.prog 63 [.agg #[.slice Aa o ca,.slice Ab r cb]].toArray W fun e W2=>∃x:Option Addr × Nat × Nat,x.2.1=res.length∧e=.returned (.slice x.1 x.2.1 x.2.2)∧Ext W W2 [aO x.1 x.2.2 3 1 x.2.1 (encL cI res)]:=by
 subst d
 subst D
 unfold gH at h
 refine ae (m:=6) Tryz.func63 O O (nB O) (cS (cR ?_))
 refine aP [.slice Aa p0.fNo.length ca,.slice Ab p0.fC.length cb] O O O (fun X=>?_)
 refine oY O (yAS O) (oN (eT (cS (cR (oY O (yN 0 [.slice Aa p0.fNo.length ca,.slice Ab p0.fC.length cb] aF O O O) ?_)))))
 obtain⟨K,H,h⟩:=bOs h
 refine db [.agg #[.slice Aa p0.fNo.length ca,.slice Ab p0.fC.length cb],vI 0] _ _ O go_121 O (fun W2 g=>qH p0 0 K H W2 Aa p0.fNo.length ca O ((RdL.arg w) W2 g) Ab p0.fC.length cb f O ((RdL.arg E) W2 g) (NestL.at (NestL.arg F) W2 g)) ?_
 rintro M
 obtain⟨G,I,h⟩:=bOs h
 refine oC [.map (some M)] _ _ _ O go_96 O (fun W2 g=>d8 K G I W2 M ((MpL.own 1 O) W2 g)) ?_
 rintro⟨N,U,Q⟩ u
 replace u:U=G.length:=u;subst u
 refine oY O (yAS O) (oN (eT (ak ?_)))
 obtain rfl:=sI h
 exact am (.inl O) O (rVt (v:=.slice N G.length Q) O) (fun W2 g=>⟨(N,G.length,Q),O,O,(g.pick 2 O)⟩)
theorem mD (l:TL) (i:Nat) (hi:i<l.fC.length):(sKs l).getD i 0=(rdL l.fC (i:Int)).fO.length:=by
 unfold sKs rdL
 rw[Int.toNat_natCast,List.getD_eq_getElem?_getD,List.getD_eq_getElem?_getD,List.getElem?_map,List.getElem?_eq_getElem hi]
 rfl
theorem rZ (l:TL) (hok:cq l) (x:List Int) (hx:x∈sCs l):∀j:Nat,j≤x.length→MaxC (sKs l) x j →
  ∃j':Nat,j'≤j∧aL (fa l) ((j:Int)-1,zC x j)=some ((j':Int)-1,zC x j')∧MaxC (sKs l) x j'∧(0<j'→x.getD (j'-1) 0+1≠(((sKs l).getD (j'-1) 0:Nat):Int)):=by
 obtain⟨hxl,hxb⟩:=nQ _ _ hx
 have hkl:(sKs l).length=l.fC.length:=by simp[sKs]
 intro j
 induction j with
 | zero =>
  intro _ hm
  refine⟨0,Nat.le_refl _,?_,hm,fun h=>by omega⟩
  refine ci ?_
  unfold fa
  rfl
 | succ j ih =>
  intro hj hm
  have hjn:j<l.fC.length:=by omega
  have hget:rdL (zC x (j+1)) (j:Int)=x.getD j 0:=by rw[zC_get (by omega),mY]
  have hb:=hxb j (by omega)
  have hkb:(sKs l).getD j 0≤1000:=by
   rw[mD l j hjn]
   exact(hok.2 _ (pr (by omega) (by omega))).2
  have hw:w64 (x.getD j 0+1)=x.getD j 0+1:=iZ (by omega) (by omega)
  have hbody:fa l (((j+1:Nat):Int)-1,zC x (j+1))=if(x.getD j 0+1==(((sKs l).getD j 0:Nat):Int))=true then some (.inl ((j:Int)-1,zC x j))else some (.inr ((j:Int),zC x (j+1))):=by
   unfold fa
   have e:(((j+1:Nat):Int)-1)=(j:Int):=by omega
   simp only[e]
   rw[hget,hw,←mD l j hjn]
   simp only[show decide (0≤(j:Int))=true from decide_eq_true (by omega),if_true]
   rw[gPo ⟨by omega,by omega⟩,gPo ⟨by omega,by omega⟩]
   rw[Int.toNat_natCast,zC_set0 (by omega),iZ (x:=(j:Int)-1) (by have:=hok.1;omega) (by have:=hok.1;omega),Option.bind_some,gPo ⟨by omega,by omega⟩]
  by_cases hc:x.getD j 0+1=(((sKs l).getD j 0:Nat):Int)
  ·have hm':MaxC (sKs l) x j:=fun q hq hql=>by
    rcases Nat.eq_or_lt_of_le hq with e|e
    ·rw[←e];exact hc
    ·exact hm q e hql
   obtain⟨j',h1,h2,h3,h4⟩:=ih (by omega) hm'
   refine⟨j',by omega,?_,h3,h4⟩
   rw[g7 (s':=((j:Int)-1,zC x j)) (by rw[hbody,if_pos (by simpa using hc)])]
   exact h2
  ·refine⟨j+1,Nat.le_refl _,?_,hm,fun _=>by simpa using hc⟩
   rw[show((j+1:Nat):Int)-1=(j:Int) by omega]
   refine ci ?_
   rw[←show((j+1:Nat):Int)-1=(j:Int) by omega,hbody,if_neg (by simpa using hc)]
   rw[show((j+1:Nat):Int)-1=(j:Int) by omega]
theorem en (f:TL) (hok:cq f) (w:Nat) (H:Option Addr) (I M:Nat) (r:Option Addr) (F d:Nat) (X:F=f.fC.length) (o:List (Hd × TC)) (hP:NestP (fun z:TC=>z.fO) o f.fC) :
  SeqC Tryz.prog 130 [.pointer (some ⟨w,0,none⟩)] 3 (fun W=>Rd W (some ⟨w,0,none⟩) 1 1 [.slice H I M,.slice r F d]∧Rd W r F d (encL TClaim_cells2 o)) (sCs f):=by
 intro c l K Kx W L0 hH hy h0 a
 subst X
 have hkl:(sKs f).length=f.fC.length:=by simp[sKs]
 have hodo:=allC_odo (sKs f) (fun k hk=>by
  obtain⟨x,hx,rfl⟩:=List.mem_map.1 hk
  exact(hok.2 x hx).1)
 have hlen:∀{i:Nat} {x:List Int},(sCs f)[i]? = some x→x.length=f.fC.length:=fun {i x} h=>by
  rw[(nQ _ _ (List.mem_of_getElem? h)).1,hkl]
 refine q7 (vs:=[.func (.yield l) #[] #[],.pointer (some ⟨w,0,none⟩)]) (m:=46) Tryz.func130 O O (nB O) a ?_
 have hcapL:∀{i:Nat} {L1:List Res} {p:Res},K i L1→RdL c (p::L1) (some ⟨w,0,none⟩) 1 1 [.slice H I M,.slice r f.fC.length d]:=fun {i L1 p} hK W hW=>by
  have h3:=hW.torr'
  exact(hH i L1 W hK h3).1
 have hrdL:∀{i:Nat} {L1:List Res} {p:Res},K i L1→RdL c (p::L1) r f.fC.length d (encL TClaim_cells2 o):=fun {i L1 p} hK W hW=>by
  have h3:=hW.torr'
  exact(hH i L1 W hK h3).2
 refine cS (cR (oY O (yFR (A:=(some ⟨w,0,none⟩)) (j:=0) aD O) (oY O (yR (A:=(some ⟨w,0,none⟩)) (j:=(0+1)) (v:=.slice r f.fC.length d) bT (fun W hW=>(hH 0 L0 W h0 hW).1) O O) (oY O (bd (us:=[]) dQ O) ?_))))
 have f0:=hok.1
 refine ox_make (encL cI (List.replicate (Int.toNat (f.fC.length:Int)) 0)) c6 mf mC (by omega) (by omega) O (made_enc _ _ _ O O) O (fun U=>?_)
 refine oY O (yAS O) (oN (eT (cB ?_)))
 rw[Int.toNat_natCast]
 refine cx_perm (L':=aO (some ⟨U,0,none⟩) f.fC.length 3 1 f.fC.length (encL cI (List.replicate f.fC.length 0))::L0) (fun W hW=>hW.torr) ?_
 refine n7 (fun(s:Nat) L tm=>∃(x:List Int) (L':List Res) (G:Nat→Value),(sCs f)[s]? = some x∧K s L'∧L=aO (some ⟨U,0,none⟩) f.fC.length 3 1 x.length (encL cI x)::L'∧tm=(upd (upd (upd G 0 (.func (.yield l) #[] #[])) 1 (slA (some ⟨w,0,none⟩) 0)) 3 (.slice (some ⟨U,0,none⟩) x.length f.fC.length)))
  (fun s=>(sCs f).length-s) 0 ⟨List.replicate f.fC.length 0,L0,_,by rw[sCs,hodo.first,hkl],h0,by rw[List.length_replicate],keep (kp (kp O)) (by rw[List.length_replicate];rfl)⟩ ?_
 rintro s L tm ⟨x,L',G,hx,hK,rfl,rfl⟩
 have hxl:=hlen hx
 have hxm:x∈sCs f:=List.mem_of_getElem? hx
 have hsl:s<(sCs f).length:=(List.getElem?_eq_some_iff.1 hx).1
 refine cB (cS (cS (cR (oY O (iO (v:=.func (.yield l) #[] #[]) O) (oY O (yMS O) ?_)))))
 refine ox_yieldE (p:=aO (some ⟨U,0,none⟩) f.fC.length 3 1 x.length (encL cI x)) [.slice (some ⟨U,0,none⟩) x.length f.fC.length] (K (s+1)) Kx O O O (fun W hW=>hy s x _ _ L' W hx hK hW) (fun L2 hK2=>?_) (fun L2 hK2=>?_)
 rotate_left
 ·refine oY O (fe O) (oN (eT (cT O (ak (ab (ai ?_))))))
  refine pk (by intro h;cases h) ?_
  refine ai ?_
  exact ia (.inl O) O (fun W2 V=>⟨⟨_,O⟩,.inr ⟨L2,hK2,V⟩⟩)
 ·refine oY O (fe O) (oN (eT (cF O (cK (eT (cS (cR (oY O (yMS O) (oY O (bd (us:=[]) c6 O) (oY O (nq O O) (oY O (yAI O) (oN (eT (cS (cB ?_)))))))))))))))
  obtain⟨j',hj',Z,hmx,hne⟩:=rZ f hok x hxm x.length (Nat.le_refl _) (fun q h1 h2=>by omega)
  rw[zC_full]at Z
  have y:w64 ((x.length:Int)-1)=(x.length:Int)-1:=iZ (by omega) (by omega)
  rw[y]
  refine rX (fun(s:(Int × (List Int))) L tm=>∃(G:Nat→Value),f.fC.length=s.2.length∧L=aO (some ⟨U,0,none⟩) f.fC.length 3 1 f.fC.length (encL cI s.2)::L2∧tm=(upd (upd (upd (upd G 0 (.func (.yield l) #[] #[])) 1 (slA (some ⟨w,0,none⟩) 0)) 3 (.slice (some ⟨U,0,none⟩) f.fC.length f.fC.length)) 4 (vI s.1)))
   (fun s e L tm=>e=.exit 2∧∃(G:Nat→Value),f.fC.length=s.2.length∧L=aO (some ⟨U,0,none⟩) f.fC.length 3 1 f.fC.length (encL cI s.2)::L2∧tm=(upd (upd (upd (upd G 0 (.func (.yield l) #[] #[])) 1 (slA (some ⟨w,0,none⟩) 0)) 3 (.slice (some ⟨U,0,none⟩) f.fC.length f.fC.length)) 4 (vI s.1))) Z ⟨_,hxl.symm,by rw[hxl],(keep (keep (keep (keep O O) O) (by rw[←hxl];rfl)) O)⟩ ?_ ?_
  ·rintro D L tm st ⟨T,u,rfl,rfl⟩ h
   unfold fa at h
   refine cS (cS ?_)
   refine aU 17 cD (by kernel_rfl) (by kernel_rfl) ?_
   refine qY O (yMI O) (qY O (qf O O) (qY O (yMB O) ?_))
   obtain⟨b,S,h⟩:=bOs h
   refine qJ 14 (fun G=>(upd (upd (upd (upd (upd G 0 (.func (.yield l) #[] #[])) 1 (slA (some ⟨w,0,none⟩) 0)) 3 (.slice (some ⟨U,0,none⟩) f.fC.length f.fC.length)) 4 (vI D.1)) 32 (.bool b))) (fun G=>?_) (fun key=>?_)
   ·refine ck (oN (eT ?_))
    rcases iOs h with⟨Y,h⟩|⟨Y,h⟩
    ·refine cT (vB Y) (cK (eT (cB (cS (cR (oY O (yMS O) (oY O (yMI O) ?_)))))))
     obtain⟨N,h⟩:=gOs h
     refine oY O (yI gM (by decide) N.1 N.2 (RdL.row 0 O) (eL aG u) O O) ?_
     refine cr O (ky 0 (xs:=D.2) aG 0 sz_3 O N.1 (ao N.2 u) O O O O) (oN (eT (cR (oY O (yMI O) (oY O (nq O O) (oY O (yAI O) (oN (aq ?_))))))))
     obtain rfl:=sI h
     exact eN ⟨_,(lL u),O,(kp4 O)⟩
    ·refine cF (vB Y) (aK (ah ?_))
     obtain rfl:=sI h
     exact ay ⟨O,_,u,O,(kp4 O)⟩
   ·clear h;rcases iOs S with⟨g,h⟩|⟨g,h⟩
    ·refine qY (sT O O O O g) (yMS O) (qY (sT O O O O g) (yMI O) ?_)
     obtain⟨Q,h⟩:=gOs h
     refine qY (sT O O O O g) (yI gM (by decide) Q.1 Q.2 (RdL.row 0 O) (eL aG u) O O) ?_
     refine qY (sT O O O O g) (yR (A:=(some ⟨U,0,none⟩)) (j:=(Int.toNat D.1*1)) (v:=vI (rdL D.2 D.1)) bN (RdL.row 0 O) O (bB aG Q.1 (ao Q.2 u) O)) (qY (sT O O O O g) (bc O O) (qY (sT O O O O g) (yFR (A:=(some ⟨w,0,none⟩)) (j:=0) aD O) (qY (sT O O O O g) (yR (A:=(some ⟨w,0,none⟩)) (j:=(0+1)) (v:=.slice r f.fC.length d) bT (hcapL hK2) O O) (qY (sT O O O O g) (yMI O) ?_))))
     obtain⟨E,h⟩:=gOs h
     refine qY (sT O O O O g) (yI dY (by decide) E.1 E.2 (hrdL hK2) (eL aa (NestP.hn hP O)) O O) ?_
     refine qY (sT O O O O g) (yFR (A:=r) (j:=(Int.toNat D.1*2)) bQ O) (qY (sT O O O O g) (yR (A:=r) (j:=((Int.toNat D.1*2)+1)) (v:=.slice ((rdL o D.1).1.1) ((rdL f.fC D.1).fO.length) ((rdL o D.1).1.2.2)) gL (hrdL hK2) O (eG aa E.1 (ao E.2 (NestP.hn hP O)) (congrArg (fun n:Nat=>some (Value.slice (rdL o D.1).1.1 n (rdL o D.1).1.2.2)) (NestP.len hP E.1 (ao E.2 O))))) (qY (sT O O O O g) (bd (us:=[]) fZ O) (qY (sT O O O O g) (ig O O) (qY O (aw (vB g) O) ?_))))
     obtain rfl:=sI h
     exact key _ _ (kp4 (kp O))
    ·refine ar (sF O O O O g) (ar (sF O O O O g) (ar (sF O O O O g) (ar (sF O O O O g) (ar (sF O O O O g) (ar (sF O O O O g) (ar (sF O O O O g) (ar (sF O O O O g) (ar (sF O O O O g) (ar (sF O O O O g) (ar (sF O O O O g) (ar (sF O O O O g) (ar (sF O O O O g) (qY O (av (vB g) O) ?_)))))))))))))
     obtain rfl:=sI h
     exact key _ _ (kp4 (kp O))
  ·intro e L tm hJ
   obtain⟨rfl,R,t,rfl,rfl⟩:=hJ
   refine⟨(by intro hc;cases hc),?_⟩
   refine ag (eT (cS (cS (cR (oY O (yMI O) (oY O (bA O O) (oN (eT ?_))))))))
   rcases Nat.eq_zero_or_pos j' with hj0|hj0
   ·subst hj0
    refine cT (vB (decide_eq_true (by omega))) ?_
    refine ak (ab (ai ?_))
    refine pk (by intro h;cases h) ?_
    refine ai ?_
    have hnx:=hodo.step s x hx
    rw[oL _ _ (by rw[hxl,hkl]) hmx]at hnx
    have hge:=List.getElem?_eq_none_iff.1 hnx
    have he:s+1=(sCs f).length:=by
     have:(sCs f).length≤s+1:=hge
     omega
    refine ex_perm (L':=L2) (fun W hW=>hW.tail) ?_
    exact ia (.inl O) O (fun W2 V=>⟨⟨_,O⟩,.inl ⟨L2,he▸hK2,V⟩⟩)
   ·obtain⟨i,rfl⟩:∃i,j'=i+1:=⟨j'-1,by omega⟩
    have hix:i<x.length:=by omega
    have hb:=(nQ _ _ hxm).2 i (by rw[hkl,←hxl];exact hix)
    have hkb:(sKs f).getD i 0≤1000:=by
     rw[mD f i (by omega)]
     exact(hok.2 _ (pr (by omega) (by omega))).2
    have hzl:(zC x (i+1)).length=x.length:=zC_len (by omega)
    have ei:((i+1:Nat):Int)-1=(i:Int):=by omega
    dsimp only
    rw[ei]
    have h1:(0:Int)≤(i:Int):=by omega
    have h2:(i:Int)<(f.fC.length:Int):=by omega
    have hnz:f.fC.length=(zC x (i+1)).length:=by rw[hzl,hxl]
    refine cF (vB (decide_eq_false (by omega))) ?_
    refine cK (eT (cR (oY O (yMS O) (oY O (yMI O) ?_))))
    refine oY O (yI gM (by decide) h1 h2 (RdL.row 0 O) (eL aG hnz) O O) ?_
    refine oY O (yR (A:=(some ⟨U,0,none⟩)) (j:=(Int.toNat (i:Int)*1)) (v:=vI (rdL (zC x (i+1)) (i:Int))) bN (RdL.row 0 O) O (bB aG h1 (ao h2 hnz) O)) (oY O (bc O O) ?_)
    refine oY O (yI gM (by decide) h1 h2 (RdL.row 0 O) (eL aG hnz) O O) ?_
    refine cr O (ky 0 (xs:=zC x (i+1)) aG (w64 (rdL (zC x (i+1)) (i:Int)+1)) sz_3 O h1 (ao h2 hnz) O O O O) (oN (aq ?_))
    have hv:w64 (rdL (zC x (i+1)) (i:Int)+1)=x.getD i 0+1:=by
     rw[zC_get hix,mY]
     exact iZ (by omega) (by omega)
    have hnx:=hodo.step s x hx
    rw[rh _ _ i (by rw[hxl,hkl]) hix hmx (by simpa using hne (by omega)),←zC_set hix]at hnx
    have hnl:((zC x (i+1)).set i (x.getD i 0+1)).length=f.fC.length:=by rw[List.length_set,hzl,hxl]
    have hsl2:s+1<(sCs f).length:=(List.getElem?_eq_some_iff.1 hnx).1
    refine l3 (s+1) ⟨(zC x (i+1)).set i (x.getD i 0+1),L2,_,hnx,hK2,?_,(keep (keep (keep O O) O) (by rw[hnl];rfl))⟩ (by omega)
    rw[hv,Int.toNat_natCast,hnl]
    rfl
theorem gg (p0:TL) (res:Unit) (h:dj p0=some res) (W:World) (Aa:Option Addr) (f ca:Nat) (r:f=p0.fNo.length) (d:Rd W Aa f ca (encL TNode_cells p0.fNo)) (Ab:Option Addr) (g cb:Nat) (o:List (Hd × TC)) (u:g=p0.fC.length) (w:Rd W Ab g cb (encL TClaim_cells2 o)) (D:NestW W (fun z:TC=>z.fO) THop_cells o p0.fC) :
  Calls Tryz.prog 86 [.agg #[.slice Aa f ca,.slice Ab g cb]].toArray W fun e W2=>∃x:Nat,e=.returned (.func (.func 130) #[] #[.pointer (some ⟨x,0,none⟩)])∧Ext W W2 [aj x 25 [.slice Aa f ca,.slice Ab g cb]]:=by
 subst r
 subst u
 unfold dj at h
 refine ae (m:=4) Tryz.func86 O O (nB O) (cS (cR ?_))
 refine aP [.slice Aa p0.fNo.length ca,.slice Ab p0.fC.length cb] O O O (fun E=>?_)
 refine oY O (mo O) (oN (eT (cS (cR (oY O (eS [.pointer (some ⟨E,0,none⟩)] O O) (oY O (nS O) (oN (eT (ak ?_)))))))))
 obtain rfl:=sI h
 exact am (.inl O) O (rVt (v:=.func (.func 130) #[] #[.pointer (some ⟨E,0,none⟩)]) O) (fun W2 F=>⟨E,O,F⟩)
theorem ij (p0:(List Int)) (p1:Int) (p2:Int) (p3:Int→Int→Option Int) (res:(List Int)) (h:aT p0 p1 p2 p3=some res) (W:World) (q:World) (R:Res) (Aa:Option Addr) (r ca:Nat) (Q:r=p0.length) (fid3:Nat) (fst3 caps3:List Value) (X:cE Tryz.prog fid3=true) (Y:∀W2,Below q.heap.size q W2→R.holds W2→∀x b,∀y,p3 x b=some y→Calls Tryz.prog fid3 (fst3++(([vI x,vI b]:List Value)++caps3)).toArray W2 fun e W3=>e=.returned (vI y)∧Ext W2 W3 []) (hW:Ext q W [R,aO Aa ca 3 1 r (encL cI p0)]) :
  Calls Tryz.prog 171 [.slice Aa r ca,vI p1,vI p2,.func (.func fid3) fst3.toArray caps3.toArray].toArray W fun e W2=>e=.returned (.tuple #[])∧r=res.length∧Ext q W2 [R,aO Aa ca 3 1 r (encL cI res)]:=by
 subst Q
 unfold aT at h
 refine ff (m:=53) Tryz.func171 O O (nB O) hW (cS (cR (oY O (yMI O) (oY O (bc O O) (oY O (yAI O) (oN (eT (cB ?_))))))))
 obtain⟨c,Z,h⟩:=bOs h
 refine bF (fun(s:(Int × (List Int))) L tm=>∃(H:Nat→Value),p0.length=s.2.length∧L=[R,aO Aa ca 3 1 p0.length (encL cI s.2)]∧tm=(upd (upd (upd (upd (upd H 0 (.slice Aa p0.length ca)) 1 (vI p1)) 2 (vI p2)) 3 (.func (.func fid3) fst3.toArray caps3.toArray)) 8 (vI s.1))) 0 Z ⟨_,O,O,(kp4 (kp O))⟩ ?_ ?_
 ·rintro p L tm st ⟨n,u,rfl,rfl⟩ h
  unfold az at h
  refine cS (cS (cR (oY O (yMI O) (oY O (yMI O) (oY O (bA O O) (oN (eT ?_)))))))
  rcases iOs h with⟨U,h⟩|⟨U,h⟩
  ·refine cT (vB U) (cK (eT (cS (cB (cS (cR (oY O (yMI O) (oY O (yAI O) (oN (eT (cB ?_)))))))))))
   obtain⟨u9,V,h⟩:=bOs h
   refine bF (fun(s:(Int × (List Int))) L tm=>∃(H:Nat→Value),p0.length=s.2.length∧L=[R,aO Aa ca 3 1 p0.length (encL cI s.2)]∧tm=(upd (upd (upd (upd (upd (upd (upd H 0 (.slice Aa p0.length ca)) 1 (vI p1)) 2 (vI p2)) 3 (.func (.func fid3) fst3.toArray caps3.toArray)) 8 (vI p.1)) 14 (.bool (decide (p.1<p2)))) 9 (vI s.1))) 2 V ⟨_,u,O,(kp4 (kp (kp (kp O))))⟩ ?_ ?_
   ·rintro o L tm st ⟨l,g,rfl,rfl⟩ h
    unfold aJ at h
    refine cS (cS ?_)
    refine aU 17 cD (by kernel_rfl) (by kernel_rfl) ?_
    refine qY O (yMI O) (qY O (yMI O) (qY O (mq O O) (qY O (yMB O) ?_)))
    obtain⟨z,T,h⟩:=bOs h
    refine qJ 13 (fun H=>(upd (upd (upd (upd (upd (upd (upd (upd H 0 (.slice Aa p0.length ca)) 1 (vI p1)) 2 (vI p2)) 3 (.func (.func fid3) fst3.toArray caps3.toArray)) 8 (vI p.1)) 14 (.bool (decide (p.1<p2)))) 9 (vI o.1)) 34 (.bool z))) (fun H=>?_) (fun key=>?_)
    ·refine ck (oN (eT ?_))
     rcases iOs h with⟨I,h⟩|⟨I,h⟩
     ·refine cT (vB I) (cK (eT (cS (cB ?_))))
      obtain⟨d,h⟩:=gOs h
      obtain⟨w,h⟩:=gOs h
      obtain⟨D,h⟩:=gOs h
      obtain⟨E,h⟩:=gOs h
      refine eV [[],[],[],[],[3],[],[],[6],[5,6,7],[5,6,7,8],[],[],[10,11],[10,11,12],[0,1,5,6,7,8,9,10,11,12,13],[0,1,5,6,7,8,9,10,11,12,13,14],[0,1,2,3,4,5,6,7,8,9,10,11,12,13,14,15],[0,1,2,3,4,5,6,7,8,9,10,11,12,13,14,15,16]] [(none,0,[true,true]),(none,0,[true,true]),(none,0,[true,false]),(none,0,[true,false]),(none,0,[true,false]),(none,0,[true,true]),(none,0,[true,true]),(none,0,[true,true]),(none,0,[true,true]),(none,0,[true,true]),(none,0,[true,true]),(none,0,[true,true]),(none,0,[true,true]),(none,0,[true,true]),(none,0,[true,true]),(some 1,0,[true,true]),(none,0,[true,true]),(some 1,0,[true,true])] [⟨fun _=>.slice Aa p0.length ca,fun _=>noR,fun _=>[]⟩,⟨fun _=>vI o.1,fun _=>noR,fun _=>[]⟩,⟨fun _=>.slice Aa p0.length ca,fun _=>noR,fun _=>[]⟩,⟨fun _=>vI o.1,fun _=>noR,fun _=>[]⟩,⟨fun _=>vI (w64 (o.1-1)),fun _=>noR,fun _=>[]⟩,⟨fun _=>.slice Aa p0.length ca,fun _=>noR,fun _=>[]⟩,⟨fun _=>vI o.1,fun _=>noR,fun _=>[]⟩,⟨fun _=>vI (w64 (o.1-1)),fun _=>noR,fun _=>[]⟩,⟨fun _=>slA Aa (Int.toNat (w64 (o.1-1))*1),fun _=>noR,fun _=>[]⟩,⟨fun _=>vI (rdL o.2 (w64 (o.1-1))),fun _=>noR,fun _=>[]⟩,⟨fun _=>.slice Aa p0.length ca,fun _=>noR,fun _=>[]⟩,⟨fun _=>vI o.1,fun _=>noR,fun _=>[]⟩,⟨fun _=>slA Aa (Int.toNat o.1*1),fun _=>noR,fun _=>[]⟩,⟨fun _=>vI (rdL o.2 o.1),fun _=>noR,fun _=>[]⟩,⟨fun _=>slA Aa (Int.toNat o.1*1),fun _=>noR,fun _=>[]⟩,⟨fun _=>undef,fun _=>aO Aa ca 3 1 p0.length (encL cI (o.2.set (Int.toNat o.1) (rdL o.2 (w64 (o.1-1))))),fun _=>[]⟩,⟨fun _=>slA Aa (Int.toNat (w64 (o.1-1))*1),fun _=>noR,fun _=>[]⟩,⟨fun _=>undef,fun _=>aO Aa ca 3 1 p0.length (encL cI ((o.2.set (Int.toNat o.1) (rdL o.2 (w64 (o.1-1)))).set (Int.toNat (w64 (o.1-1))) (rdL o.2 o.1))),fun _=>[]⟩] 2 cD (by kernel_rfl) (by kernel_rfl) ⟨⟨fun ξ14 ξ14' h=>⟨O,O,O⟩,fun _=>O⟩,⟨fun ξ14 ξ14' h=>⟨O,O,O⟩,fun _=>O⟩,⟨fun ξ14 ξ14' h=>⟨O,O,O⟩,fun _=>O⟩,⟨fun ξ14 ξ14' h=>⟨O,O,O⟩,fun _=>O⟩,⟨fun ξ14 ξ14' h=>⟨O,O,O⟩,fun _=>O⟩,⟨fun ξ14 ξ14' h=>⟨O,O,O⟩,fun _=>O⟩,⟨fun ξ14 ξ14' h=>⟨O,O,O⟩,fun _=>O⟩,⟨fun ξ14 ξ14' h=>⟨O,O,O⟩,fun _=>O⟩,⟨fun ξ14 ξ14' h=>⟨O,O,O⟩,fun _=>O⟩,⟨fun ξ14 ξ14' h=>⟨O,O,O⟩,fun _=>O⟩,⟨fun ξ14 ξ14' h=>⟨O,O,O⟩,fun _=>O⟩,⟨fun ξ14 ξ14' h=>⟨O,O,O⟩,fun _=>O⟩,⟨fun ξ14 ξ14' h=>⟨O,O,O⟩,fun _=>O⟩,⟨fun ξ14 ξ14' h=>⟨O,O,O⟩,fun _=>O⟩,⟨fun ξ14 ξ14' h=>⟨O,O,O⟩,fun _=>O⟩,⟨fun ξ14 ξ14' h=>⟨O,O,O⟩,fun _=>O⟩,⟨fun ξ14 ξ14' h=>⟨O,O,O⟩,fun _=>O⟩,⟨fun ξ14 ξ14' h=>⟨O,O,O⟩,fun _=>O⟩,trivial⟩ O (fun ξ14=>?_)
      refine cf O (fun L2=>?_) ?_
      ·dsimp only[aA,lca,lna]
       refine oY O (yMS O) (oN ?_)
       exact al (fun _=>(none,0,0,[],noR)) O (List.append_nil _)
      dsimp only[bG,lsz,lss,lna,lca,List.append_nil]
      refine cf O (fun L2=>?_) ?_
      ·dsimp only[aA,lca,lna]
       refine oY O (yMI O) (oN ?_)
       exact al (fun _=>(none,0,0,[],noR)) O (List.append_nil _)
      dsimp only[bG,lsz,lss,lna,lca,List.append_nil]
      refine cf O (fun L2=>?_) ?_
      ·dsimp only[aA,lca,lna]
       refine oY O (yMS O) (oN ?_)
       exact al (fun _=>(none,0,0,[],noR)) O (List.append_nil _)
      dsimp only[bG,lsz,lss,lna,lca,List.append_nil]
      refine cf O (fun L2=>?_) ?_
      ·dsimp only[aA,lca,lna]
       refine oY O (yMI O) (oN ?_)
       exact al (fun _=>(none,0,0,[],noR)) O (List.append_nil _)
      dsimp only[bG,lsz,lss,lna,lca,List.append_nil]
      refine cf O (fun L2=>?_) ?_
      ·dsimp only[aA,lca,lna]
       refine oY O (nq O O) (oN ?_)
       exact al (fun _=>(none,0,0,[],noR)) O (List.append_nil _)
      dsimp only[bG,lsz,lss,lna,lca,List.append_nil]
      refine cf O (fun L2=>?_) ?_
      ·dsimp only[aA,lca,lna]
       refine oY O (yMS O) (oN ?_)
       exact al (fun _=>(none,0,0,[],noR)) O (List.append_nil _)
      dsimp only[bG,lsz,lss,lna,lca,List.append_nil]
      refine cf O (fun L2=>?_) ?_
      ·dsimp only[aA,lca,lna]
       refine oY O (yMI O) (oN ?_)
       exact al (fun _=>(none,0,0,[],noR)) O (List.append_nil _)
      dsimp only[bG,lsz,lss,lna,lca,List.append_nil]
      refine cf O (fun L2=>?_) ?_
      ·dsimp only[aA,lca,lna]
       refine oY O (nq O O) (oN ?_)
       exact al (fun _=>(none,0,0,[],noR)) O (List.append_nil _)
      dsimp only[bG,lsz,lss,lna,lca,List.append_nil]
      refine cf O (fun L2=>?_) ?_
      ·dsimp only[aA,lca,lna]
       refine oY O (yI gM (by decide) d.1 d.2 (RdL.row 1 O) (eL aG g) O O) ?_
       refine oN ?_
       exact al (fun _=>(none,0,0,[],noR)) O (List.append_nil _)
      dsimp only[bG,lsz,lss,lna,lca,List.append_nil]
      refine cf O (fun L2=>?_) ?_
      ·dsimp only[aA,lca,lna]
       refine oY O (yR (A:=Aa) (j:=(Int.toNat (w64 (o.1-1))*1)) (v:=vI (rdL o.2 (w64 (o.1-1)))) bN (RdL.row 1 O) O (bB aG d.1 (ao d.2 g) O)) (oN ?_)
       exact al (fun _=>(none,0,0,[],noR)) O (List.append_nil _)
      dsimp only[bG,lsz,lss,lna,lca,List.append_nil]
      refine cf O (fun L2=>?_) ?_
      ·dsimp only[aA,lca,lna]
       refine oY O (yMS O) (oN ?_)
       exact al (fun _=>(none,0,0,[],noR)) O (List.append_nil _)
      dsimp only[bG,lsz,lss,lna,lca,List.append_nil]
      refine cf O (fun L2=>?_) ?_
      ·dsimp only[aA,lca,lna]
       refine oY O (yMI O) (oN ?_)
       exact al (fun _=>(none,0,0,[],noR)) O (List.append_nil _)
      dsimp only[bG,lsz,lss,lna,lca,List.append_nil]
      refine cf O (fun L2=>?_) ?_
      ·dsimp only[aA,lca,lna]
       refine oY O (yI gM (by decide) w.1 w.2 (RdL.row 1 O) (eL aG g) O O) ?_
       refine oN ?_
       exact al (fun _=>(none,0,0,[],noR)) O (List.append_nil _)
      dsimp only[bG,lsz,lss,lna,lca,List.append_nil]
      refine cf O (fun L2=>?_) ?_
      ·dsimp only[aA,lca,lna]
       refine oY O (yR (A:=Aa) (j:=(Int.toNat o.1*1)) (v:=vI (rdL o.2 o.1)) bN (RdL.row 1 O) O (bB aG w.1 (ao w.2 g) O)) (oN ?_)
       exact al (fun _=>(none,0,0,[],noR)) O (List.append_nil _)
      dsimp only[bG,lsz,lss,lna,lca,List.append_nil]
      refine cf O (fun L2=>?_) ?_
      ·dsimp only[aA,lca,lna]
       refine oY O (yI gM (by decide) D.1 D.2 (RdL.row 1 O) (eL aG g) O O) ?_
       refine oN ?_
       exact al (fun _=>(none,0,0,[],noR)) O (List.append_nil _)
      dsimp only[bG,lsz,lss,lna,lca,List.append_nil]
      refine gx_n O (fun L2=>?_) ?_
      ·dsimp only[aA,lca,lna]
       refine cr O (ky 1 (xs:=o.2) aG (rdL o.2 (w64 (o.1-1))) sz_3 O D.1 (ao D.2 g) O O O O) (oN ?_)
       first|exact bK (fun _=>(none,0,0,[],noR)) O|exact bK (fun _=>(none,0,0,[],noR)) (List.append_nil _)
      dsimp only[bG,lsz,lss,lna,lca,List.append_nil]
      refine cf O (fun L2=>?_) ?_
      ·dsimp only[aA,lca,lna]
       refine oY O (yI gM (by decide) E.1 E.2 (RdL.row 1 O) (eL aG (lL g)) O O) ?_
       refine oN ?_
       exact al (fun _=>(none,0,0,[],noR)) O (List.append_nil _)
      dsimp only[bG,lsz,lss,lna,lca,List.append_nil]
      refine gx_n O (fun L2=>?_) ?_
      ·dsimp only[aA,lca,lna]
       refine cr O (ky 1 (xs:=(o.2.set (Int.toNat o.1) (rdL o.2 (w64 (o.1-1))))) aG (rdL o.2 o.1) sz_3 O E.1 (ao E.2 (lL g)) O O O O) (oN ?_)
       first|exact bK (fun _=>(none,0,0,[],noR)) O|exact bK (fun _=>(none,0,0,[],noR)) (List.append_nil _)
      dsimp only[bG,lsz,lss,lna,lca,List.append_nil]
      refine lK (aq (eT (cR (oY O (yMI O) (oY O (nq O O) (oY O (yAI O) (oN ?_)))))))
      obtain rfl:=sI h
      exact eN ⟨_,(lL (lL g)),O,(kp4 (kp (kp (kp O))))⟩
     ·refine cF (vB I) (aK (ah ?_))
      obtain rfl:=sI h
      exact ay ⟨O,_,g,O,(kp4 (kp (kp (kp O))))⟩
    ·clear h;rcases iOs T with⟨f,h⟩|⟨f,h⟩
     ·refine qY (sT O O O O f) (iO (v:=.func (.func fid3) fst3.toArray caps3.toArray) O) (qY (sT O O O O f) (yMS O) (qY (sT O O O O f) (yMI O) ?_))
      obtain⟨F,h⟩:=gOs h
      refine qY (sT O O O O f) (yI gM (by decide) F.1 F.2 (RdL.row 1 O) (eL aG g) O O) ?_
      refine qY (sT O O O O f) (yR (A:=Aa) (j:=(Int.toNat o.1*1)) (v:=vI (rdL o.2 o.1)) bN (RdL.row 1 O) O (bB aG F.1 (ao F.2 g) O)) (qY (sT O O O O f) (yMS O) (qY (sT O O O O f) (yMI O) (qY (sT O O O O f) (nq O O) ?_)))
      obtain⟨G,h⟩:=gOs h
      refine qY (sT O O O O f) (yI gM (by decide) G.1 G.2 (RdL.row 1 O) (eL aG g) O O) ?_
      refine qY (sT O O O O f) (yR (A:=Aa) (j:=(Int.toNat (w64 (o.1-1))*1)) (v:=vI (rdL o.2 (w64 (o.1-1)))) bN (RdL.row 1 O) O (bB aG G.1 (ao G.2 g) O)) ?_
      obtain⟨k,S,h⟩:=bOs h
      refine qY (sT O O O O f) (iH [vI (rdL o.2 o.1),vI (rdL o.2 (w64 (o.1-1)))] X O O (fun W2 K=>Y W2 K.below (K.mem (i:=0) O) (rdL o.2 o.1) (rdL o.2 (w64 (o.1-1))) k S)) (qY (sT O O O O f) (bA O O) (qY O (aw (vB f) O) ?_))
      obtain rfl:=sI h
      exact key _ _ (kp4 (kp4 O))
     ·refine ar (sF O O O O f) (ar (sF O O O O f) (ar (sF O O O O f) (ar (sF O O O O f) (ar (sF O O O O f) (ar (sF O O O O f) (ar (sF O O O O f) (ar (sF O O O O f) (ar (sF O O O O f) (ar (sF O O O O f) (ar (sF O O O O f) (ar (sF O O O O f) (qY O (av (vB f) O) ?_))))))))))))
      obtain rfl:=sI h
      exact key _ _ (kp4 (kp4 O))
   ·intro e L tm hJ
    obtain⟨rfl,t,M,rfl,rfl⟩:=hJ
    refine⟨(by intro hc;cases hc),?_⟩
    refine ag (aq (eT (cR (oY O (yMI O) (oY O (bc O O) (oY O (yAI O) (oN ?_)))))))
    obtain rfl:=sI h
    exact eN ⟨_,M,O,(kp4 (kp O))⟩
  ·refine cF (vB U) (aK (ah ?_))
   obtain rfl:=sI h
   exact ay ⟨O,_,u,O,(kp4 (kp O))⟩
 ·intro e L tm hJ
  obtain⟨rfl,a,N,rfl,rfl⟩:=hJ
  refine⟨(by intro hc;cases hc),?_⟩
  refine ag ?_
  obtain rfl:=sI h
  exact ia (.inr O) O  (fun W2 K=>⟨O,N,K.take 2⟩)
theorem kV (p0:(List Int)) (p1:Int) (p2:Int→Int→Option Int) (res:(List Int)) (h:bO p0 p1 p2=some res) (W:World) (G:World) (R:Res) (Aa:Option Addr) (f ca:Nat) (g:f=p0.length) (fid2:Nat) (fst2 caps2:List Value) (u:cE Tryz.prog fid2=true) (d:∀W2,Below G.heap.size G W2→R.holds W2→∀X Y,∀y,p2 X Y=some y→Calls Tryz.prog fid2 (fst2++(([vI X,vI Y]:List Value)++caps2)).toArray W2 fun e W3=>e=.returned (vI y)∧Ext W2 W3 []) (hW:Ext G W [R,aO Aa ca 3 1 f (encL cI p0)]) :
  Calls Tryz.prog 169 [.slice Aa f ca,vI p1,.func (.func fid2) fst2.toArray caps2.toArray].toArray W fun e W2=>e=.returned (.tuple #[])∧f=res.length∧Ext G W2 [R,aO Aa ca 3 1 f (encL cI res)]:=by
 subst g
 unfold bO at h
 refine ff (m:=63) Tryz.func169 O O (nB O) hW (cS (cR (oY O (yAI O) (oN (eT (cS (cR (oY O (yMI O) (oY O (yAI O) (oY O (yAI O) (oN (eT (cS (cB ?_))))))))))))))
 obtain⟨Z,M,h⟩:=bOs h
 refine bF (fun(s:(Int × Int)) L tm=>∃(o:Nat→Value),L=[R,aO Aa ca 3 1 p0.length (encL cI p0)]∧tm=(upd (upd (upd (upd (upd (upd o 0 (.slice Aa p0.length ca)) 1 (vI p1)) 2 (.func (.func fid2) fst2.toArray caps2.toArray)) 6 (vI 20)) 7 (vI s.1)) 8 (vI s.2))) 0 M ⟨_,O,(kp4 (kp (kp O)))⟩ ?_ ?_
 ·rintro S L tm st ⟨H,rfl,rfl⟩ h
  unfold bw at h
  refine cS (cS (cR (oY O (yMI O) (oY O (yMI O) (oY O (pO O O) (oN (eT ?_)))))))
  obtain⟨N,h⟩:=gOs h
  refine cF (vB N) (aK (ah ?_))
  obtain rfl:=sI h
  exact ay ⟨O,_,O,(kp4 (kp (kp O)))⟩
 ·intro e L tm hJ
  obtain⟨rfl,I,rfl,rfl⟩:=hJ
  refine⟨(by intro hc;cases hc),?_⟩
  refine ag (eT (cS (cR (oY O (yMS O) (oY O (yMI O) (oY O (yMI O) (oY O (iO (v:=.func (.func fid2) fst2.toArray caps2.toArray) O) ?_)))))))
  obtain⟨K,Q,h⟩:=bOs h
  refine jG 1 [.slice Aa p0.length ca,vI Z.1,vI p1,.func (.func fid2) fst2.toArray caps2.toArray] (fun(_:Unit)=>p0.length=K.length) (fun _=>.tuple #[]) (fun _=>aO Aa ca 3 1 p0.length (encL cI K)) (fun _=>[]) O O go_171 O (fun W2 r=>(ij p0 Z.1 p1 p2 K Q W2 _ (mw [R,aO Aa ca 3 1 p0.length (encL cI p0)] [1]) Aa p0.length ca O fid2 fst2 caps2 u (fun W3 hb hR=>d W3 hb (hR.1 0 _ (by decide) O)) r).mono (fun e W3 h3=>⟨(),h3.2.1,h3.1,h3.2.2⟩)) ?_
  rintro-U
  try dsimp only[lsz,lss,List.append_nil]
  refine oN (eT (cB ?_))
  obtain⟨V,w,h⟩:=bOs h
  refine bF (fun(s:(Int × Int × Int)) L tm=>∃(o:Nat→Value),L=[R,aO Aa ca 3 1 p0.length (encL cI K)]∧tm=(upd (upd (upd (upd (upd (upd o 0 (.slice Aa p0.length ca)) 1 (vI p1)) 2 (.func (.func fid2) fst2.toArray caps2.toArray)) 6 (vI s.1)) 7 (vI s.2.1)) 8 (vI s.2.2))) 2 w ⟨_,O,(kp4 (kp (kp O)))⟩ ?_ ?_
  ·rintro T L tm st ⟨D,rfl,rfl⟩ h
   unfold bq at h
   refine cS (cS (cR (oY O (yMI O) (oY O (yMI O) (oY O (bA O O) (oN (eT ?_)))))))
   obtain⟨E,h⟩:=gOs h
   refine cF (vB E) (aK (ah ?_))
   obtain rfl:=sI h
   exact ay ⟨O,_,O,(kp4 (kp (kp O)))⟩
  ·intro e L tm hJ
   obtain⟨rfl,F,rfl,rfl⟩:=hJ
   refine⟨(by intro hc;cases hc),?_⟩
   refine ag ?_
   obtain rfl:=sI h
   exact ia (.inr O) O  (fun W2 r=>⟨O,U,r.take 2⟩)
theorem iU (p0:(List Int)) (p1:Int→Int→Option Int) (res:(List Int)) (h:bh p0 p1=some res) (W:World) (d:World) (R:Res) (Aa:Option Addr) (f ca:Nat) (g:f=p0.length) (fid1:Nat) (fst1 caps1:List Value) (r:cE Tryz.prog fid1=true) (u:∀W2,Below d.heap.size d W2→R.holds W2→∀F G,∀y,p1 F G=some y→Calls Tryz.prog fid1 (fst1++(([vI F,vI G]:List Value)++caps1)).toArray W2 fun e W3=>e=.returned (vI y)∧Ext W2 W3 []) (hW:Ext d W [R,aO Aa ca 3 1 f (encL cI p0)]) :
  Calls Tryz.prog 159 [.slice Aa f ca,.func (.func fid1) fst1.toArray caps1.toArray].toArray W fun e W2=>e=.returned (.tuple #[])∧f=res.length∧Ext d W2 [R,aO Aa ca 3 1 f (encL cI res)]:=by
 subst g
 unfold bh at h
 refine ff (m:=9) Tryz.func159 O O (nB O) hW (cR (oY O (yMS O) (oY O (yMS O) (oY O (bd (us:=[]) c6 O) (oY O (iO (v:=.func (.func fid1) fst1.toArray caps1.toArray) O) ?_)))))
 obtain⟨w,D,h⟩:=bOs h
 refine jG 1 [.slice Aa p0.length ca,vI (p0.length:Int),.func (.func fid1) fst1.toArray caps1.toArray] (fun(_:Unit)=>p0.length=w.length) (fun _=>.tuple #[]) (fun _=>aO Aa ca 3 1 p0.length (encL cI w)) (fun _=>[]) O O go_169 O (fun W2 o=>(kV p0 (p0.length:Int) p1 w D W2 _ (mw [R,aO Aa ca 3 1 p0.length (encL cI p0)] [1]) Aa p0.length ca O fid1 fst1 caps1 r (fun W3 hb hR=>u W3 hb (hR.1 0 _ (by decide) O)) o).mono (fun e W3 h3=>⟨(),h3.2.1,h3.1,h3.2.2⟩)) ?_
 rintro-E
 try dsimp only[lsz,lss,List.append_nil]
 refine oN ?_
 obtain rfl:=sI h
 exact ia (.inr O) O  (fun W2 o=>⟨O,E,o.take 2⟩)
theorem oz (p0:Int) (p1:Int) (res:Int) (h:dO p0 p1=some res) (W:World)  :
  Calls Tryz.prog 161 [vI p0,vI p1].toArray W fun e W2=>e=.returned (vI res)∧Ext W W2 []:=by
 unfold dO at h
 refine ae (m:=20) Tryz.func161 O O (nB O) (cS (cR (oY O (yAI O) (oN (eT (cS (cR (oY O (yMI O) ?_))))))))
 obtain⟨E,w,h⟩:=bOs h
 refine oY O (yC [vI p0] go_168 O (fun W2 f=>gT p0 E w W2 ) O) (oY O (yAB O) (oN (eT (cS (cR (oY O (yMI O) ?_))))))
 obtain⟨F,D,h⟩:=bOs h
 refine oY O (yC [vI p1] go_168 O (fun W2 f=>gT p1 F D W2 ) O) (oY O (yAB O) (oN (eT (cS (cS (cR (oY O (yMB O) (oN (eT ?_)))))))))
 rcases iOs h with⟨g,h⟩|⟨g,h⟩
 ·refine cT (vB g) (cS (cS (cR (oY O (yMB O) (oN (eT ?_))))))
  rcases iOs h with⟨o,h⟩|⟨o,h⟩
  ·refine cT (vB o) (cS (cR (oY O (yAI O) (oN (eT (ak (ab (ab ?_))))))))
   obtain rfl:=sI h
   exact am (.inl O) O (rVt (v:=vI 0) O) (fun W2 f=>⟨O,f.none⟩)
  ·refine cF (vB o) (cK (eT (cS (cR (oY O (yAI O) (oN (eT (ak (ab ?_)))))))))
   obtain rfl:=sI h
   exact am (.inl O) O (rVt (v:=vI (-1)) O) (fun W2 f=>⟨O,f.none⟩)
 ·refine cF (vB g) (cK (eT (cS (cS (cR (oY O (yMB O) (oN (eT ?_))))))))
  rcases iOs h with⟨r,h⟩|⟨r,h⟩
  ·refine cT (vB r) (cS (cR (oY O (yAI O) (oN (eT (ak (ab ?_)))))))
   obtain rfl:=sI h
   exact am (.inl O) O (rVt (v:=vI 1) O) (fun W2 f=>⟨O,f.none⟩)
  ·refine cF (vB r) (cK (eT (cS (cS (cR (oY O (yMI O) (oY O (yMI O) (oY O (bA O O) (oN (eT ?_))))))))))
   rcases iOs h with⟨u,h⟩|⟨u,h⟩
   ·refine cT (vB u) (cS (cR (oY O (yAI O) (oN (eT (ak (ab ?_)))))))
    obtain rfl:=sI h
    exact am (.inl O) O (rVt (v:=vI (-1)) O) (fun W2 f=>⟨O,f.none⟩)
   ·refine cF (vB u) (cK (eT (cS (cS (cR (oY O (yMI O) (oY O (yMI O) (oY O (mq O O) (oN (eT ?_))))))))))
    rcases iOs h with⟨d,h⟩|⟨d,h⟩
    ·refine cT (vB d) (cS (cR (oY O (yAI O) (oN (eT (ak (ab ?_)))))))
     obtain rfl:=sI h
     exact am (.inl O) O (rVt (v:=vI 1) O) (fun W2 f=>⟨O,f.none⟩)
    ·refine cF (vB d) (cK (eT (cS (cR (oY O (yAI O) (oN (eT (ak ?_))))))))
     obtain rfl:=sI h
     exact am (.inl O) O (rVt (v:=vI 0) O) (fun W2 f=>⟨O,f.none⟩)
theorem ns (p0:Int) (p1:Int) (g:TL) (res:Int) (h:dn p0 p1 g=some res) (W:World) (F:Nat) (f:Option Addr) (u r:Nat) (G:u=g.fNo.length) (o:Rd W f u r (encL TNode_cells g.fNo)) (D:Option Addr) (d E:Nat) (w:List (Hd × TC)) (H:d=g.fC.length) (N:Rd W D d E (encL TClaim_cells2 w)) (Q:NestW W (fun z:TC=>z.fO) THop_cells w g.fC) (I:Rd W (some ⟨F,0,none⟩) 1 1 [.slice f u r,.slice D d E]) :
  Calls Tryz.prog 160 [vI p0,vI p1,.pointer (some ⟨F,0,none⟩)].toArray W fun e W2=>e=.returned (vI res)∧Ext W W2 []:=by
 subst G
 subst H
 unfold dn at h
 refine ae (m:=19) Tryz.func160 O O (nB O) (cS (cR (oY O (yAI O) (oN (eT (cS ?_))))))
 refine aU 14 cD (by kernel_rfl) (by kernel_rfl) ?_
 refine qY O (yFR (A:=(some ⟨F,0,none⟩)) (j:=0) aY O) (qY O (yR (A:=(some ⟨F,0,none⟩)) (j:=(0+0)) (v:=.slice f g.fNo.length r) dK (RdL.arg I) O O) (qY O (yMI O) ?_))
 obtain⟨K,h⟩:=gOs h
 refine qY O (yI jL (by decide) K.1 K.2 (RdL.arg o) (eL ad O) O O) ?_
 refine qY O (yFR (A:=f) (j:=(Int.toNat p0*3)) ls O) (qY O (yR (A:=f) (j:=((Int.toNat p0*3)+1)) (v:=vI ((rdL g.fNo p0).fLevel)) bN (RdL.arg o) O (eG ad K.1 (ao K.2 O) O)) (qY O (yFR (A:=(some ⟨F,0,none⟩)) (j:=0) aY O) (qY O (yR (A:=(some ⟨F,0,none⟩)) (j:=(0+0)) (v:=.slice f g.fNo.length r) dK (RdL.arg I) O O) (qY O (yMI O) ?_))))
 obtain⟨M,h⟩:=gOs h
 refine qY O (yI jL (by decide) M.1 M.2 (RdL.arg o) (eL ad O) O O) ?_
 refine qY O (yFR (A:=f) (j:=(Int.toNat p1*3)) ls O) (qY O (yR (A:=f) (j:=((Int.toNat p1*3)+1)) (v:=vI ((rdL g.fNo p1).fLevel)) bN (RdL.arg o) O (eG ad M.1 (ao M.2 O) O)) ?_)
 obtain⟨Y,X,h⟩:=bOs h
 refine qY O (yC [vI ((rdL g.fNo p0).fLevel),vI ((rdL g.fNo p1).fLevel)] go_161 O (fun W2 U=>oz ((rdL g.fNo p0).fLevel) ((rdL g.fNo p1).fLevel) Y X W2 ) O) (qY O (yAI O) (ck (oN (eT (ak ?_)))))
 obtain rfl:=sI h
 exact am (.inl O) O (rVt (v:=vI Y) O) (fun W2 U=>⟨O,U.none⟩)
theorem pH (p0:TL) (res:(List Int)) (h:fg p0=some res) (W:World) (Aa:Option Addr) (r ca:Nat) (E:r=p0.fNo.length) (F:Rd W Aa r ca (encL TNode_cells p0.fNo)) (Ab:Option Addr) (u cb:Nat) (g:List (Hd × TC)) (G:u=p0.fC.length) (H:Rd W Ab u cb (encL TClaim_cells2 g)) (I:NestW W (fun z:TC=>z.fO) THop_cells g p0.fC) :
  Calls Tryz.prog 131 [.agg #[.slice Aa r ca,.slice Ab u cb]].toArray W fun e W2=>∃x:Option Addr × Nat × Nat,x.2.1=res.length∧e=.returned (.slice x.1 x.2.1 x.2.2)∧Ext W W2 [aO x.1 x.2.2 3 1 x.2.1 (encL cI res)]:=by
 subst E
 subst G
 unfold fg at h
 refine ae (m:=23) Tryz.func131 O O (nB O) (cS (cR ?_))
 refine aP [.slice Aa p0.fNo.length ca,.slice Ab p0.fC.length cb] O O O (fun K=>?_)
 refine oY O (yAS O) (oN (eT (cS (cR (oY O (yFA aY O) (oY O (yL 0 dK O O O) (oY O (bd (us:=[]) gE O) ?_)))))))
 obtain⟨Q,h⟩:=gOs h
 refine ox_make (encL cI (List.replicate (Int.toNat (p0.fNo.length:Int)) 0)) c6 mf mC Q.1 Q.2 O (made_enc _ _ _ O O) O (fun D=>?_)
 refine oY O (yAS O) (oN (eT (cS (cS (cR (oY O (yMS O) (oY O (bd (us:=[]) c6 O) (oY O (yMI O) (oN (eT (cB ?_)))))))))))
 obtain⟨q,U,h⟩:=bOs h
 refine bF (fun(s:(Int × (List Int))) L tm=>∃(T:Nat→Value),Int.toNat (p0.fNo.length:Int)=s.2.length∧L=[aj K 25 [.slice Aa p0.fNo.length ca,.slice Ab p0.fC.length cb],aO (some ⟨D,0,none⟩) (Int.toNat (p0.fNo.length:Int)) 3 1 (Int.toNat (p0.fNo.length:Int)) (encL cI s.2)]∧tm=(upd (upd (upd (upd (upd T 1 (.pointer (some ⟨K,0,none⟩))) 2 (.slice none 0 0)) 3 (.slice (some ⟨D,0,none⟩) (Int.toNat (p0.fNo.length:Int)) (Int.toNat (p0.fNo.length:Int)))) 10 (vI ((Int.toNat (p0.fNo.length:Int):Nat):Int))) 11 (vI s.1))) 0 U ⟨_,(List.length_replicate).symm,O,(kp4 (kp O))⟩ ?_ ?_
 ·rintro p L tm st ⟨Z,f,rfl,rfl⟩ h
  unfold cV at h
  refine cS (cR (oY O (bA O O) (oN (eT (cS ?_)))))
  rcases iOs h with⟨M,h⟩|⟨M,h⟩
  ·refine cT (vB M) (cK (eT (cS (cB (cS (cR (oY O (yMI O) (oY O (yAI O) (oN (eT (cR (oY O (yMS O) (oY O (yMI O) (oY O (yMI O) ?_))))))))))))))
   obtain⟨d,h⟩:=gOs h
   refine oY O (yI gM (by decide) d.1 d.2 (RdL.row 1 O) (eL aG f) O O) ?_
   refine cr O (ky 1 (xs:=p.2) aG p.1 sz_3 O d.1 (ao d.2 f) O O O O) (oN (aq (eT (cR (oY O (bc O O) (oY O (yMI O) (oN ?_)))))))
   obtain rfl:=sI h
   exact eN ⟨_,(lL f),O,(kp4 (kp O))⟩
  ·refine cF (vB M) (aK (ah ?_))
   obtain rfl:=sI h
   exact ay ⟨O,_,f,O,(kp4 (kp O))⟩
 ·intro e L tm hJ
  obtain⟨rfl,V,w,rfl,rfl⟩:=hJ
  refine⟨(by intro hc;cases hc),?_⟩
  refine ag (eT (cS (cR (oY O (yMS O) (oY O (eS [.pointer (some ⟨K,0,none⟩)] O O) ?_)))))
  obtain⟨N,X,h⟩:=bOs h
  refine jG 1 [.slice (some ⟨D,0,none⟩) (Int.toNat (p0.fNo.length:Int)) (Int.toNat (p0.fNo.length:Int)),.func (.func 160) #[] #[.pointer (some ⟨K,0,none⟩)]] (fun(_:Unit)=>Int.toNat (p0.fNo.length:Int)=N.length) (fun _=>.tuple #[]) (fun _=>aO (some ⟨D,0,none⟩) (Int.toNat (p0.fNo.length:Int)) 3 1 (Int.toNat (p0.fNo.length:Int)) (encL cI N)) (fun _=>[]) O O go_159 O (fun W2 o=>(iU q.2 (fun S R=>dn S R p0) N X W2 _ (mw [aj K 25 [.slice Aa p0.fNo.length ca,.slice Ab p0.fC.length cb],aO (some ⟨D,0,none⟩) (Int.toNat (p0.fNo.length:Int)) 3 1 (Int.toNat (p0.fNo.length:Int)) (encL cI q.2)] [1]) (some ⟨D,0,none⟩) (Int.toNat (p0.fNo.length:Int)) (Int.toNat (p0.fNo.length:Int)) (w) 160 [] [.pointer (some ⟨K,0,none⟩)] go_160 (fun W3 hb hR n l y hxy=>ns  n l p0 y hxy W3 K Aa p0.fNo.length ca O ((RdL.arg F) W3 (o.rest hb hR)) Ab p0.fC.length cb g O ((RdL.arg H) W3 (o.rest hb hR)) (NestL.at (NestL.arg I) W3 (o.rest hb hR)) ((RdL.cells 0 O) W3 (o.rest hb hR))) o).mono (fun e W3 h3=>⟨(),h3.2.1,h3.1,h3.2.2⟩)) ?_
  rintro-Y
  try dsimp only[lsz,lss,List.append_nil]
  refine oN (eT (cS (cR (oY O (yMS O) (oY O (yAS O) (oN (eT (ak ?_))))))))
  obtain rfl:=sI h
  exact am (.inl O) O (rVt (v:=.slice (some ⟨D,0,none⟩) (Int.toNat (p0.fNo.length:Int)) (Int.toNat (p0.fNo.length:Int))) O) (fun W2 o=>⟨((some ⟨D,0,none⟩),Int.toNat (p0.fNo.length:Int),Int.toNat (p0.fNo.length:Int)),Y,O,(o.pick 1 O)⟩)
theorem f9 (p0:TL) (p1:(List Int)) (p2:Int→Int→Option Bool) (res:(List (Int × Bool))) (h:rcR p0 p1 p2=some res) (W:World) (Aa:Option Addr) (X ca:Nat) (f0:X=p0.fNo.length) (F:Rd W Aa X ca (encL TNode_cells p0.fNo)) (Ab:Option Addr) (Y cb:Nat) (o:List (Hd × TC)) (f1:Y=p0.fC.length) (G:Rd W Ab Y cb (encL TClaim_cells2 o)) (d:NestW W (fun z:TC=>z.fO) THop_cells o p0.fC) (Ac:Option Addr) (Z cc:Nat) (f2:Z=p1.length) (V:Rd W Ac Z cc (encL cI p1)) (fid2:Nat) (fst2 caps2:List Value) (fN:cE Tryz.prog fid2=true) (fn:∀W2,Below W.heap.size W W2→∀x0 x1,∀y,p2 x0 x1=some y→Calls Tryz.prog fid2 (fst2++(([vI x0,vI x1]:List Value)++caps2)).toArray W2 fun e W3=>e=.returned (.bool y)∧Ext W2 W3 []) :
  Calls Tryz.prog 87 [.agg #[.slice Aa X ca,.slice Ab Y cb],.slice Ac Z cc,.func (.func fid2) fst2.toArray caps2.toArray].toArray W fun e W2=>∃x:Nat,e=.returned (.map (some x))∧Ext W W2 [mapV Tryz.prog 3 kI dx kB false x res]:=by
 subst f0
 subst f1
 subst f2
 unfold rcR at h
 refine ae (m:=94) Tryz.func87 O O (nB O) (cS (cR ?_))
 refine aP [.slice Aa p0.fNo.length ca,.slice Ab p0.fC.length cb] O O O (fun i=>?_)
 refine oY O (bC O) (oN (eT (cS (cR ?_))))
 refine ox_makeMapS 3 kI dx 3 1 cI O (fun U=>?_)
 refine oY O (bC O) (oN (eT (cS (cS (cR (oY O (yFA aD O) (oY O (yL 0 bT O O O) (oY O (bd (us:=[]) dQ O) (oY O (yMI O) (oN (eT (cB ?_))))))))))))
 obtain⟨u6,fl,h⟩:=bOs h
 refine bF (fun(s:(Int × (List (Int × (List Int))))) L tm=>∃(D:Nat→Value) (h1_s:List (Int × Hd)),HsOk h1_s s.2∧L=[aj i 25 [.slice Aa p0.fNo.length ca,.slice Ab p0.fC.length cb],mapV Tryz.prog 3 kI dx hdV cG U h1_s,lV 3 1 cI h1_s s.2]∧tm=(upd (upd (upd (upd (upd (upd (upd (upd D 1 (.slice Ac p1.length cc)) 2 (.func (.func fid2) fst2.toArray caps2.toArray)) 3 (.pointer (some ⟨i,0,none⟩))) 6 (.map none)) 7 (.map (some U))) 22 (.slice Ab p0.fC.length cb)) 23 (vI (p0.fC.length:Int))) 24 (vI s.1))) 0 fl ⟨_,([]:List (Int × Hd)),HsOk.nil,O,(kp4 (kp4 O))⟩ ?_ ?_
 ·rintro r L tm st ⟨u1,h1_s5,hk1_s5,rfl,rfl⟩ h
  unfold dk at h
  refine cS (cR (oY O (bA O O) (oN (eT (cS ?_)))))
  rcases iOs h with⟨f4,h⟩|⟨f4,h⟩
  ·refine cT (vB f4) (cK (eT (cS (cB (cS (cR (oY O (yMI O) ?_)))))))
   obtain⟨w,h⟩:=gOs h
   refine oY O (yI dY (by decide) w.1 w.2 (RdL.arg G) (eL aa (NestP.hn d.p O)) O O) ?_
   refine oY O (yM (A:=Ab) (j:=(Int.toNat r.1*2)) [vI ((rdL p0.fC r.1).fID),.slice ((rdL o r.1).1.1) ((rdL p0.fC r.1).fO.length) ((rdL o r.1).1.2.2)] lX (Nat.succ_pos _) (RdL.arg G) O (iL (a6 (NestP.snd d.p r.1) (NestP.len d.p w.1 (ao w.2 O))).symm (aM aa w.1 (ao w.2 (NestP.hn d.p O))))) ?_
   refine aC gR O (fun b9=>?_)
   refine oY O (yAI O) (cr O (yS 3 [vI ((rdL p0.fC r.1).fID),.slice ((rdL o r.1).1.1) ((rdL p0.fC r.1).fO.length) ((rdL o r.1).1.2.2)] rY O (nB O) O O O) (oN (eT (cS (cR (oY O (yFA bQ O) (oY O (yL 3 gL O O O) (oY O (bd (us:=[]) fZ O) (oY O (yMI O) (oN (eT (cB ?_))))))))))))
   obtain⟨uf,g1,h⟩:=bOs h
   refine bF (fun(s:(Int × (List (Int × (List Int))))) L tm=>∃(D:Nat→Value) (h1_s:List (Int × Hd)),HsOk h1_s s.2∧L=[aj i 25 [.slice Aa p0.fNo.length ca,.slice Ab p0.fC.length cb],mapV Tryz.prog 3 kI dx hdV cG U h1_s,lV 3 1 cI h1_s s.2,aj b9 90 [vI ((rdL p0.fC r.1).fID),.slice ((rdL o r.1).1.1) ((rdL p0.fC r.1).fO.length) ((rdL o r.1).1.2.2)]]∧tm=(upd (upd (upd (upd (upd (upd (upd (upd (upd (upd (upd (upd (upd (upd D 1 (.slice Ac p1.length cc)) 2 (.func (.func fid2) fst2.toArray caps2.toArray)) 3 (.pointer (some ⟨i,0,none⟩))) 6 (.map none)) 7 (.map (some U))) 22 (.slice Ab p0.fC.length cb)) 23 (vI (p0.fC.length:Int))) 24 (vI r.1)) 25 (.bool (decide (r.1<(p0.fC.length:Int))))) 9 (.pointer (some ⟨b9,0,none⟩))) 8 (vI r.1)) 30 (.slice ((rdL o r.1).1.1) ((rdL p0.fC r.1).fO.length) ((rdL o r.1).1.2.2))) 31 (vI (((rdL p0.fC r.1).fO.length:Nat):Int))) 32 (vI s.1))) 2 g1 ⟨_,h1_s5,hk1_s5,O,(kp4 (kp4 (kp4 (kp (kp O)))))⟩ ?_ ?_
   ·rintro f L tm st ⟨g2,h1_s12,hk1_s12,rfl,rfl⟩ h
    unfold dr at h
    refine cS (cR (oY O (bA O O) (oN (eT (cS ?_)))))
    rcases iOs h with⟨T,h⟩|⟨T,h⟩
    ·refine cT (vB T) (cK (eT (cS (cB (cS (cR (oY O (yMI O) ?_)))))))
     obtain⟨I,h⟩:=gOs h
     refine oY O (yI lw (by decide) I.1 I.2 (NestL.rd (NestL.arg d) w.1 (ao w.2 O)) (eL au O) O O) ?_
     refine oY O (yM (A:=((rdL o r.1).1.1)) (j:=(Int.toNat f.1*2)) [vI ((rdL ((rdL p0.fC r.1).fO) f.1).fFrom),vI ((rdL ((rdL p0.fC r.1).fO) f.1).fTo)] lW (Nat.succ_pos _) (NestL.rd (NestL.arg d) w.1 (ao w.2 O)) O (aM au I.1 (ao I.2 O))) ?_
     refine aC i8 O (fun fr=>?_)
     refine oY O (yAI O) (cr O (yS 4 [vI ((rdL ((rdL p0.fC r.1).fO) f.1).fFrom),vI ((rdL ((rdL p0.fC r.1).fO) f.1).fTo)] sz_111 O (nB O) O O O) (oN (eT (cS (cR (oY O (iO (v:=.func (.func fid2) fst2.toArray caps2.toArray) O) (oY O (yMI O) (oY O (yMI O) ?_))))))))
     obtain⟨u3,g3,h⟩:=bOs h
     refine oY O (iH [vI r.1,vI f.1] fN O O (fun W2 H=>fn W2 H.below r.1 f.1 u3 g3)) (oN (eT ?_))
     rcases iOs h with⟨S,h⟩|⟨S,h⟩
     ·refine cT (vB S) ?_
      obtain⟨gf,h⟩:=gOs h
      obtain⟨o0,h⟩:=gOs h
      obtain⟨c,h⟩:=gOs h
      refine eV [[],[],[1],[],[],[4],[3,4,5],[],[7],[7,8],[3,4,5,6,7,8,9],[0,1,2,3,4,5,6,7,8,9,10]] [(none,0,[true,true,false,true,true]),(none,0,[true,true,false,true,true]),(none,0,[true,true,false,true,true]),(none,0,[true,true,true,true,true]),(none,0,[true,true,true,true,true]),(none,0,[true,true,true,true,true]),(none,0,[true,true,true,true,true]),(none,0,[true,true,true,true,true]),(none,0,[true,true,true,true,true]),(none,1,[true,true,true,true,true]),(some 2,0,[true,true,true,true,true,true]),(some 1,0,[true,true,true,true,true,true])] [⟨fun _=>.map (some U),fun _=>noR,fun _=>[]⟩,⟨fun _=>.pointer (some ⟨fr,0+0,none⟩),fun _=>noR,fun _=>[]⟩,⟨fun _=>vI ((rdL ((rdL p0.fC r.1).fO) f.1).fFrom),fun _=>noR,fun _=>[]⟩,⟨fun _=>.map (some U),fun _=>noR,fun _=>[]⟩,⟨fun _=>.pointer (some ⟨fr,0+0,none⟩),fun _=>noR,fun _=>[]⟩,⟨fun _=>vI ((rdL ((rdL p0.fC r.1).fO) f.1).fFrom),fun _=>noR,fun _=>[]⟩,⟨fun _=>.slice ((ax cG h1_s12 ((rdL ((rdL p0.fC r.1).fO) f.1).fFrom)).1) ((ax [] f.2 ((rdL ((rdL p0.fC r.1).fO) f.1).fFrom)).length) ((ax cG h1_s12 ((rdL ((rdL p0.fC r.1).fO) f.1).fFrom)).2.2),fun _=>noR,fun _=>[]⟩,⟨fun _=>.pointer (some ⟨fr,0+1,none⟩),fun _=>noR,fun _=>[]⟩,⟨fun _=>vI ((rdL ((rdL p0.fC r.1).fO) f.1).fTo),fun _=>noR,fun _=>[]⟩,⟨fun ξ20=>.slice (some ⟨(ξ20 9 0).2.1,0,none⟩) 1 1,fun _=>noR,fun ξ20=>[aO (some ⟨(ξ20 9 0).2.1,0,none⟩) 1 3 1 1 (encL cI [(rdL ((rdL p0.fC r.1).fO) f.1).fTo])]⟩,⟨fun ξ20=>.slice (ξ20 10 0).1 ((ax [] f.2 ((rdL ((rdL p0.fC r.1).fO) f.1).fFrom)).length+1) (ξ20 10 0).2.2.1,fun ξ20=>lV 3 1 cI (((rdL ((rdL p0.fC r.1).fO) f.1).fFrom,((ξ20 10 0).1,((ax [] f.2 ((rdL ((rdL p0.fC r.1).fO) f.1).fFrom)).length+1),(ξ20 10 0).2.2.1))::h1_s12) (((rdL ((rdL p0.fC r.1).fO) f.1).fFrom,((ax [] f.2 ((rdL ((rdL p0.fC r.1).fO) f.1).fFrom))++[(rdL ((rdL p0.fC r.1).fO) f.1).fTo]))::f.2),fun _=>[]⟩,⟨fun _=>undef,fun ξ20=>mapV Tryz.prog 3 kI dx hdV cG U (((rdL ((rdL p0.fC r.1).fO) f.1).fFrom,((ξ20 10 0).1,((ax [] f.2 ((rdL ((rdL p0.fC r.1).fO) f.1).fFrom)).length+1),(ξ20 10 0).2.2.1))::h1_s12),fun _=>[]⟩] 5 cD (by kernel_rfl) (by kernel_rfl) ⟨⟨fun ξ20 ξ20' h=>⟨O,O,O⟩,fun _=>O⟩,⟨fun ξ20 ξ20' h=>⟨O,O,O⟩,fun _=>O⟩,⟨fun ξ20 ξ20' h=>⟨O,O,O⟩,fun _=>O⟩,⟨fun ξ20 ξ20' h=>⟨O,O,O⟩,fun _=>O⟩,⟨fun ξ20 ξ20' h=>⟨O,O,O⟩,fun _=>O⟩,⟨fun ξ20 ξ20' h=>⟨O,O,O⟩,fun _=>O⟩,⟨fun ξ20 ξ20' h=>⟨O,O,O⟩,fun _=>O⟩,⟨fun ξ20 ξ20' h=>⟨O,O,O⟩,fun _=>O⟩,⟨fun ξ20 ξ20' h=>⟨O,O,O⟩,fun _=>O⟩,⟨fun ξ20 ξ20' h=>⟨by simp only[h 9 (.inl O)],O,by simp only[h 9 (.inl O)]⟩,fun _=>O⟩,⟨fun ξ20 ξ20' h=>⟨by simp only[h 10 (.inl O)],by simp only[h 10 (.inl O)],O⟩,fun _=>O⟩,⟨fun ξ20 ξ20' h=>⟨O,by simp only[h 10 (.inr O)],O⟩,fun _=>O⟩,trivial⟩ O (fun ξ20=>?_)
      refine cf O (fun L2=>?_) ?_
      ·dsimp only[aA,lca,lna]
       refine oY O (bm O) (oN ?_)
       exact al (fun _=>(none,0,0,[],noR)) O (List.append_nil _)
      dsimp only[bG,lsz,lss,lna,lca,List.append_nil]
      refine cf O (fun L2=>?_) ?_
      ·dsimp only[aA,lca,lna]
       refine oY O (yFA pV O) (oN ?_)
       exact al (fun _=>(none,0,0,[],noR)) O (List.append_nil _)
      dsimp only[bG,lsz,lss,lna,lca,List.append_nil]
      refine cf O (fun L2=>?_) ?_
      ·dsimp only[aA,lca,lna]
       refine oY O (yL 4 bN O O O) (oN ?_)
       exact al (fun _=>(none,0,0,[],noR)) O (List.append_nil _)
      dsimp only[bG,lsz,lss,lna,lca,List.append_nil]
      refine cf O (fun L2=>?_) ?_
      ·dsimp only[aA,lca,lna]
       refine oY O (bm O) (oN ?_)
       exact al (fun _=>(none,0,0,[],noR)) O (List.append_nil _)
      dsimp only[bG,lsz,lss,lna,lca,List.append_nil]
      refine cf O (fun L2=>?_) ?_
      ·dsimp only[aA,lca,lna]
       refine oY O (yFA pV O) (oN ?_)
       exact al (fun _=>(none,0,0,[],noR)) O (List.append_nil _)
      dsimp only[bG,lsz,lss,lna,lca,List.append_nil]
      refine cf O (fun L2=>?_) ?_
      ·dsimp only[aA,lca,lna]
       refine oY O (yL 4 bN O O O) (oN ?_)
       exact al (fun _=>(none,0,0,[],noR)) O (List.append_nil _)
      dsimp only[bG,lsz,lss,lna,lca,List.append_nil]
      refine cf O (fun L2=>?_) ?_
      ·dsimp only[aA,lca,lna]
       refine oY O (sr (k:=(rdL ((rdL p0.fC r.1).fO) f.1).fFrom) hk1_s12 (MpL.own 1 O) mR um_154 ze_26 O O gf) (oN ?_)
       exact al (fun _=>(none,0,0,[],noR)) O (List.append_nil _)
      dsimp only[bG,lsz,lss,lna,lca,List.append_nil]
      refine cf O (fun L2=>?_) ?_
      ·dsimp only[aA,lca,lna]
       refine oY O (yFA p5 O) (oN ?_)
       exact al (fun _=>(none,0,0,[],noR)) O (List.append_nil _)
      dsimp only[bG,lsz,lss,lna,lca,List.append_nil]
      refine cf O (fun L2=>?_) ?_
      ·dsimp only[aA,lca,lna]
       refine oY O (yL 4 bN O O O) (oN ?_)
       exact al (fun _=>(none,0,0,[],noR)) O (List.append_nil _)
      dsimp only[bG,lsz,lss,lna,lca,List.append_nil]
      refine cf O (fun L2=>?_) ?_
      ·dsimp only[aA,lca,lna]
       refine ap 1 (encL cI [(rdL ((rdL p0.fC r.1).fO) f.1).fTo]) _ ib c6 mf mC (by decide) (by decide) (by kernel_rfl) (eL aG O) O (fun u4=>?_)
       refine oN ?_
       exact al (fun _=>(none,u4,0,[],noR)) O O
      dsimp only[bG,lsz,lss,lna,lca,List.append_nil]
      refine cf O (fun L2=>?_) ?_
      ·dsimp only[aA,lca,lna]
       refine ox_appendS 2 ((rdL ((rdL p0.fC r.1).fO) f.1).fFrom) c6 mf mC hk1_s12 O O O (RdL.row 5 O) (eL aG O) (cg qg _) (cp o0 (by decide)) O (fun o1 o2=>?_)
       refine oN ?_
       first|exact al (fun _=>(o1,0,o2,[],noR)) O O|exact al (fun _=>(o1,0,o2,[],noR)) O (List.append_nil _)
      dsimp only[bG,lsz,lss,lna,lca,List.append_nil]
      refine gx_n O (fun L2=>?_) ?_
      ·dsimp only[aA,lca,lna]
       refine cr O (iR 1 (k:=(rdL ((rdL p0.fC r.1).fO) f.1).fFrom) (v:=((ξ20 10 0).1,((ax [] f.2 ((rdL ((rdL p0.fC r.1).fO) f.1).fFrom)).length+1),(ξ20 10 0).2.2.1)) O mR um_154 O O O ⟨c.1,(by rw[HsOk.len hk1_s12];exact c.2)⟩) ?_
       refine oN ?_
       first|exact bK (fun _=>(none,0,0,[],noR)) O|exact bK (fun _=>(none,0,0,[],noR)) (List.append_nil _)
      dsimp only[bG,lsz,lss,lna,lca,List.append_nil]
      refine lK (aq (eT (cR ?_)))
      try dsimp only[lna,lca,lsz,lss]
      refine oY O (bc O O) (oY O (yMI O) (oN (aS 4 ?_)))
      obtain rfl:=sI h
      exact eN ⟨_,(((rdL ((rdL p0.fC r.1).fO) f.1).fFrom,((ξ20 10 0).1,((ax [] f.2 ((rdL ((rdL p0.fC r.1).fO) f.1).fFrom)).length+1),(ξ20 10 0).2.2.1))::h1_s12),(HsOk.cons hk1_s12 (fD O O)),O,(kp4 (kp4 (kp4 (kp (kp O)))))⟩
     ·refine cF (vB S) (cK (aq (eT (cR (oY O (bc O O) (oY O (yMI O) (oN (aS 4 ?_))))))))
      obtain rfl:=sI h
      exact eN ⟨_,h1_s12,hk1_s12,O,(kp4 (kp4 (kp4 (kp (kp O)))))⟩
    ·refine cF (vB T) (aK (ah ?_))
     obtain rfl:=sI h
     exact ay ⟨O,_,h1_s12,hk1_s12,O,(kp4 (kp4 (kp4 (kp (kp O)))))⟩
   ·intro e L tm hJ
    obtain⟨rfl,oq,h1_u13,hk1_u13,rfl,rfl⟩:=hJ
    refine⟨(by intro hc;cases hc),?_⟩
    refine ag (aq (eT (cR (oY O (bc O O) (oY O (yMI O) (oN (aS 3 ?_)))))))
    obtain rfl:=sI h
    exact eN ⟨_,h1_u13,hk1_u13,O,(kp4 (kp4 O))⟩
  ·refine cF (vB f4) (aK (ah ?_))
   obtain rfl:=sI h
   exact ay ⟨O,_,h1_s5,hk1_s5,O,(kp4 (kp4 O))⟩
 ·intro e L tm hJ
  obtain⟨rfl,u2,h1_u6,hk1_u6,rfl,rfl⟩:=hJ
  refine⟨(by intro hc;cases hc),?_⟩
  refine ag (eT (cS (cR ?_)))
  refine jx 3 kI dx kB false O (fun E=>?_)
  refine oY O (bC O) (oN (eT (cS (cS (cR (oY O (yMS O) (oY O (bd (us:=[]) c6 O) (oY O (yMI O) (oN (eT (cB ?_)))))))))))
  obtain⟨ug,op,h⟩:=bOs h
  refine bF (fun(s:(Int × (List (Int × Bool)))) L tm=>∃(D:Nat→Value),L=[aj i 25 [.slice Aa p0.fNo.length ca,.slice Ab p0.fC.length cb],mapV Tryz.prog 3 kI dx hdV cG U h1_u6,lV 3 1 cI h1_u6 u6.2,mapV Tryz.prog 3 kI dx kB false E s.2]∧tm=(upd (upd (upd (upd (upd (upd (upd D 3 (.pointer (some ⟨i,0,none⟩))) 6 (.map none)) 7 (.map (some U))) 12 (.map (some E))) 55 (.slice Ac p1.length cc)) 56 (vI (p1.length:Int))) 57 (vI s.1))) 4 op ⟨_,O,(kp4 (kp (kp (kp O))))⟩ ?_ ?_
  ·rintro fd L tm st ⟨om,rfl,rfl⟩ h
   unfold dM at h
   refine cS (cR (oY O (bA O O) (oN (eT (cS ?_)))))
   rcases iOs h with⟨R,h⟩|⟨R,h⟩
   ·refine cT (vB R) (cK (eT (cS (cB (cS (cR ?_))))))
    obtain⟨K,h⟩:=gOs h
    refine oY O (yI gM (by decide) K.1 K.2 (RdL.arg V) (eL aG O) O O) ?_
    refine oY O (yR (A:=Ac) (j:=(Int.toNat fd.1*1)) (v:=vI (rdL p1 fd.1)) bN (RdL.arg V) O (bB aG K.1 (ao K.2 O) O)) (oY O (yAI O) (oN (eT (cR (oY O (bm O) (oY O (yMI O) ?_))))))
    obtain⟨ot,h⟩:=gOs h
    refine cr O (iR 3 (k:=(rdL p1 fd.1)) (v:=true) O mR ku O O O ot) (oN (aq (eT (cR (oY O (bc O O) (oY O (yMI O) (oN ?_)))))))
    obtain rfl:=sI h
    exact eN ⟨_,O,(kp4 (kp (kp (kp O))))⟩
   ·refine cF (vB R) (aK (ah ?_))
    obtain rfl:=sI h
    exact ay ⟨O,_,O,(kp4 (kp (kp (kp O))))⟩
  ·intro e L tm hJ
   obtain⟨rfl,oa,rfl,rfl⟩:=hJ
   refine⟨(by intro hc;cases hc),?_⟩
   refine ag (eT (cS (cS (cR (oY O (yN 0 [.slice Aa p0.fNo.length ca,.slice Ab p0.fC.length cb] aF O O O) ?_)))))
   obtain⟨g,oi,h⟩:=bOs h
   refine oC [.agg #[.slice Aa p0.fNo.length ca,.slice Ab p0.fC.length cb]] _ _ _ O go_131 O (fun W2 H=>pH p0 g oi W2 Aa p0.fNo.length ca O ((RdL.arg F) W2 H) Ab p0.fC.length cb o O ((RdL.arg G) W2 H) (NestL.at (NestL.arg d) W2 H)) ?_
   rintro⟨q,u5,b⟩ n
   replace n:u5=g.length:=n;subst n
   refine oY O (bd (us:=[]) c6 O) (oY O (yMI O) (oN (eT (cB ?_))))
   obtain⟨uo,oj,h⟩:=bOs h
   refine bF (fun(s:(Int × (List (Int × Bool)))) L tm=>∃(D:Nat→Value),L=[aj i 25 [.slice Aa p0.fNo.length ca,.slice Ab p0.fC.length cb],mapV Tryz.prog 3 kI dx hdV cG U h1_u6,lV 3 1 cI h1_u6 u6.2,mapV Tryz.prog 3 kI dx kB false E s.2,aO q b 3 1 g.length (encL cI g)]∧tm=(upd (upd (upd (upd (upd (upd (upd D 3 (.pointer (some ⟨i,0,none⟩))) 6 (.map none)) 7 (.map (some U))) 12 (.map (some E))) 65 (.slice q g.length b)) 66 (vI (g.length:Int))) 67 (vI s.1))) 6 oj ⟨_,O,(kp4 (kp (kp (kp O))))⟩ ?_ ?_
   ·rintro u L tm st ⟨ok,rfl,rfl⟩ h
    unfold dl at h
    refine cS (cR (oY O (bA O O) (oN (eT (cS ?_)))))
    rcases iOs h with⟨l,h⟩|⟨l,h⟩
    ·refine cT (vB l) (cK (eT (cS (cB (cS (cR ?_))))))
     obtain⟨M,h⟩:=gOs h
     refine oY O (yI gM (by decide) M.1 M.2 (RdL.row 4 O) (eL aG O) O O) ?_
     refine oY O (yR (A:=q) (j:=(Int.toNat u.1*1)) (v:=vI (rdL g u.1)) bN (RdL.row 4 O) O (bB aG M.1 (ao M.2 O) O)) (oY O (yAI O) (oN (eT (cS (cR (oY O (yFA aY O) (oY O (yL 0 dK O O O) (oY O (yMI O) ?_))))))))
     obtain⟨N,h⟩:=gOs h
     refine oY O (yI jL (by decide) N.1 N.2 (RdL.arg F) (eL ad O) O O) ?_
     refine oY O (yFR (A:=Aa) (j:=(Int.toNat (rdL g u.1)*3)) gd O) (oY O (yR (A:=Aa) (j:=((Int.toNat (rdL g u.1)*3)+0)) (v:=vI ((rdL p0.fNo (rdL g u.1)).fID)) bN (RdL.arg F) O (eG ad N.1 (ao N.2 O) O)) (oY O (yAI O) (oN (eT (cS (cS (cR (oY O (bm O) (oY O (yMI O) ?_)))))))))
     obtain⟨r0,h⟩:=gOs h
     refine oY O (ga (k:=(rdL p0.fNo (rdL g u.1)).fID) (MpL.own 3 O) mR ku ze_4 O O r0) (oY O (fe O) (oN (eT ?_)))
     rcases iOs h with⟨t,h⟩|⟨t,h⟩
     ·refine cT (vB t) (aK (ah (ag (eT (cR (oY O (bc O O) (oY O (yMI O) (oN ?_))))))))
      obtain rfl:=sI h
      exact eN ⟨_,O,(kp4 (kp (kp (kp O))))⟩
     ·refine cF (vB t) (cK (eT (cS (cR (oY O (bm O) (oY O (yMI O) ?_))))))
      obtain⟨r1,h⟩:=gOs h
      refine oY O (sr (k:=(rdL p0.fNo (rdL g u.1)).fID) hk1_u6 (MpL.own 1 O) mR um_154 ze_26 O O r1) (oY O (bd (us:=[]) c6 O) (oY O (yMI O) (oN (eT (cB ?_)))))
      obtain⟨ur,r2,h⟩:=bOs h
      refine bF (fun(s:(Int × (List (Int × Bool)))) L tm=>∃(D:Nat→Value),L=[aj i 25 [.slice Aa p0.fNo.length ca,.slice Ab p0.fC.length cb],mapV Tryz.prog 3 kI dx hdV cG U h1_u6,lV 3 1 cI h1_u6 u6.2,mapV Tryz.prog 3 kI dx kB false E s.2,aO q b 3 1 g.length (encL cI g)]∧tm=(upd (upd (upd (upd (upd (upd (upd (upd (upd (upd (upd (upd (upd (upd D 3 (.pointer (some ⟨i,0,none⟩))) 6 (.map none)) 7 (.map (some U))) 12 (.map (some E))) 65 (.slice q g.length b)) 66 (vI (g.length:Int))) 67 (vI u.1)) 68 (.bool (decide (u.1<(g.length:Int))))) 16 (vI (rdL g u.1))) 17 (vI ((rdL p0.fNo (rdL g u.1)).fID))) 80 (.bool (!(ax false u.2 ((rdL p0.fNo (rdL g u.1)).fID))))) 83 (.slice ((ax cG h1_u6 ((rdL p0.fNo (rdL g u.1)).fID)).1) ((ax [] u6.2 ((rdL p0.fNo (rdL g u.1)).fID)).length) ((ax cG h1_u6 ((rdL p0.fNo (rdL g u.1)).fID)).2.2))) 84 (vI (((ax [] u6.2 ((rdL p0.fNo (rdL g u.1)).fID)).length:Nat):Int))) 85 (vI s.1))) 8 r2 ⟨_,O,(kp4 (kp4 (kp4 (kp (kp O)))))⟩ ?_ ?_
      ·rintro fE L tm st ⟨r3,rfl,rfl⟩ h
       unfold dS at h
       refine cS (cR (oY O (bA O O) (oN (eT (cS ?_)))))
       rcases iOs h with⟨a,h⟩|⟨a,h⟩
       ·refine cT (vB a) (cK (eT (cS (cB (cS (cR ?_))))))
        obtain⟨Q,h⟩:=gOs h
        refine oY O (yI gM (by decide) Q.1 Q.2 (RdL.rows hk1_u6 2 O ((rdL p0.fNo (rdL g u.1)).fID)) (eL aG O) O O) ?_
        refine oY O (yR (A:=((ax cG h1_u6 ((rdL p0.fNo (rdL g u.1)).fID)).1)) (j:=(Int.toNat fE.1*1)) (v:=vI (rdL (ax [] u6.2 ((rdL p0.fNo (rdL g u.1)).fID)) fE.1)) bN (RdL.rows hk1_u6 2 O ((rdL p0.fNo (rdL g u.1)).fID)) O (bB aG Q.1 (ao Q.2 O) O)) (oY O (yAI O) (oN (eT (cR (oY O (bm O) (oY O (yMI O) ?_))))))
        obtain⟨r4,h⟩:=gOs h
        refine cr O (iR 3 (k:=(rdL (ax [] u6.2 ((rdL p0.fNo (rdL g u.1)).fID)) fE.1)) (v:=true) O mR ku O O O r4) (oN (aq (eT (cR (oY O (bc O O) (oY O (yMI O) (oN ?_)))))))
        obtain rfl:=sI h
        exact eN ⟨_,O,(kp4 (kp4 (kp4 (kp (kp O)))))⟩
       ·refine cF (vB a) (aK (ah ?_))
        obtain rfl:=sI h
        exact ay ⟨O,_,O,(kp4 (kp4 (kp4 (kp (kp O)))))⟩
      ·intro e L tm hJ
       obtain⟨rfl,rx,rfl,rfl⟩:=hJ
       refine⟨(by intro hc;cases hc),?_⟩
       refine ag (aq (eT (cR (oY O (bc O O) (oY O (yMI O) (oN ?_))))))
       obtain rfl:=sI h
       exact eN ⟨_,O,(kp4 (kp (kp (kp O))))⟩
    ·refine cF (vB l) (aK (ah ?_))
     obtain rfl:=sI h
     exact ay ⟨O,_,O,(kp4 (kp (kp (kp O))))⟩
   ·intro e L tm hJ
    obtain⟨rfl,u0,rfl,rfl⟩:=hJ
    refine⟨(by intro hc;cases hc),?_⟩
    refine ag (eT (cS (cR (oY O (bm O) (oY O (bC O) (oN (eT (ak ?_))))))))
    obtain rfl:=sI h
    exact am (.inl O) O (rVt (v:=.map (some E)) O) (fun W2 H=>⟨E,O,(H.pick 3 O)⟩)
theorem gZ (p0:(List Int)) (p1:Int) (p2:Int) (res:Bool) (h:bf p0 p1 p2=some res) (W:World) (Aa:Option Addr) (f ca:Nat) (r:f=p0.length) (g:Rd W Aa f ca (encL cI p0)) :
  Calls Tryz.prog 132 [.slice Aa f ca,vI p1,vI p2].toArray W fun e W2=>e=.returned (.bool res)∧Ext W W2 []:=by
 subst r
 unfold bf at h
 refine ae (m:=13) Tryz.func132 O O (nB O) (cS (cR (oY O (yAB O) (oN (eT (cS (cR (oY O (yMS O) (oY O (yMI O) ?_)))))))))
 obtain⟨o,h⟩:=gOs h
 refine oY O (yI sl_155 (by decide) o.1 o.2 (RdL.arg g) (eL aG O) O O) ?_
 refine oY O (yR (A:=Aa) (j:=(Int.toNat p1*1)) (v:=vI (rdL p0 p1)) bN (RdL.arg g) O (bB aG o.1 (ao o.2 O) O)) (oY O (yMI O) (oY O (ig O O) (oY O (yAB O) (oN (eT (ak ?_))))))
 obtain rfl:=sI h
 exact am (.inl O) O (rVt (v:=.bool ((rdL p0 p1)==p2)) O) (fun W2 u=>⟨O,u.none⟩)
theorem j6 (p0:(List Int)) (res:Unit) (h:dF p0=some res) (W:World) (Aa:Option Addr) (f ca:Nat) (g:f=p0.length) (o:Rd W Aa f ca (encL cI p0)) :
  Calls Tryz.prog 88 [.slice Aa f ca].toArray W fun e W2=>e=.returned (.func (.func 132) #[.slice Aa p0.length ca] #[])∧Ext W W2 []:=by
 subst g
 unfold dF at h
 refine ae (m:=5) Tryz.func88 O O (nB O) (cS (cR (oY O (mo O) (oN (eT (cS (cR (oY O (yMS O) (oY O (td [.slice Aa p0.length ca] [] O O) (oY O (nS O) (oN (eT (ak ?_)))))))))))))
 obtain rfl:=sI h
 exact am (.inl O) O (rVt (v:=.func (.func 132) #[.slice Aa p0.length ca] #[]) O) (fun W2 r=>⟨O,r.none⟩)
theorem dw (p0:TL) (p1:(List Int)) (res:(List (Int × Bool))) (h:bI p0 p1=some res) (W:World) (Aa:Option Addr) (F ca:Nat) (Q:F=p0.fNo.length) (G:Rd W Aa F ca (encL TNode_cells p0.fNo)) (Ab:Option Addr) (H cb:Nat) (g:List (Hd × TC)) (U:H=p0.fC.length) (r:Rd W Ab H cb (encL TClaim_cells2 g)) (u:NestW W (fun z:TC=>z.fO) THop_cells g p0.fC) (Ac:Option Addr) (I cc:Nat) (X:I=p1.length) (Y:Rd W Ac I cc (encL cI p1)) :
  Calls Tryz.prog 65 [.agg #[.slice Aa F ca,.slice Ab H cb],.slice Ac I cc].toArray W fun e W2=>∃x:Nat,e=.returned (.map (some x))∧Ext W W2 [mapV Tryz.prog 3 kI dx kB false x res]:=by
 subst Q
 subst U
 subst X
 unfold bI at h
 refine jR (m:=25) Tryz.func65 O O (nB O) (cS (cR ?_))
 refine aP [.slice Aa p0.fNo.length ca,.slice Ab p0.fC.length cb] O O O (fun i=>?_)
 refine aP [.slice Ac p1.length cc] O O O (fun j=>?_)
 refine oY O (bC O) (oN (eT (cS (cR ?_))))
 refine jx 3 kI dx kB false O (fun K=>?_)
 refine aC ze_94 O (fun b=>?_)
 refine cr O (cn 3 (v:=.map (some K)) sz_94 O (Nat.lt_of_lt_of_le (Nat.lt_succ_self _) (nB O)) O O O) (oN (eT (cS (cS (cR (oY O (yN 0 [.slice Aa p0.fNo.length ca,.slice Ab p0.fC.length cb] aF O O O) ?_))))))
 obtain⟨y5,c,h⟩:=bOs h
 refine db [.agg #[.slice Aa p0.fNo.length ca,.slice Ab p0.fC.length cb]] _ _ O go_86 O (fun W2 f=>gg p0 y5 c W2 Aa p0.fNo.length ca O ((RdL.arg G) W2 f) Ab p0.fC.length cb g O ((RdL.arg r) W2 f) (NestL.at (NestL.arg u) W2 f)) ?_
 rintro V
 refine oN (eT (cB ?_))
 obtain⟨hok44,h⟩:=gOs h
 obtain⟨fr,T,h⟩:=bOs h
 refine mH (caps:=[.pointer (some ⟨V,0,none⟩)]) (fun(s:(List (Int × Bool))) L=>L=[aj i 25 [.slice Aa p0.fNo.length ca,.slice Ab p0.fC.length cb],aj j 26 [.slice Ac p1.length cc],mapV Tryz.prog 3 kI dx kB false K s,aj b 94 [.map (some K)],aj V 25 [.slice Aa p0.fNo.length ca,.slice Ab p0.fC.length cb]]) (fun(_:Unit) _ _=>False) T O si (en p0 hok44 V Aa p0.fNo.length ca Ab p0.fC.length cb O g u.p) (fun W2 s L hI f=>by obtain rfl:=hI;exact⟨(RdL.cells 4 O) W2 f,(RdL.arg r) W2 f⟩) O (fun _ _ _ h=>h.elim) ?_ ?_ ?_
 ·rintro D8 l9 rec10 d w M o L st hrec11 rfl h
  unfold dv at h
  refine cR ?_
  try dsimp only[lna,lca,lsz,lss]
  refine oY O (yAS O) (oN (nO 6 O hrec11 (cB (cS ?_))))
  refine aU 4 cD (by kernel_rfl) (by kernel_rfl) ?_
  refine qY O (yN 0 [.slice Aa p0.fNo.length ca,.slice Ab p0.fC.length cb] aF O O O) (qY O (yL 1 q8 O O O) (qY O (yMS O) ?_))
  obtain⟨f0,S,h⟩:=bOs h
  refine qY O (yC [.slice d o.length w] go_88 O (fun W2 f=>j6 o f0 S W2 d o.length w O ((RdL.row 7 O) W2 f)) O) (ck ?_)
  obtain⟨E,R,h⟩:=bOs h
  refine db [.agg #[.slice Aa p0.fNo.length ca,.slice Ab p0.fC.length cb],.slice Ac p1.length cc,.func (.func 132) #[.slice d o.length w] #[]] _ _ O go_87 O (fun W2 f=>f9 p0 p1 (fun f1 f2=>bf o f1 f2) E R W2 Aa p0.fNo.length ca O ((RdL.arg G) W2 f) Ab p0.fC.length cb g O ((RdL.arg r) W2 f) (NestL.at (NestL.arg u) W2 f) Ac p1.length cc O ((RdL.arg Y) W2 f) 132 [.slice d o.length w] [] go_132 (fun W3 hb x0 x1 y hxy=>gZ o x0 x1  y hxy W3 d o.length w O (((RdL.row 7 O) W2 f).later hb))) ?_
  rintro f3
  try dsimp only[lna,lca,lsz,lss]
  refine ql 8 O mR ku O O (fun n k29 hk30=>(oN (eT ?_)))
  obtain⟨l,h⟩:=gOs h
  refine cB (n7 (fun(D:Nat × (Int→Bool) × (List (Int × Bool))) L tm=>UnionI dx false true E M D∧∃(a:Nat→Value),L=[aj i 25 [.slice Aa p0.fNo.length ca,.slice Ab p0.fC.length cb],aj j 26 [.slice Ac p1.length cc],mapV Tryz.prog 3 kI dx kB false K D.2.2,aj b 94 [.map (some K)],aj V 25 [.slice Aa p0.fNo.length ca,.slice Ab p0.fC.length cb],dfR D8,lpR l9 { rec10 with state:=.busy },aO d w 3 1 o.length (encL cI o),rc Tryz.prog 3 kI dx kB false f3 n E D.2.1 D.1 none]∧tm=(upd (upd (upd (upd (upd (upd (upd (upd (upd a 0 (.agg #[.slice Aa p0.fNo.length ca,.slice Ab p0.fC.length cb])) 1 (.slice Ac p1.length cc)) 2 (.pointer (some ⟨i,0,none⟩))) 3 (.pointer (some ⟨j,0,none⟩))) 4 (.map none)) 5 (.pointer (some ⟨b,0,none⟩))) 10 (.func (.func 130) #[] #[.pointer (some ⟨V,0,none⟩)])) 6 (.slice d o.length w)) 17 (.pointer (some ⟨n,0,none⟩)))) (fun s=>s.1) (k29,(fun y=>bH E y),M) ⟨(UnionI.start hk30),_,O,(kp4 (kp4 (kp O)))⟩ ?_)
  rintro D L tm ⟨hI41,a,rfl,rfl⟩
  refine cS (cR ?_)
  refine rQ 8 O mR O O (fun hno37=>?_) (fun Z k32 N hly34 hM35 hk36=>?_)
  ·refine oY O (yE O O) (oN (eT (cS (cF O (aK (ah ?_))))))
   refine pk (by intro h;cases h) ?_
   refine qb 2 (lk true E M) mR O (hI41.done hno37) (qF 8 O ?_)
   try dsimp only[lsz,lss]
   refine ag (aq (aS 8 ?_))
   obtain rfl:=sI h
   exact mX [aj i 25 [.slice Aa p0.fNo.length ca,.slice Ab p0.fC.length cb],aj j 26 [.slice Ac p1.length cc],mapV Tryz.prog 3 kI dx kB false K (lk true E M),aj b 94 [.map (some K)],aj V 25 [.slice Aa p0.fNo.length ca,.slice Ab p0.fC.length cb]] O
  ·refine oY O (yE O O) (oN (eT (cS (cT O (cK (eT (cB (cS (cR (oY O (rK 8 O O) (oY O (yE O O) (oY O (yAI O) (oN (eT (cR (oY O (yL 3 sc_94 O O O) (oY O (yMI O) (cr O (iR 2 (k:=Z) (v:=true) O mR ku O O O ⟨N,hI41.room hk36 l⟩) (oN (aq (mQ 8 O ?_)))))))))))))))))))))
   exact l3 (k32,(fun q=>D.2.1 q && !decide (q=Z)),((Z,true)::D.2.2)) ⟨hI41.step N hM35 hk36,_,O,(kp4 (kp4 (kp O)))⟩ hk36
 ·rintro D8 fN L hst rfl
  subst hst
  dsimp only at h
  refine aq (eT (cS (cR ?_)))
  try dsimp only[lna,lca,lsz,lss]
  refine oY O (yL 3 sc_94 O O O) (oY O (bC O) (oN (eT (ak (ex_M1 5 O (.inl O) ?_)))))
  obtain rfl:=sI h
  exact am (.inl O) O (rVt (v:=.map (some K)) O) (fun W2 f=>⟨K,O,(f.pick 2 O)⟩)
 ·intro D8 t e L _ hh
  exact hh.elim
end Go.Proofs.YtbblpokfbmekfaaGreat
