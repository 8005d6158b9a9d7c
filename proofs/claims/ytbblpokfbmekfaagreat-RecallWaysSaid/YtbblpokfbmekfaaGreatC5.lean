import Derived.Test.YtbblpokfbmekfaaGreatF
import Derived.Test.YtbblpokfbmekfaaGreatG8
import Derived.Test.YtbblpokfbmekfaaGreatC1
import Derived.Test.YtbblpokfbmekfaaGreatC3
set_option maxHeartbeats 4000000
set_option maxRecDepth 100000
set_option linter.unusedVariables false
namespace Go.Proofs.YtbblpokfbmekfaaGreat
open Go.RowKit (Below)
attribute [local irreducible] OX QX CX EX OpY Calls CallsIn
theorem sW (p0:TL) (p1:(List Int)) (p2:Int) (res:((List Int) × Int)) (h:mp p0 p1 p2=some res) (W:World) (Aa:Option Addr) (G ca:Nat) (V:G=p0.fNo.length) (H:Rd W Aa G ca (encL TNode_cells p0.fNo)) (Ab:Option Addr) (I cb:Nat) (g:List (Hd × TC)) (T:I=p0.fC.length) (w:Rd W Ab I cb (encL TClaim_cells2 g)) (o:NestW W (fun z:TC=>z.fO) THop_cells g p0.fC) (Ac:Option Addr) (K cc:Nat) (S:K=p1.length) (D:Rd W Ac K cc (encL cI p1)) :
  Calls Tryz.prog 28 [.agg #[.slice Aa G ca,.slice Ab I cb],.slice Ac K cc,vI p2].toArray W fun e W2=>∃x:Option Addr × Nat × Nat,x.2.1=res.1.length∧e=.returned (.tuple #[.slice x.1 x.2.1 x.2.2,vI res.2])∧Ext W W2 [be x.1 x.2.2 3 1 x.2.1 (encL cI res.1)]:=by
 subst V
 subst T
 subst S
 unfold mp at h
 refine ah (m:=56) Tryz.func28 O O (nB O) (cS (cR ?_))
 refine aO [.slice Aa p0.fNo.length ca,.slice Ab p0.fC.length cb] O O O (fun b1=>?_)
 refine oY O (yAS O) (oY O (yAI O) (oN (aa (cS (cS (cR (oY O (yN 0 [.slice Aa p0.fNo.length ca,.slice Ab p0.fC.length cb] aR O O O) (oY O (yMS O) (oY O (yMI O) ?_)))))))))
 obtain⟨y2,fn,h⟩:=bOs h
 refine oY O (yC [.agg #[.slice Aa p0.fNo.length ca,.slice Ab p0.fC.length cb],.slice Ac p1.length cc,vI p2] go_74 O (fun W2 f=>dN p0 p1 p2 y2 fn W2 Aa p0.fNo.length ca O ((RdL.arg H) W2 f) Ab p0.fC.length cb g O ((RdL.arg w) W2 f) (NestL.at (NestL.arg o) W2 f) Ac p1.length cc O ((RdL.arg D) W2 f)) O) (oY O (yAI O) (oN (aa (cS (cR (oY O (yMI O) (oY O (ft O O) (oN (aa ?_)))))))))
 rcases iOs h with⟨R,h⟩|⟨R,h⟩
 ·refine cT (vB R) (cS (cR (oY O (yMI O) (oY O (yAS O) (oY O (yAI O) (oN (aa (aq (ab ?_)))))))))
  obtain rfl:=sI h
  exact dA (.inl O) O (rVt (v:=.slice none 0 0) O) (rVt (v:=vI y2) O) (fun W2 f=>⟨(none,0,0),O,O,((f.nilrow 3 1).pick 1 O)⟩)
 ·refine cF (vB R) (cK (aa (cS (cS (cR (oY O (yMS O) (oY O (yMI O) ?_)))))))
  obtain⟨y5,fl,h⟩:=bOs h
  refine oY O (yC [.slice Ac p1.length cc,vI p2] go_80 O (fun W2 f=>bE p1 p2 y5 fl W2 Ac p1.length cc O ((RdL.arg D) W2 f)) O) (oN (aa ?_))
  rcases iOs h with⟨q,h⟩|⟨q,h⟩
  ·refine cT (vB q) (cS (cR (oY O (yAS O) (oY O (yAI O) (oN (aa (aq (ab ?_))))))))
   obtain rfl:=sI h
   exact dA (.inl O) O (rVt (v:=.slice none 0 0) O) (rVt (v:=vI 5) O) (fun W2 f=>⟨(none,0,0),O,O,((f.nilrow 3 1).pick 1 O)⟩)
  ·refine cF (vB q) (cK (aa (cS (cR ?_))))
   refine jn 3 kI cX kB false O (fun Y=>?_)
   refine oY O (bC O) (oN (aa (cS (cS (cR (oY O (yFA bp O) (oY O (yL 0 eZ O O O) (oY O (a8 (us:=[]) kj O) (oY O (yMI O) (oN (aa (ae ?_))))))))))))
   obtain⟨g1,t,h⟩:=bOs h
   refine bo (fun(s:(Int × (List (Int × Bool)))) L tm=>∃(n:Nat→Value),L=[aj b1 25 [.slice Aa p0.fNo.length ca,.slice Ab p0.fC.length cb],mapV Tryz.prog 3 kI cX kB false Y s.2]∧tm=(upd (upd (upd (upd (upd (upd (upd (upd (upd n 1 (.slice Ac p1.length cc)) 2 (vI p2)) 3 (.pointer (some ⟨b1,0,none⟩))) 6 (.slice none 0 0)) 7 (vI 0)) 9 (.map (some Y))) 26 (.slice Ab p0.fC.length cb)) 27 (vI (p0.fC.length:Int))) 28 (vI s.1))) 0 t ⟨_,O,(kp4 (kp4 (kp O)))⟩ ?_ ?_
   ·rintro r L tm st ⟨a,rfl,rfl⟩ h
    unfold kJ at h
    refine cS (cR (oY O (bN O O) (oN (aa (cS ?_)))))
    rcases iOs h with⟨M,h⟩|⟨M,h⟩
    ·refine cT (vB M) (cK (aa (cS (ae (cS (cR ?_))))))
     obtain⟨d,h⟩:=gOs h
     refine oY O (yI kx (by decide) d.1 d.2 (RdL.arg w) (eL ad (NestP.hn o.p O)) O O) ?_
     refine oY O (yM (A:=Ab) (j:=(Int.toNat r.1*2)) [vI ((rdL p0.fC r.1).fID),.slice ((rdL g r.1).1.1) ((rdL p0.fC r.1).fO.length) ((rdL g r.1).1.2.2)] ag_90 (Nat.succ_pos _) (RdL.arg w) O (nI (dD (NestP.snd o.p r.1) (NestP.len o.p d.1 (av d.2 O))).symm (bR ad d.1 (av d.2 (NestP.hn o.p O))))) ?_
     refine aT qc O (fun o1=>?_)
     refine d9 O (yS 2 [vI ((rdL p0.fC r.1).fID),.slice ((rdL g r.1).1.1) ((rdL p0.fC r.1).fO.length) ((rdL g r.1).1.2.2)] sz_90 O (nB O) O O O) (oN (aa (cR (oY O (bm O) (oY O (yFA kk O) (oY O (yL 2 bW O O O) ?_))))))
     obtain⟨i,h⟩:=gOs h
     refine d9 O (iB 1 (k:=(rdL p0.fC r.1).fID) (v:=true) O mQ jN O O O i) (oN (au (aa (cR (oY O (bF O O) (oY O (yMI O) (oN (aX 2 ?_))))))))
     obtain rfl:=sI h
     exact eN ⟨_,O,(kp4 (kp4 (kp O)))⟩
    ·refine cF (vB M) (aJ (ak ?_))
     obtain rfl:=sI h
     exact aC ⟨O,_,O,(kp4 (kp4 (kp O)))⟩
   ·intro e L tm hJ
    obtain⟨rfl,y,rfl,rfl⟩:=hJ
    refine⟨(by intro hc;cases hc),?_⟩
    refine ai (aa (cS (cS (cR (oY O (bm O) ?_)))))
    obtain⟨u,b,h⟩:=bOs h
    refine oC [.map (some Y)] _ _ _ O go_96 O (fun W2 f=>ed g1.2 u b W2 Y ((MpL.own 1 O) W2 f)) ?_
    rintro⟨l,g2,c⟩ N
    replace N:g2=u.length:=N;subst N
    refine oY O (a8 (us:=[]) bj O) (oY O (yMI O) (oN (aa (ae ?_))))
    obtain⟨g3,f0,h⟩:=bOs h
    refine bo (fun(s:(Int × (List (Int × Bool)))) L tm=>∃(n:Nat→Value),L=[aj b1 25 [.slice Aa p0.fNo.length ca,.slice Ab p0.fC.length cb],mapV Tryz.prog 3 kI cX kB false Y s.2,be l c 3 1 u.length (encL cI u)]∧tm=(upd (upd (upd (upd (upd (upd (upd (upd (upd n 1 (.slice Ac p1.length cc)) 2 (vI p2)) 3 (.pointer (some ⟨b1,0,none⟩))) 6 (.slice none 0 0)) 7 (vI 0)) 9 (.map (some Y))) 37 (.slice l u.length c)) 38 (vI (u.length:Int))) 39 (vI s.1))) 2 f0 ⟨_,O,(kp4 (kp4 (kp O)))⟩ ?_ ?_
    ·rintro F L tm st ⟨f1,rfl,rfl⟩ h
     unfold kA at h
     refine cS (cR (oY O (bN O O) (oN (aa (cS ?_)))))
     rcases iOs h with⟨Q,h⟩|⟨Q,h⟩
     ·refine cT (vB Q) (cK (aa (cS (ae (cS (cR ?_))))))
      obtain⟨E,h⟩:=gOs h
      refine oY O (yI dC (by decide) E.1 E.2 (RdL.row 2 O) (eL ax O) O O) ?_
      refine oY O (yR (A:=l) (j:=(Int.toNat F.1*1)) (v:=vI (rdL u F.1)) bW (RdL.row 2 O) O (aG ax E.1 (av E.2 O) O)) (oY O (yAI O) (oN (aa (cS (cR (oY O (bm O) (oY O (yMI O) ?_)))))))
      obtain⟨f2,h⟩:=gOs h
      refine d9 O (iB 1 (k:=(rdL u F.1)) (v:=false) O mQ jN O O O f2) (oN (aa (cS (cR (oY O (yN 0 [.slice Aa p0.fNo.length ca,.slice Ab p0.fC.length cb] aR O O O) (oY O (yMS O) (oY O (yMI O) (oY O (bm O) ?_))))))))
      obtain⟨gf,f3,h⟩:=bOs h
      refine oY O (yC [.agg #[.slice Aa p0.fNo.length ca,.slice Ab p0.fC.length cb],.slice Ac p1.length cc,vI p2,.map (some Y)] go_97 O (fun W2 f=>qZ p0 p1 p2 (((rdL u F.1),false)::F.2) gf f3 W2 Aa p0.fNo.length ca O ((RdL.arg H) W2 f) Ab p0.fC.length cb g O ((RdL.arg w) W2 f) (NestL.at (NestL.arg o) W2 f) Ac p1.length cc O ((RdL.arg D) W2 f) Y ((MpL.own 1 O) W2 f)) O) (oY O (fa O) (oN (aa ?_)))
      rcases iOs h with⟨U,h⟩|⟨U,h⟩
      ·refine cT (vB U) (cR (oY O (bm O) (oY O (yMI O) ?_)))
       obtain⟨f4,h⟩:=gOs h
       refine d9 O (iB 1 (k:=(rdL u F.1)) (v:=true) O mQ jN O O O f4) (oN (au (aa (cR (oY O (bF O O) (oY O (yMI O) (oN ?_)))))))
       obtain rfl:=sI h
       exact eN ⟨_,O,(kp4 (kp4 (kp O)))⟩
      ·refine cF (vB U) (cK (au (aa (cR (oY O (bF O O) (oY O (yMI O) (oN ?_)))))))
       obtain rfl:=sI h
       exact eN ⟨_,O,(kp4 (kp4 (kp O)))⟩
     ·refine cF (vB Q) (aJ (ak ?_))
      obtain rfl:=sI h
      exact aC ⟨O,_,O,(kp4 (kp4 (kp O)))⟩
    ·intro e L tm hJ
     obtain⟨rfl,f9,rfl,rfl⟩:=hJ
     refine⟨(by intro hc;cases hc),?_⟩
     refine ai (aa (cS (cR (oY O (bm O) ?_))))
     obtain⟨Z,fr,h⟩:=bOs h
     refine oC [.map (some Y)] _ _ _ O go_96 O (fun W2 f=>ed g3.2 Z fr W2 Y ((MpL.own 1 O) W2 f)) ?_
     rintro⟨fd,ga,fE⟩ X
     replace X:ga=Z.length:=X;subst X
     refine oY O (yAS O) (oY O (yAI O) (oN (aa (aq ?_))))
     obtain rfl:=sI h
     exact dA (.inl O) O (rVt (v:=.slice fd Z.length fE) O) (rVt (v:=vI 0) O) (fun W2 f=>⟨(fd,Z.length,fE),O,O,(f.pick 3 O)⟩)
theorem qd (p0:TL) (p1:(List Int)) (res:((List Int) × Int)) (h:eC p0 p1=some res) (W:World) (Aa:Option Addr) (o ca:Nat) (G:o=p0.fNo.length) (r:Rd W Aa o ca (encL TNode_cells p0.fNo)) (Ab:Option Addr) (u cb:Nat) (g:List (Hd × TC)) (H:u=p0.fC.length) (d:Rd W Ab u cb (encL TClaim_cells2 g)) (w:NestW W (fun z:TC=>z.fO) THop_cells g p0.fC) (Ac:Option Addr) (D cc:Nat) (I:D=p1.length) (E:Rd W Ac D cc (encL cI p1)) :
  Calls Tryz.prog 34 [.agg #[.slice Aa o ca,.slice Ab u cb],.slice Ac D cc].toArray W fun e W2=>∃x:Option Addr × Nat × Nat,x.2.1=res.1.length∧e=.returned (.tuple #[.slice x.1 x.2.1 x.2.2,vI res.2])∧Ext W W2 [be x.1 x.2.2 3 1 x.2.1 (encL cI res.1)]:=by
 subst G
 subst H
 subst I
 unfold eC at h
 refine ah (m:=17) Tryz.func34 O O (nB O) (cS (cR ?_))
 refine aO [.slice Aa p0.fNo.length ca,.slice Ab p0.fC.length cb] O O O (fun R=>?_)
 refine oY O (yAS O) (oY O (yAI O) (oN (aa (cS (cS (cR (oY O (yN 0 [.slice Aa p0.fNo.length ca,.slice Ab p0.fC.length cb] aR O O O) (oY O (yMS O) ?_))))))))
 obtain⟨V,U,h⟩:=bOs h
 refine oY O (yC [.agg #[.slice Aa p0.fNo.length ca,.slice Ab p0.fC.length cb],.slice Ac p1.length cc] go_70 O (fun W2 f=>gj p0 p1 V U W2 Aa p0.fNo.length ca O ((RdL.arg r) W2 f) Ab p0.fC.length cb g O ((RdL.arg d) W2 f) (NestL.at (NestL.arg w) W2 f) Ac p1.length cc O ((RdL.arg E) W2 f)) O) (oY O (yAI O) (oN (aa (cS (cR (oY O (yMI O) (oY O (ft O O) (oN (aa ?_)))))))))
 rcases iOs h with⟨K,h⟩|⟨K,h⟩
 ·refine cT (vB K) (cS (cR (oY O (yMI O) (oY O (yAS O) (oY O (yAI O) (oN (aa (aq (ab ?_)))))))))
  obtain rfl:=sI h
  exact dA (.inl O) O (rVt (v:=.slice none 0 0) O) (rVt (v:=vI V) O) (fun W2 f=>⟨(none,0,0),O,O,((f.nilrow 3 1).pick 1 O)⟩)
 ·refine cF (vB K) (cK (aa (cS (cR (oY O (yN 0 [.slice Aa p0.fNo.length ca,.slice Ab p0.fC.length cb] aR O O O) (oY O (yMS O) ?_))))))
  obtain⟨T,X,h⟩:=bOs h
  refine cD [.agg #[.slice Aa p0.fNo.length ca,.slice Ab p0.fC.length cb],.slice Ac p1.length cc] _ _ O go_64 O (fun W2 f=>jK p0 p1 T X W2 Aa p0.fNo.length ca O ((RdL.arg r) W2 f) Ab p0.fC.length cb g O ((RdL.arg d) W2 f) (NestL.at (NestL.arg w) W2 f) Ac p1.length cc O ((RdL.arg E) W2 f)) ?_
  rintro S
  obtain⟨Q,Y,h⟩:=bOs h
  refine oC [.map (some S)] _ _ _ O go_96 O (fun W2 f=>ed T Q Y W2 S ((MpL.own 1 O) W2 f)) ?_
  rintro⟨M,Z,N⟩ F
  replace F:Z=Q.length:=F;subst F
  refine oY O (yAS O) (oY O (yAI O) (oN (aa (aq ?_))))
  obtain rfl:=sI h
  exact dA (.inl O) O (rVt (v:=.slice M Q.length N) O) (rVt (v:=vI 0) O) (fun W2 f=>⟨(M,Q.length,N),O,O,(f.pick 2 O)⟩)
theorem oz (p0:TL) (p1:(List Int)) (res:((List Int) × Int)) (h:dh p0 p1=some res) (W:World) (Aa:Option Addr) (o ca:Nat) (G:o=p0.fNo.length) (r:Rd W Aa o ca (encL TNode_cells p0.fNo)) (Ab:Option Addr) (u cb:Nat) (g:List (Hd × TC)) (H:u=p0.fC.length) (d:Rd W Ab u cb (encL TClaim_cells2 g)) (w:NestW W (fun z:TC=>z.fO) THop_cells g p0.fC) (Ac:Option Addr) (D cc:Nat) (I:D=p1.length) (E:Rd W Ac D cc (encL cI p1)) :
  Calls Tryz.prog 36 [.agg #[.slice Aa o ca,.slice Ab u cb],.slice Ac D cc].toArray W fun e W2=>∃x:Option Addr × Nat × Nat,x.2.1=res.1.length∧e=.returned (.tuple #[.slice x.1 x.2.1 x.2.2,vI res.2])∧Ext W W2 [be x.1 x.2.2 3 1 x.2.1 (encL cI res.1)]:=by
 subst G
 subst H
 subst I
 unfold dh at h
 refine ah (m:=17) Tryz.func36 O O (nB O) (cS (cR ?_))
 refine aO [.slice Aa p0.fNo.length ca,.slice Ab p0.fC.length cb] O O O (fun R=>?_)
 refine oY O (yAS O) (oY O (yAI O) (oN (aa (cS (cS (cR (oY O (yN 0 [.slice Aa p0.fNo.length ca,.slice Ab p0.fC.length cb] aR O O O) (oY O (yMS O) ?_))))))))
 obtain⟨V,U,h⟩:=bOs h
 refine oY O (yC [.agg #[.slice Aa p0.fNo.length ca,.slice Ab p0.fC.length cb],.slice Ac p1.length cc] go_70 O (fun W2 f=>gj p0 p1 V U W2 Aa p0.fNo.length ca O ((RdL.arg r) W2 f) Ab p0.fC.length cb g O ((RdL.arg d) W2 f) (NestL.at (NestL.arg w) W2 f) Ac p1.length cc O ((RdL.arg E) W2 f)) O) (oY O (yAI O) (oN (aa (cS (cR (oY O (yMI O) (oY O (ft O O) (oN (aa ?_)))))))))
 rcases iOs h with⟨K,h⟩|⟨K,h⟩
 ·refine cT (vB K) (cS (cR (oY O (yMI O) (oY O (yAS O) (oY O (yAI O) (oN (aa (aq (ab ?_)))))))))
  obtain rfl:=sI h
  exact dA (.inl O) O (rVt (v:=.slice none 0 0) O) (rVt (v:=vI V) O) (fun W2 f=>⟨(none,0,0),O,O,((f.nilrow 3 1).pick 1 O)⟩)
 ·refine cF (vB K) (cK (aa (cS (cR (oY O (yN 0 [.slice Aa p0.fNo.length ca,.slice Ab p0.fC.length cb] aR O O O) (oY O (yMS O) ?_))))))
  obtain⟨T,X,h⟩:=bOs h
  refine cD [.agg #[.slice Aa p0.fNo.length ca,.slice Ab p0.fC.length cb],.slice Ac p1.length cc] _ _ O go_65 O (fun W2 f=>dw p0 p1 T X W2 Aa p0.fNo.length ca O ((RdL.arg r) W2 f) Ab p0.fC.length cb g O ((RdL.arg d) W2 f) (NestL.at (NestL.arg w) W2 f) Ac p1.length cc O ((RdL.arg E) W2 f)) ?_
  rintro S
  obtain⟨Q,Y,h⟩:=bOs h
  refine oC [.map (some S)] _ _ _ O go_96 O (fun W2 f=>ed T Q Y W2 S ((MpL.own 1 O) W2 f)) ?_
  rintro⟨M,Z,N⟩ F
  replace F:Z=Q.length:=F;subst F
  refine oY O (yAS O) (oY O (yAI O) (oN (aa (aq ?_))))
  obtain rfl:=sI h
  exact dA (.inl O) O (rVt (v:=.slice M Q.length N) O) (rVt (v:=vI 0) O) (fun W2 f=>⟨(M,Q.length,N),O,O,(f.pick 2 O)⟩)
theorem nv  (res:TL) (h:fi=some res) (W:World) (wb:World) (Hb:World→Prop) (hB:∀W3,Below W.heap.size W W3→Below wb.heap.size wb W3∧Hb W3) :
  Calls Tryz.prog 59 [].toArray W fun e W2=>∃x:((Option Addr × Nat × Nat) × (Option Addr × Nat × Nat) × (List (Hd × TC)) × Res),(x.1.2.1=res.fNo.length∧x.2.1.2.1=res.fC.length∧NestP (fun z:TC=>z.fO) x.2.2.1 res.fC∧PvL (fun z:TC=>z.fO) THop_cells wb (fun W4=>Hb W4∧Res.holds x.2.2.2 W4) x.2.2.1)∧e=.returned (.agg #[.slice x.1.1 x.1.2.1 x.1.2.2,.slice x.2.1.1 x.2.1.2.1 x.2.1.2.2])∧Ext W W2 [be x.1.1 x.1.2.2 97 3 x.1.2.1 (encL TNode_cells res.fNo),be x.2.1.1 x.2.1.2.2 90 2 x.2.1.2.1 (encL TClaim_cells2 x.2.2.1),x.2.2.2]:=by
 unfold fi at h
 refine ah (m:=24) Tryz.func59 O O (nB O) (cS (cR ?_))
 refine aT tj O (fun D=>?_)
 refine oN (aa (cS (cR ?_)))
 refine oY O (cf [vI 1,vI 0,vI 0] [(0,1),(1,1),(2,1)] rV nO (by kernel_rfl)) ?_
 refine oY O (cf [vI 2,vI 0,vI 0] [(0,1),(1,1),(2,1)] rV nO (by kernel_rfl)) ?_
 refine oY O (cf [vI 3,vI 3,vI 0] [(0,1),(1,1),(2,1)] rV nO (by kernel_rfl)) ?_
 refine oY O (cf [vI 4,vI 3,vI 0] [(0,1),(1,1),(2,1)] rV nO (by kernel_rfl)) ?_
 refine oY O (cf [vI 5,vI 9,vI 10] [(0,1),(1,1),(2,1)] rV nO (by kernel_rfl)) ?_
 refine oY O (cf [vI 6,vI 9,vI 7] [(0,1),(1,1),(2,1)] rV nO (by kernel_rfl)) ?_
 refine az 6 (encL TNode_cells [(TN.mk 1 0 0),(TN.mk 2 0 0),(TN.mk 3 3 0),(TN.mk 4 3 0),(TN.mk 5 9 10),(TN.mk 6 9 7)]) _ mc_97_6 lM nO by_97 (by decide) (by decide) (by kernel_rfl) (eL ay O) O (fun r=>?_)
 refine oY O (cf [vI 1,vI 3] [(0,1),(1,1)] pz jd (by kernel_rfl)) ?_
 refine az 1 (encL THop_cells [(TH.mk 1 3)]) _ mc_111_1 lJ jd rQ (by decide) (by decide) (by kernel_rfl) (eL aA O) O (fun u=>?_)
 refine oY O (cf [vI 11,.slice (some ⟨u,0,none⟩) 1 1] [(0,1),(1,1)] ust_90 qc (by kernel_rfl)) ?_
 refine oY O (cf [vI 1,vI 4] [(0,1),(1,1)] pz jd (by kernel_rfl)) ?_
 refine oY O (cf [vI 2,vI 4] [(0,1),(1,1)] pz jd (by kernel_rfl)) ?_
 refine az 2 (encL THop_cells [(TH.mk 1 4),(TH.mk 2 4)]) _ mc_111_2 lJ jd rQ (by decide) (by decide) (by kernel_rfl) (eL aA O) O (fun o=>?_)
 refine oY O (cf [vI 12,.slice (some ⟨o,0,none⟩) 2 2] [(0,1),(1,1)] ust_90 qc (by kernel_rfl)) ?_
 refine oY O (cf [vI 3,vI 5] [(0,1),(1,1)] pz jd (by kernel_rfl)) ?_
 refine az 1 (encL THop_cells [(TH.mk 3 5)]) _ mc_111_1 lJ jd rQ (by decide) (by decide) (by kernel_rfl) (eL aA O) O (fun g=>?_)
 refine oY O (cf [vI 13,.slice (some ⟨g,0,none⟩) 1 1] [(0,1),(1,1)] ust_90 qc (by kernel_rfl)) ?_
 refine oY O (cf [vI 4,vI 5] [(0,1),(1,1)] pz jd (by kernel_rfl)) ?_
 refine oY O (cf [vI 4,vI 6] [(0,1),(1,1)] pz jd (by kernel_rfl)) ?_
 refine az 2 (encL THop_cells [(TH.mk 4 5),(TH.mk 4 6)]) _ mc_111_2 lJ jd rQ (by decide) (by decide) (by kernel_rfl) (eL aA O) O (fun f=>?_)
 try dsimp only[lna,lca,lsz,lss]
 refine oY O (cf [vI 14,.slice (some ⟨f,0,none⟩) 2 2] [(0,1),(1,1)] ust_90 qc (by kernel_rfl)) ?_
 refine ox_addNo ?_
 refine nr 6 5 (by decide) O O ?_
 refine nr 6 4 (by decide) O O ?_
 refine nr 6 3 (by decide) O O ?_
 refine nr 6 2 (by decide) O O ?_
 refine az 4 (encL TClaim_cells2 [(((some ⟨u,0,none⟩),1,1),(TC.mk 11 [(TH.mk 1 3)])),(((some ⟨o,0,none⟩),2,2),(TC.mk 12 [(TH.mk 1 4),(TH.mk 2 4)])),(((some ⟨g,0,none⟩),1,1),(TC.mk 13 [(TH.mk 3 5)])),(((some ⟨f,0,none⟩),2,2),(TC.mk 14 [(TH.mk 4 5),(TH.mk 4 6)]))]) _ mc_90_4 kj qc by_90 (by decide) (by decide) (by kernel_rfl) (eL ad O) O (fun d=>?_)
 try dsimp only[lna,lca,lsz,lss]
 refine oY O (cf [.slice (some ⟨r,0,none⟩) 6 6,.slice (some ⟨d,0,none⟩) 4 4] [(0,1),(1,1)] ust_25 tj (by kernel_rfl)) ?_
 refine d9 O (yS 0 [.slice (some ⟨r,0,none⟩) 6 6,.slice (some ⟨d,0,none⟩) 4 4] sz_25 O (nB O) O O O) (oN (aa (aq ?_)))
 obtain rfl:=sI h
 exact ao (.inl O) O (dL 0 [.slice (some ⟨r,0,none⟩) 6 6,.slice (some ⟨d,0,none⟩) 4 4] aR O O O) (fun W2 w=>⟨(((some ⟨r,0,none⟩),6,6),((some ⟨d,0,none⟩),4,4),[(((some ⟨u,0,none⟩),1,1),(TC.mk 11 [(TH.mk 1 3)])),(((some ⟨o,0,none⟩),2,2),(TC.mk 12 [(TH.mk 1 4),(TH.mk 2 4)])),(((some ⟨g,0,none⟩),1,1),(TC.mk 13 [(TH.mk 3 5)])),(((some ⟨f,0,none⟩),2,2),(TC.mk 14 [(TH.mk 4 5),(TH.mk 4 6)]))],tP (tP (tP (tP noR (be (some ⟨f,0,none⟩) 2 111 2 2 (encL THop_cells [(TH.mk 4 5),(TH.mk 4 6)]))) (be (some ⟨g,0,none⟩) 1 111 2 1 (encL THop_cells [(TH.mk 3 5)]))) (be (some ⟨o,0,none⟩) 2 111 2 2 (encL THop_cells [(TH.mk 1 4),(TH.mk 2 4)]))) (be (some ⟨u,0,none⟩) 1 111 2 1 (encL THop_cells [(TH.mk 1 3)]))),⟨O,O,(NestP.cons (sel:=(fun z:TC=>z.fO)) O (NestP.cons (sel:=(fun z:TC=>z.fO)) O (NestP.cons (sel:=(fun z:TC=>z.fO)) O (NestP.cons (sel:=(fun z:TC=>z.fO)) O NestP.nil)))),(PvL.cons (fun _ _ h=>gl h.2.2.1) (PvL.mono (Hb:=(fun W4=>Hb W4∧Res.holds (tP (tP (tP noR (be (some ⟨f,0,none⟩) 2 111 2 2 (encL THop_cells [(TH.mk 4 5),(TH.mk 4 6)]))) (be (some ⟨g,0,none⟩) 1 111 2 1 (encL THop_cells [(TH.mk 3 5)]))) (be (some ⟨o,0,none⟩) 2 111 2 2 (encL THop_cells [(TH.mk 1 4),(TH.mk 2 4)]))) W4)) (PvL.cons (fun _ _ h=>gl h.2.2.1) (PvL.mono (Hb:=(fun W4=>Hb W4∧Res.holds (tP (tP noR (be (some ⟨f,0,none⟩) 2 111 2 2 (encL THop_cells [(TH.mk 4 5),(TH.mk 4 6)]))) (be (some ⟨g,0,none⟩) 1 111 2 1 (encL THop_cells [(TH.mk 3 5)]))) W4)) (PvL.cons (fun _ _ h=>gl h.2.2.1) (PvL.mono (Hb:=(fun W4=>Hb W4∧Res.holds (tP noR (be (some ⟨f,0,none⟩) 2 111 2 2 (encL THop_cells [(TH.mk 4 5),(TH.mk 4 6)]))) W4)) (PvL.cons (fun _ _ h=>gl h.2.2.1) (PvL.mono (Hb:=(fun W4=>Hb W4∧Res.holds noR W4)) PvL.nil (fun _ _ h=>⟨h.1,h.2.1⟩))) (fun _ _ h=>⟨h.1,h.2.1⟩))) (fun _ _ h=>⟨h.1,h.2.1⟩))) (fun _ _ h=>⟨h.1,h.2.1⟩)))⟩,O,w.pickL [1,7,6] (by decide) O⟩)
theorem rb (p0:TL) (res:(Int × Int)) (h:jR p0=some res) (W:World) (Aa:Option Addr) (u ca:Nat) (D:u=p0.fNo.length) (d:Rd W Aa u ca (encL TNode_cells p0.fNo)) (Ab:Option Addr) (w cb:Nat) (g:List (Hd × TC)) (E:w=p0.fC.length) (o:Rd W Ab w cb (encL TClaim_cells2 g)) (r:NestW W (fun z:TC=>z.fO) THop_cells g p0.fC) :
  Calls Tryz.prog 60 [.agg #[.slice Aa u ca,.slice Ab w cb]].toArray W fun e W2=>e=.returned (.tuple #[vI res.1,vI res.2])∧Ext W W2 []:=by
 subst D
 subst E
 unfold jR at h
 refine il (m:=17) Tryz.func60 O O (nB O) (cS (cR ?_))
 refine aO [.slice Aa p0.fNo.length ca,.slice Ab p0.fC.length cb] O O O (fun Q=>?_)
 refine oY O (yAI O) (oY O (yAI O) (oN (aa (cS (cS (cR (oY O (yN 0 [.slice Aa p0.fNo.length ca,.slice Ab p0.fC.length cb] aR O O O) ?_)))))))
 obtain⟨U,K,h⟩:=bOs h
 refine oY O (yC [.agg #[.slice Aa p0.fNo.length ca,.slice Ab p0.fC.length cb]] go_61 O (fun W2 f=>lc p0 U K W2 Aa p0.fNo.length ca O ((RdL.arg d) W2 f) Ab p0.fC.length cb g O ((RdL.arg o) W2 f) (NestL.at (NestL.arg r) W2 f)) O) (oY O (yAI O) (oN (aa (cS (cR (oY O (yMI O) (oY O (ft O O) (oN (aa ?_)))))))))
 rcases iOs h with⟨F,h⟩|⟨F,h⟩
 ·refine cT (vB F) (cS (cR (oY O (yMI O) (oY O (yAI O) (oY O (yAI O) (oN (aa (aq (ab (ex_M0 (.inl O) ?_))))))))))
  obtain rfl:=sI h
  exact dA (.inl O) O (rVt (v:=vI 0) O) (rVt (v:=vI U) O) (fun W2 f=>⟨O,f.none⟩)
 ·refine cF (vB F) (cK (aa (cS (cR ?_))))
  refine aT j7 O (fun X=>?_)
  refine d9 O (cL 1 (v:=vI 0) rI O (Nat.lt_of_lt_of_le (Nat.lt_succ_self _) (nB O)) O O O) (oN (aa (cS (cS (cR (oY O (yN 0 [.slice Aa p0.fNo.length ca,.slice Ab p0.fC.length cb] aR O O O) ?_))))))
  obtain⟨Y,M,h⟩:=bOs h
  refine cD [.agg #[.slice Aa p0.fNo.length ca,.slice Ab p0.fC.length cb]] _ _ O go_86 O (fun W2 f=>fo p0 Y M W2 Aa p0.fNo.length ca O ((RdL.arg d) W2 f) Ab p0.fC.length cb g O ((RdL.arg o) W2 f) (NestL.at (NestL.arg r) W2 f)) ?_
  rintro I
  refine oN (aa (ae ?_))
  obtain⟨hok23,h⟩:=gOs h
  obtain⟨Z,G,h⟩:=bOs h
  refine mr (caps:=[.pointer (some ⟨I,0,none⟩)]) (fun(s:Int) L=>L=[aj Q 25 [.slice Aa p0.fNo.length ca,.slice Ab p0.fC.length cb],aj X 3 [vI s],aj I 25 [.slice Aa p0.fNo.length ca,.slice Ab p0.fC.length cb]]) (fun(_:Unit) _ _=>False) G O rU (dx p0 hok23 I Aa p0.fNo.length ca Ab p0.fC.length cb O g r.p) (fun W2 s L hI f=>by obtain rfl:=hI;exact⟨(RdL.cells 2 O) W2 f,(RdL.arg o) W2 f⟩) O (fun _ _ _ h=>h.elim) ?_ ?_ ?_
  ·rintro D9 l10 rec11 V T H S L st hrec12 rfl h
   unfold iH at h
   refine cK (nj 4 O hrec12 (ae (cR ?_)))
   try dsimp only[lna,lca,lsz,lss]
   refine oY O (yL 1 bW O O O) (oY O (bF O O) (d9 O (cL 1 (v:=vI (w64 (H+1))) rI O (Nat.lt_of_lt_of_le (Nat.lt_succ_self _) (nB O)) O O O) (oN (au ?_))))
   obtain rfl:=sI h
   exact mK [aj Q 25 [.slice Aa p0.fNo.length ca,.slice Ab p0.fC.length cb],aj X 3 [vI (w64 (H+1))],aj I 25 [.slice Aa p0.fNo.length ca,.slice Ab p0.fC.length cb]] O
  ·rintro D9 N L hst rfl
   subst hst
   dsimp only at h
   refine au (aa (cS (cR (oY O (yL 1 bW O O O) (oY O (yAI O) (oY O (yAI O) (oN (aa (aq (tH 3 O (.inl O) ?_))))))))))
   obtain rfl:=sI h
   exact dA (.inl O) O (rVt (v:=vI N) O) (rVt (v:=vI 0) O) (fun W2 f=>⟨O,f.none⟩)
  ·intro D9 t e L _ hh
   exact hh.elim
theorem pw  (res:Bool) (h:fR=some res) (W:World)  :
  Calls Tryz.prog 13 [].toArray W fun e W2=>e=.returned (.bool res)∧Ext W W2 []:=by
 unfold fR at h
 refine ah (m:=188) Tryz.func13 O O (nB O) (cS (cR (oY O (yAB O) (oN (aa (cS (cR ?_)))))))
 obtain⟨w,uz,h⟩:=bOs h
 refine oC [] _ _ _ O go_59 O (fun W2 f=>nv  w uz W2 W (fun _=>True) (fun W3 hb=>⟨pG f.below hb,trivial⟩) ) ?_
 rintro⟨⟨j,n9,k⟩,⟨E,ui,F⟩,t,F17⟩ ⟨om,ot,a,z⟩
 replace om:n9=w.fNo.length:=om;subst om
 replace ot:ui=w.fC.length:=ot;subst ot
 refine aT tj O (fun d6=>?_)
 refine d9 O (yS 3 [.slice j w.fNo.length k,.slice E w.fC.length F] sz_25 O (nB O) O O O) (oN (aa (cS (cR (oY O (yN 3 [.slice j w.fNo.length k,.slice E w.fC.length F] aR O O O) ?_)))))
 obtain⟨u,uo,h⟩:=bOs h
 refine oY O (yC [.agg #[.slice j w.fNo.length k,.slice E w.fC.length F]] go_60 O (fun W2 f=>rb w u uo W2 j w.fNo.length k O ((RdL.row 0 O) W2 f) E w.fC.length F t O ((RdL.row 1 O) W2 f) (NestL.at (PvL.nestL a z (fun W2 f=>⟨f.below,trivial,f.mem (i:=2) O⟩)) W2 f)) O) (oY O (bD O) (oY O (yE O O) (oY O (yE O O) (oY O (yAI O) (oY O (yAI O) (oN (aa (cS (cR (oY O (yN 3 [.slice j w.fNo.length k,.slice E w.fC.length F] aR O O O) ?_))))))))))
 refine az 1 (encL cI [1]) _ go bj j7 kY (by decide) (by decide) (by kernel_rfl) (eL ax O) O (fun ur=>?_)
 obtain⟨G,uu,h⟩:=bOs h
 refine oC [.agg #[.slice j w.fNo.length k,.slice E w.fC.length F],.slice (some ⟨ur,0,none⟩) 1 1] _ _ _ O go_34 O (fun W2 f=>qd w [1] G uu W2 j w.fNo.length k O ((RdL.row 0 O) W2 f) E w.fC.length F t O ((RdL.row 1 O) W2 f) (NestL.at (PvL.nestL a z (fun W2 f=>⟨f.below,trivial,f.mem (i:=2) O⟩)) W2 f) (some ⟨ur,0,none⟩) 1 1 O ((RdL.row 4 O) W2 f)) ?_
 rintro⟨o0,uj,o1⟩ oa
 replace oa:uj=G.1.length:=oa;subst oa
 try dsimp only[lna,lca,lsz,lss]
 refine oY O (bD O) (oY O (yE O O) (oY O (yE O O) (oY O (yAS O) (oY O (yAI O) (oN (aa (cS (cR (oY O (yN 3 [.slice j w.fNo.length k,.slice E w.fC.length F] aR O O O) ?_)))))))))
 refine az 1 (encL cI [2]) _ go bj j7 kY (by decide) (by decide) (by kernel_rfl) (eL ax O) O (fun ud=>?_)
 try dsimp only[lna,lca,lsz,lss]
 obtain⟨H,uw,h⟩:=bOs h
 refine oC [.agg #[.slice j w.fNo.length k,.slice E w.fC.length F],.slice (some ⟨ud,0,none⟩) 1 1] _ _ _ O go_36 O (fun W2 f=>oz w [2] H uw W2 j w.fNo.length k O ((RdL.row 0 O) W2 f) E w.fC.length F t O ((RdL.row 1 O) W2 f) (NestL.at (PvL.nestL a z (fun W2 f=>⟨f.below,trivial,f.mem (i:=2) O⟩)) W2 f) (some ⟨ud,0,none⟩) 1 1 O ((RdL.row 6 O) W2 f)) ?_
 rintro⟨oq,uk,op⟩ oi
 replace oi:uk=H.1.length:=oi;subst oi
 try dsimp only[lna,lca,lsz,lss]
 refine oY O (bD O) (oY O (yE O O) (oY O (yE O O) (oY O (yAS O) (oY O (yAI O) (oN (aa (cS (cR (oY O (yN 3 [.slice j w.fNo.length k,.slice E w.fC.length F] aR O O O) ?_)))))))))
 refine az 1 (encL cI [1]) _ go bj j7 kY (by decide) (by decide) (by kernel_rfl) (eL ax O) O (fun uD=>?_)
 try dsimp only[lna,lca,lsz,lss]
 obtain⟨I,uE,h⟩:=bOs h
 refine oC [.agg #[.slice j w.fNo.length k,.slice E w.fC.length F],.slice (some ⟨uD,0,none⟩) 1 1,vI 6] _ _ _ O go_20 O (fun W2 f=>q8 w [1] 6 I uE W2 j w.fNo.length k O ((RdL.row 0 O) W2 f) E w.fC.length F t O ((RdL.row 1 O) W2 f) (NestL.at (PvL.nestL a z (fun W2 f=>⟨f.below,trivial,f.mem (i:=2) O⟩)) W2 f) (some ⟨uD,0,none⟩) 1 1 O ((RdL.row 8 O) W2 f)) ?_
 rintro⟨ga,ux,gb⟩ oj
 replace oj:ux=I.1.length:=oj;subst oj
 try dsimp only[lna,lca,lsz,lss]
 refine oY O (bD O) (oY O (yE O O) (oY O (yE O O) (oY O (yAS O) (oY O (yAI O) (oN (aa (cS (cR (oY O (yN 3 [.slice j w.fNo.length k,.slice E w.fC.length F] aR O O O) ?_)))))))))
 refine az 1 (encL cI [1]) _ go bj j7 kY (by decide) (by decide) (by kernel_rfl) (eL ax O) O (fun uF=>?_)
 try dsimp only[lna,lca,lsz,lss]
 obtain⟨K,uG,h⟩:=bOs h
 refine oC [.agg #[.slice j w.fNo.length k,.slice E w.fC.length F],.slice (some ⟨uF,0,none⟩) 1 1,vI 6] _ _ _ O go_22 O (fun W2 f=>qs w [1] 6 K uG W2 j w.fNo.length k O ((RdL.row 0 O) W2 f) E w.fC.length F t O ((RdL.row 1 O) W2 f) (NestL.at (PvL.nestL a z (fun W2 f=>⟨f.below,trivial,f.mem (i:=2) O⟩)) W2 f) (some ⟨uF,0,none⟩) 1 1 O ((RdL.row 10 O) W2 f)) ?_
 rintro⟨g3,uy,gf⟩ ok
 replace ok:uy=K.1.length:=ok;subst ok
 try dsimp only[lna,lca,lsz,lss]
 refine oY O (bD O) (oY O (yE O O) (oY O (yE O O) (oY O (yAS O) (oY O (yAI O) (oN (aa (cS (cR (oY O (yN 3 [.slice j w.fNo.length k,.slice E w.fC.length F] aR O O O) ?_)))))))))
 refine az 1 (encL cI [1]) _ go bj j7 kY (by decide) (by decide) (by kernel_rfl) (eL ax O) O (fun uH=>?_)
 try dsimp only[lna,lca,lsz,lss]
 obtain⟨M,uI,h⟩:=bOs h
 refine oC [.agg #[.slice j w.fNo.length k,.slice E w.fC.length F],.slice (some ⟨uH,0,none⟩) 1 1,vI 5] _ _ _ O go_28 O (fun W2 f=>sW w [1] 5 M uI W2 j w.fNo.length k O ((RdL.row 0 O) W2 f) E w.fC.length F t O ((RdL.row 1 O) W2 f) (NestL.at (PvL.nestL a z (fun W2 f=>⟨f.below,trivial,f.mem (i:=2) O⟩)) W2 f) (some ⟨uH,0,none⟩) 1 1 O ((RdL.row 12 O) W2 f)) ?_
 rintro⟨f0,ub,f1⟩ r0
 replace r0:ub=M.1.length:=r0;subst r0
 try dsimp only[lna,lca,lsz,lss]
 refine oY O (bD O) (oY O (yE O O) (oY O (yE O O) (oY O (yAS O) (oY O (yAI O) (oN (aa (cS (cR (oY O (yN 3 [.slice j w.fNo.length k,.slice E w.fC.length F] aR O O O) ?_)))))))))
 refine az 1 (encL cI [2]) _ go bj j7 kY (by decide) (by decide) (by kernel_rfl) (eL ax O) O (fun uK=>?_)
 try dsimp only[lna,lca,lsz,lss]
 obtain⟨D,uM,h⟩:=bOs h
 refine oY O (yC [.agg #[.slice j w.fNo.length k,.slice E w.fC.length F],.slice (some ⟨uK,0,none⟩) 1 1,vI 5] go_24 O (fun W2 f=>qF w [2] 5 D uM W2 j w.fNo.length k O ((RdL.row 0 O) W2 f) E w.fC.length F t O ((RdL.row 1 O) W2 f) (NestL.at (PvL.nestL a z (fun W2 f=>⟨f.below,trivial,f.mem (i:=2) O⟩)) W2 f) (some ⟨uK,0,none⟩) 1 1 O ((RdL.row 14 O) W2 f)) O) (oY O (bD O) (oY O (yE O O) (oY O (yE O O) ?_)))
 refine aT ze_48 O (fun p=>?_)
 try dsimp only[lna,lca,lsz,lss]
 refine d9 O (yS 15 [vI D.1.fNum,vI D.1.fDen] sz_48 O (nB O) O O O) (oY O (yAI O) (oN (aa (cS (cR (oY O (yN 3 [.slice j w.fNo.length k,.slice E w.fC.length F] aR O O O) ?_))))))
 refine az 1 (encL cI [1]) _ go bj j7 kY (by decide) (by decide) (by kernel_rfl) (eL ax O) O (fun uN=>?_)
 try dsimp only[lna,lca,lsz,lss]
 obtain⟨r,uO,h⟩:=bOs h
 refine oC [.agg #[.slice j w.fNo.length k,.slice E w.fC.length F],.slice (some ⟨uN,0,none⟩) 1 1,.bool false] _ _ _ O go_17 O (fun W2 f=>pV w [1] false r uO W2 j w.fNo.length k O ((RdL.row 0 O) W2 f) E w.fC.length F t O ((RdL.row 1 O) W2 f) (NestL.at (PvL.nestL a z (fun W2 f=>⟨f.below,trivial,f.mem (i:=2) O⟩)) W2 f) (some ⟨uN,0,none⟩) 1 1 O ((RdL.row 16 O) W2 f)) ?_
 rintro⟨f2,uc,f3⟩ r1
 replace r1:uc=r.1.length:=r1;subst r1
 try dsimp only[lna,lca,lsz,lss]
 refine oY O (bD O) (oY O (yE O O) (oY O (yE O O) (oY O (yE O O) (oY O (yAS O) (oY O (yAI O) (oY O (yAI O) (oN (aa (cS (cR (oY O (yN 3 [.slice j w.fNo.length k,.slice E w.fC.length F] aR O O O) ?_)))))))))))
 refine az 1 (encL cI [1]) _ go bj j7 kY (by decide) (by decide) (by kernel_rfl) (eL ax O) O (fun uQ=>?_)
 try dsimp only[lna,lca,lsz,lss]
 obtain⟨o,uU,h⟩:=bOs h
 refine oY O (yC [.agg #[.slice j w.fNo.length k,.slice E w.fC.length F],.slice (some ⟨uQ,0,none⟩) 1 1] go_26 O (fun W2 f=>sJ w [1] o uU W2 j w.fNo.length k O ((RdL.row 0 O) W2 f) E w.fC.length F t O ((RdL.row 1 O) W2 f) (NestL.at (PvL.nestL a z (fun W2 f=>⟨f.below,trivial,f.mem (i:=2) O⟩)) W2 f) (some ⟨uQ,0,none⟩) 1 1 O ((RdL.row 18 O) W2 f)) O) (oY O (bD O) (oY O (yE O O) (oY O (yE O O) (oY O (yE O O) (oY O (yAI O) (oY O (yAI O) (oY O (yAI O) (oN (aa (cS (cR (oY O (yN 3 [.slice j w.fNo.length k,.slice E w.fC.length F] aR O O O) ?_))))))))))))
 obtain⟨d,uX,h⟩:=bOs h
 refine oC [.agg #[.slice j w.fNo.length k,.slice E w.fC.length F],vI 5] _ _ _ O go_15 O (fun W2 f=>pr w 5 d uX W2 j w.fNo.length k O ((RdL.row 0 O) W2 f) E w.fC.length F t O ((RdL.row 1 O) W2 f) (NestL.at (PvL.nestL a z (fun W2 f=>⟨f.below,trivial,f.mem (i:=2) O⟩)) W2 f)) ?_
 rintro⟨⟨x,d0,y⟩,⟨n,d1,l⟩⟩ ⟨r2,r3⟩
 replace r2:d0=d.1.length:=r2;subst r2
 replace r3:d1=d.2.1.length:=r3;subst r3
 try dsimp only[lna,lca,lsz,lss]
 refine oY O (bD O) (oY O (yE O O) (oY O (yE O O) (oY O (yE O O) (oY O (yAS O) (oY O (yAS O) (oY O (yAI O) (oN (aa (cS (cS (cR (oY O (yMI O) (oY O (ft O O) (oY O (yMB O) ?_))))))))))))))
 refine oJ 3 (fun g=>(upd (upd (upd (upd (upd (upd (upd (upd (upd (upd (upd (upd (upd (upd (upd (upd (upd (upd (upd (upd (upd (upd (upd g 0 (.bool false)) 2 (vI u.1)) 4 (.slice o0 G.1.length o1)) 6 (.slice oq H.1.length op)) 7 (vI H.2)) 8 (.slice ga I.1.length gb)) 9 (vI I.2)) 10 (.slice g3 K.1.length gf)) 11 (vI K.2)) 12 (.slice f0 M.1.length f1)) 13 (vI M.2)) 14 (.pointer (some ⟨p,0,none⟩))) 15 (vI D.2)) 16 (.slice f2 r.1.length f3)) 17 (vI r.2.1)) 18 (vI r.2.2)) 19 (vI o.1)) 20 (vI o.2.1)) 21 (vI o.2.2)) 22 (.slice x d.1.length y)) 23 (.slice n d.2.1.length l)) 24 (vI d.2.2)) 94 (.bool ((u.2 !=0)||(G.2 !=0))))) (fun g=>?_) (fun key=>?_)
 ·refine oY O (yMB O) ?_
  refine oJ 3 (fun g=>(upd (upd (upd (upd (upd (upd (upd (upd (upd (upd (upd (upd (upd (upd (upd (upd (upd (upd (upd (upd (upd (upd g 0 (.bool false)) 2 (vI u.1)) 4 (.slice o0 G.1.length o1)) 6 (.slice oq H.1.length op)) 8 (.slice ga I.1.length gb)) 9 (vI I.2)) 10 (.slice g3 K.1.length gf)) 11 (vI K.2)) 12 (.slice f0 M.1.length f1)) 13 (vI M.2)) 14 (.pointer (some ⟨p,0,none⟩))) 15 (vI D.2)) 16 (.slice f2 r.1.length f3)) 17 (vI r.2.1)) 18 (vI r.2.2)) 19 (vI o.1)) 20 (vI o.2.1)) 21 (vI o.2.2)) 22 (.slice x d.1.length y)) 23 (.slice n d.2.1.length l)) 24 (vI d.2.2)) 98 (.bool (((u.2 !=0)||(G.2 !=0))||(H.2 !=0))))) (fun g=>?_) (fun key=>?_)
  ·refine oY O (yMB O) ?_
   refine oJ 3 (fun g=>(upd (upd (upd (upd (upd (upd (upd (upd (upd (upd (upd (upd (upd (upd (upd (upd (upd (upd (upd (upd (upd g 0 (.bool false)) 2 (vI u.1)) 4 (.slice o0 G.1.length o1)) 6 (.slice oq H.1.length op)) 8 (.slice ga I.1.length gb)) 10 (.slice g3 K.1.length gf)) 11 (vI K.2)) 12 (.slice f0 M.1.length f1)) 13 (vI M.2)) 14 (.pointer (some ⟨p,0,none⟩))) 15 (vI D.2)) 16 (.slice f2 r.1.length f3)) 17 (vI r.2.1)) 18 (vI r.2.2)) 19 (vI o.1)) 20 (vI o.2.1)) 21 (vI o.2.2)) 22 (.slice x d.1.length y)) 23 (.slice n d.2.1.length l)) 24 (vI d.2.2)) 102 (.bool ((((u.2 !=0)||(G.2 !=0))||(H.2 !=0))||(I.2 !=0))))) (fun g=>?_) (fun key=>?_)
   ·refine oY O (yMB O) ?_
    refine oJ 3 (fun g=>(upd (upd (upd (upd (upd (upd (upd (upd (upd (upd (upd (upd (upd (upd (upd (upd (upd (upd (upd (upd g 0 (.bool false)) 2 (vI u.1)) 4 (.slice o0 G.1.length o1)) 6 (.slice oq H.1.length op)) 8 (.slice ga I.1.length gb)) 10 (.slice g3 K.1.length gf)) 12 (.slice f0 M.1.length f1)) 13 (vI M.2)) 14 (.pointer (some ⟨p,0,none⟩))) 15 (vI D.2)) 16 (.slice f2 r.1.length f3)) 17 (vI r.2.1)) 18 (vI r.2.2)) 19 (vI o.1)) 20 (vI o.2.1)) 21 (vI o.2.2)) 22 (.slice x d.1.length y)) 23 (.slice n d.2.1.length l)) 24 (vI d.2.2)) 106 (.bool (((((u.2 !=0)||(G.2 !=0))||(H.2 !=0))||(I.2 !=0))||(K.2 !=0))))) (fun g=>?_) (fun key=>?_)
    ·refine oY O (yMB O) ?_
     refine oJ 3 (fun g=>(upd (upd (upd (upd (upd (upd (upd (upd (upd (upd (upd (upd (upd (upd (upd (upd (upd (upd (upd g 0 (.bool false)) 2 (vI u.1)) 4 (.slice o0 G.1.length o1)) 6 (.slice oq H.1.length op)) 8 (.slice ga I.1.length gb)) 10 (.slice g3 K.1.length gf)) 12 (.slice f0 M.1.length f1)) 14 (.pointer (some ⟨p,0,none⟩))) 15 (vI D.2)) 16 (.slice f2 r.1.length f3)) 17 (vI r.2.1)) 18 (vI r.2.2)) 19 (vI o.1)) 20 (vI o.2.1)) 21 (vI o.2.2)) 22 (.slice x d.1.length y)) 23 (.slice n d.2.1.length l)) 24 (vI d.2.2)) 110 (.bool ((((((u.2 !=0)||(G.2 !=0))||(H.2 !=0))||(I.2 !=0))||(K.2 !=0))||(M.2 !=0))))) (fun g=>?_) (fun key=>?_)
     ·refine oY O (yMB O) ?_
      refine oJ 3 (fun g=>(upd (upd (upd (upd (upd (upd (upd (upd (upd (upd (upd (upd (upd (upd (upd (upd (upd (upd g 0 (.bool false)) 2 (vI u.1)) 4 (.slice o0 G.1.length o1)) 6 (.slice oq H.1.length op)) 8 (.slice ga I.1.length gb)) 10 (.slice g3 K.1.length gf)) 12 (.slice f0 M.1.length f1)) 14 (.pointer (some ⟨p,0,none⟩))) 16 (.slice f2 r.1.length f3)) 17 (vI r.2.1)) 18 (vI r.2.2)) 19 (vI o.1)) 20 (vI o.2.1)) 21 (vI o.2.2)) 22 (.slice x d.1.length y)) 23 (.slice n d.2.1.length l)) 24 (vI d.2.2)) 114 (.bool (((((((u.2 !=0)||(G.2 !=0))||(H.2 !=0))||(I.2 !=0))||(K.2 !=0))||(M.2 !=0))||(D.2 !=0))))) (fun g=>?_) (fun key=>?_)
      ·refine oY O (yMB O) ?_
       refine oJ 3 (fun g=>(upd (upd (upd (upd (upd (upd (upd (upd (upd (upd (upd (upd (upd (upd (upd (upd (upd g 0 (.bool false)) 2 (vI u.1)) 4 (.slice o0 G.1.length o1)) 6 (.slice oq H.1.length op)) 8 (.slice ga I.1.length gb)) 10 (.slice g3 K.1.length gf)) 12 (.slice f0 M.1.length f1)) 14 (.pointer (some ⟨p,0,none⟩))) 16 (.slice f2 r.1.length f3)) 17 (vI r.2.1)) 19 (vI o.1)) 20 (vI o.2.1)) 21 (vI o.2.2)) 22 (.slice x d.1.length y)) 23 (.slice n d.2.1.length l)) 24 (vI d.2.2)) 118 (.bool ((((((((u.2 !=0)||(G.2 !=0))||(H.2 !=0))||(I.2 !=0))||(K.2 !=0))||(M.2 !=0))||(D.2 !=0))||(r.2.2 !=0))))) (fun g=>?_) (fun key=>?_)
       ·refine oY O (yMB O) ?_
        refine oJ 3 (fun g=>(upd (upd (upd (upd (upd (upd (upd (upd (upd (upd (upd (upd (upd (upd (upd (upd g 0 (.bool false)) 2 (vI u.1)) 4 (.slice o0 G.1.length o1)) 6 (.slice oq H.1.length op)) 8 (.slice ga I.1.length gb)) 10 (.slice g3 K.1.length gf)) 12 (.slice f0 M.1.length f1)) 14 (.pointer (some ⟨p,0,none⟩))) 16 (.slice f2 r.1.length f3)) 17 (vI r.2.1)) 19 (vI o.1)) 20 (vI o.2.1)) 22 (.slice x d.1.length y)) 23 (.slice n d.2.1.length l)) 24 (vI d.2.2)) 122 (.bool (((((((((u.2 !=0)||(G.2 !=0))||(H.2 !=0))||(I.2 !=0))||(K.2 !=0))||(M.2 !=0))||(D.2 !=0))||(r.2.2 !=0))||(o.2.2 !=0))))) (fun g=>?_) (fun key=>?_)
        ·refine oY O (yMB O) ?_
         refine oJ 3 (fun g=>(upd (upd (upd (upd (upd (upd (upd (upd (upd (upd (upd (upd (upd (upd (upd g 0 (.bool false)) 2 (vI u.1)) 4 (.slice o0 G.1.length o1)) 6 (.slice oq H.1.length op)) 8 (.slice ga I.1.length gb)) 10 (.slice g3 K.1.length gf)) 12 (.slice f0 M.1.length f1)) 14 (.pointer (some ⟨p,0,none⟩))) 16 (.slice f2 r.1.length f3)) 17 (vI r.2.1)) 19 (vI o.1)) 20 (vI o.2.1)) 22 (.slice x d.1.length y)) 23 (.slice n d.2.1.length l)) 126 (.bool ((((((((((u.2 !=0)||(G.2 !=0))||(H.2 !=0))||(I.2 !=0))||(K.2 !=0))||(M.2 !=0))||(D.2 !=0))||(r.2.2 !=0))||(o.2.2 !=0))||(d.2.2 !=0))))) (fun g=>?_) (fun key=>?_)
         ·refine oN (aa ?_)
          rcases iOs h with⟨r4,h⟩|⟨r4,h⟩
          ·refine cT (vB r4) (cS (cR (oY O (yAB O) (oN (aa (aq (ab ?_)))))))
           obtain rfl:=sI h
           exact ao (.inl O) O (rVt (v:=.bool false) O) (fun W2 f=>⟨O,f.none⟩)
          ·refine cF (vB r4) (cK (aa (cS (cR (oY O (yMS O) ?_)))))
           refine az 3 (encL cI [1,3,5]) _ mc_3_3 bj j7 kY (by decide) (by decide) (by kernel_rfl) (eL ax O) O (fun uY=>?_)
           try dsimp only[lna,lca,lsz,lss]
           obtain⟨d2,uZ,h⟩:=bOs h
           refine oY O (yC [.slice o0 G.1.length o1,.slice (some ⟨uY,0,none⟩) 3 3] tF O (fun W2 f=>cx G.1 [1,3,5] d2 uZ W2 o0 G.1.length o1 O ((RdL.row 5 O) W2 f) (some ⟨uY,0,none⟩) 3 3 O ((RdL.row 21 O) W2 f)) O) (oY O (yMB O) ?_)
           obtain⟨d3,uV,h⟩:=bOs h
           refine oJ 4 (fun g=>(upd (upd (upd (upd (upd (upd (upd (upd (upd (upd (upd (upd (upd g 0 (.bool false)) 2 (vI u.1)) 8 (.slice ga I.1.length gb)) 10 (.slice g3 K.1.length gf)) 12 (.slice f0 M.1.length f1)) 14 (.pointer (some ⟨p,0,none⟩))) 16 (.slice f2 r.1.length f3)) 17 (vI r.2.1)) 19 (vI o.1)) 20 (vI o.2.1)) 22 (.slice x d.1.length y)) 23 (.slice n d.2.1.length l)) 134 (.bool d3))) (fun g=>?_) (fun key=>?_)
           ·refine oY O (yMB O) ?_
            obtain⟨d4,uT,h⟩:=bOs h
            refine oJ 4 (fun g=>(upd (upd (upd (upd (upd (upd (upd (upd (upd (upd (upd (upd g 0 (.bool false)) 2 (vI u.1)) 10 (.slice g3 K.1.length gf)) 12 (.slice f0 M.1.length f1)) 14 (.pointer (some ⟨p,0,none⟩))) 16 (.slice f2 r.1.length f3)) 17 (vI r.2.1)) 19 (vI o.1)) 20 (vI o.2.1)) 22 (.slice x d.1.length y)) 23 (.slice n d.2.1.length l)) 139 (.bool d4))) (fun g=>?_) (fun key=>?_)
            ·refine oY O (yMB O) ?_
             obtain⟨N,u1,h⟩:=bOs h
             refine oJ 4 (fun g=>(upd (upd (upd (upd (upd (upd (upd (upd (upd (upd (upd g 0 (.bool false)) 2 (vI u.1)) 12 (.slice f0 M.1.length f1)) 14 (.pointer (some ⟨p,0,none⟩))) 16 (.slice f2 r.1.length f3)) 17 (vI r.2.1)) 19 (vI o.1)) 20 (vI o.2.1)) 22 (.slice x d.1.length y)) 23 (.slice n d.2.1.length l)) 144 (.bool N))) (fun g=>?_) (fun key=>?_)
             ·refine oY O (yAB O) (oN (aa (cS (cR (oY O (yMS O) ?_)))))
              refine az 2 (encL cI [13,14]) _ mc_3_2 bj j7 kY (by decide) (by decide) (by kernel_rfl) (eL ax O) O (fun r5=>?_)
              try dsimp only[lna,lca,lsz,lss]
              obtain⟨uS,u2,h⟩:=bOs h
              refine oY O (yC [.slice f0 M.1.length f1,.slice (some ⟨r5,0,none⟩) 2 2] tF O (fun W2 f=>cx M.1 [13,14] uS u2 W2 f0 M.1.length f1 O ((RdL.row 13 O) W2 f) (some ⟨r5,0,none⟩) 2 2 O ((RdL.row 22 O) W2 f)) O) (oY O (yMB O) ?_)
              obtain⟨uR,u3,h⟩:=bOs h
              refine oJ 4 (fun g=>(upd (upd (upd (upd (upd (upd (upd (upd (upd (upd g 0 (.bool false)) 2 (vI u.1)) 14 (.pointer (some ⟨p,0,none⟩))) 17 (vI r.2.1)) 19 (vI o.1)) 20 (vI o.2.1)) 22 (.slice x d.1.length y)) 23 (.slice n d.2.1.length l)) 25 (.bool N)) 152 (.bool uR))) (fun g=>?_) (fun key=>?_)
              ·refine oY O (yMB O) ?_
               obtain⟨uq,u4,h⟩:=bOs h
               refine oJ 4 (fun g=>(upd (upd (upd (upd (upd (upd (upd (upd (upd g 0 (.bool false)) 2 (vI u.1)) 14 (.pointer (some ⟨p,0,none⟩))) 17 (vI r.2.1)) 19 (vI o.1)) 20 (vI o.2.1)) 23 (.slice n d.2.1.length l)) 25 (.bool N)) 157 (.bool uq))) (fun g=>?_) (fun key=>?_)
               ·refine oY O (yMB O) ?_
                obtain⟨U,u5,h⟩:=bOs h
                refine oJ 4 (fun g=>(upd (upd (upd (upd (upd (upd (upd (upd g 0 (.bool false)) 2 (vI u.1)) 14 (.pointer (some ⟨p,0,none⟩))) 17 (vI r.2.1)) 19 (vI o.1)) 20 (vI o.2.1)) 25 (.bool N)) 162 (.bool U))) (fun g=>?_) (fun key=>?_)
                ·refine oY O (yAB O) (oN (aa (cS (cR (oY O (yMB O) (oY O (yMB O) ?_))))))
                 refine oJ 2 (fun g=>(upd (upd (upd (upd (upd (upd (upd g 0 (.bool false)) 2 (vI u.1)) 14 (.pointer (some ⟨p,0,none⟩))) 17 (vI r.2.1)) 19 (vI o.1)) 20 (vI o.2.1)) 166 (.bool (N&&U)))) (fun g=>?_) (fun key=>?_)
                 ·refine oY O (yMB O) ?_
                  refine oJ 3 (fun g=>(upd (upd (upd (upd (upd (upd g 0 (.bool false)) 14 (.pointer (some ⟨p,0,none⟩))) 17 (vI r.2.1)) 19 (vI o.1)) 20 (vI o.2.1)) 170 (.bool ((N&&U)&&(u.1==4))))) (fun g=>?_) (fun key=>?_)
                  ·refine oY O (yMB O) ?_
                   refine oJ 4 (fun g=>(upd (upd (upd (upd (upd g 0 (.bool false)) 17 (vI r.2.1)) 19 (vI o.1)) 20 (vI o.2.1)) 175 (.bool (((N&&U)&&(u.1==4))&&((D.1.fNum==1)&&(D.1.fDen==4)))))) (fun g=>?_) (fun key=>?_)
                   ·refine oY O (yMB O) ?_
                    refine oJ 3 (fun g=>(upd (upd (upd (upd g 0 (.bool false)) 19 (vI o.1)) 20 (vI o.2.1)) 179 (.bool ((((N&&U)&&(u.1==4))&&((D.1.fNum==1)&&(D.1.fDen==4)))&&(r.2.1==17))))) (fun g=>?_) (fun key=>?_)
                    ·refine oY O (yMB O) ?_
                     refine oJ 3 (fun g=>(upd (upd (upd g 0 (.bool false)) 20 (vI o.2.1)) 183 (.bool (((((N&&U)&&(u.1==4))&&((D.1.fNum==1)&&(D.1.fDen==4)))&&(r.2.1==17))&&(o.1==12))))) (fun g=>?_) (fun key=>?_)
                     ·refine oY O (yMB O) ?_
                      refine oJ 3 (fun g=>(upd (upd g 0 (.bool false)) 187 (.bool ((((((N&&U)&&(u.1==4))&&((D.1.fNum==1)&&(D.1.fDen==4)))&&(r.2.1==17))&&(o.1==12))&&(o.2.1==7))))) (fun g=>?_) (fun key=>?_)
                      ·refine oY O (yAB O) (oN (aa (aq ?_)))
                       obtain rfl:=sI h
                       exact ao (.inl O) O (rVt (v:=.bool ((((((N&&U)&&(u.1==4))&&((D.1.fNum==1)&&(D.1.fDen==4)))&&(r.2.1==17))&&(o.1==12))&&(o.2.1==7))) O) (fun W2 f=>⟨O,f.none⟩)
                      ·rcases aD (((((N&&U)&&(u.1==4))&&((D.1.fNum==1)&&(D.1.fDen==4)))&&(r.2.1==17))&&(o.1==12))with X|X
                       ·refine oY (sT O O O O X) (yMI O) (oY (sT O O O O X) (ge O O) (oY O (ar (vB X) O) ?_))
                        exact key _ _ (keep (keep O O) (vB (mq X)))
                       ·refine oSk (sF O O O O X) (oSk (sF O O O O X) (oY O (ap (vB X) O) ?_))
                        exact key _ _ (keep (keep O O) (vB (mb X)))
                     ·rcases aD ((((N&&U)&&(u.1==4))&&((D.1.fNum==1)&&(D.1.fDen==4)))&&(r.2.1==17))with Y|Y
                      ·refine oY (sT O O O O Y) (yMI O) (oY (sT O O O O Y) (ge O O) (oY O (ar (vB Y) O) ?_))
                       exact key _ _ (keep (keep (keep O O) O) (vB (mq Y)))
                      ·refine oSk (sF O O O O Y) (oSk (sF O O O O Y) (oY O (ap (vB Y) O) ?_))
                       exact key _ _ (keep (keep (keep O O) O) (vB (mb Y)))
                    ·rcases aD (((N&&U)&&(u.1==4))&&((D.1.fNum==1)&&(D.1.fDen==4)))with Z|Z
                     ·refine oY (sT O O O O Z) (yMI O) (oY (sT O O O O Z) (ge O O) (oY O (ar (vB Z) O) ?_))
                      exact key _ _ (keep (keep (keep (keep O O) O) O) (vB (mq Z)))
                     ·refine oSk (sF O O O O Z) (oSk (sF O O O O Z) (oY O (ap (vB Z) O) ?_))
                      exact key _ _ (keep (keep (keep (keep O O) O) O) (vB (mb Z)))
                   ·rcases aD ((N&&U)&&(u.1==4))with Q|Q
                    ·refine oY (sT O O O O Q) (yN 15 [vI D.1.fNum,vI D.1.fDen] ag_48 O O O) ?_
                     refine oY (sT O O O O Q) (cf [vI 1,vI 4] [(0,1),(1,1)] ust_48 ze_48 (by kernel_rfl)) ?_
                     refine oY (sT O O O O Q) (y_eqla (b:=((D.1.fNum==1)&&(D.1.fDen==4))) eg_48 O O (fun _=>(eqS2 fl_48 (qb bW O) (qb bW O) (qb bW O) (qb bW O) (run_equalIn_int _ _ _ _ _ _ _ ui_3) (run_equalIn_int _ _ _ _ _ _ _ ui_3)))) (oY O (ar (vB Q) O) ?_)
                     exact key _ _ (keep (keep (keep (keep (keep O O) O) O) O) (vB (mq Q)))
                    ·refine oSk (sF O O O O Q) (oSk (sF O O O O Q) (oSk (sF O O O O Q) (oY O (ap (vB Q) O) ?_)))
                     exact key _ _ (keep (keep (keep (keep (keep O O) O) O) O) (vB (mb Q)))
                  ·rcases aD (N&&U)with V|V
                   ·refine oY (sT O O O O V) (yMI O) (oY (sT O O O O V) (ge O O) (oY O (ar (vB V) O) ?_))
                    exact key _ _ (keep (keep (keep (keep (keep (keep O O) O) O) O) O) (vB (mq V)))
                   ·refine oSk (sF O O O O V) (oSk (sF O O O O V) (oY O (ap (vB V) O) ?_))
                    exact key _ _ (keep (keep (keep (keep (keep (keep O O) O) O) O) O) (vB (mb V)))
                 ·rcases aD N with c|c
                  ·refine oY (sT O O O O c) (yMB O) (oY O (ar (vB c) O) ?_)
                   exact key _ _ (keep (keep (keep (keep (keep (keep (keep O O) O) O) O) O) O) (vB (mq c)))
                  ·refine oSk (sF O O O O c) (oY O (ap (vB c) O) ?_)
                   exact key _ _ (keep (keep (keep (keep (keep (keep (keep O O) O) O) O) O) O) (vB (mb c)))
                ·clear h;rcases iOs u5 with⟨T,h⟩|⟨T,h⟩
                 ·refine oY (sT O O O O T) (yMS O) ?_
                  refine az 2 (encL cI [1,2]) _ mc_3_2 bj j7 kY (by decide) (by decide) (by kernel_rfl) (eL ax O) (sT O O O O T) (fun r6=>?_)
                  try dsimp only[lna,lca,lsz,lss]
                  obtain⟨up,u6,h⟩:=bOs h
                  refine oY (sT O O O O T) (yC [.slice n d.2.1.length l,.slice (some ⟨r6,0,none⟩) 2 2] tF O (fun W2 f=>cx d.2.1 [1,2] up u6 W2 n d.2.1.length l O ((RdL.row 20 O) W2 f) (some ⟨r6,0,none⟩) 2 2 O ((RdL.row 23 O) W2 f)) O) (oY O (ar (vB T) O) ?_)
                  obtain rfl:=sI h
                  refine pA 23 ?_
                  exact key _ _ (kp4 (kp4 O))
                 ·refine oSk (sF O O O O T) (oSk (sF O O O O T) (oSk (sF O O O O T) (oY O (ap (vB T) O) ?_)))
                  obtain rfl:=sI h
                  exact key _ _ (kp4 (kp4 O))
               ·clear h;rcases iOs u4 with⟨S,h⟩|⟨S,h⟩
                ·refine oY (sT O O O O S) (yMS O) ?_
                 refine az 1 (encL cI [1]) _ go bj j7 kY (by decide) (by decide) (by kernel_rfl) (eL ax O) (sT O O O O S) (fun rd=>?_)
                 try dsimp only[lna,lca,lsz,lss]
                 obtain⟨un,u7,h⟩:=bOs h
                 refine oY (sT O O O O S) (yC [.slice x d.1.length y,.slice (some ⟨rd,0,none⟩) 1 1] tF O (fun W2 f=>cx d.1 [1] un u7 W2 x d.1.length y O ((RdL.row 19 O) W2 f) (some ⟨rd,0,none⟩) 1 1 O ((RdL.row 23 O) W2 f)) O) (oY O (ar (vB S) O) ?_)
                 obtain rfl:=sI h
                 refine pA 23 ?_
                 exact key _ _ (kp4 (kp4 (kp O)))
                ·refine oSk (sF O O O O S) (oSk (sF O O O O S) (oSk (sF O O O O S) (oY O (ap (vB S) O) ?_)))
                 obtain rfl:=sI h
                 exact key _ _ (kp4 (kp4 (kp O)))
              ·clear h;rcases iOs u3 with⟨R,h⟩|⟨R,h⟩
               ·refine oY (sT O O O O R) (yMS O) ?_
                refine az 2 (encL cI [5,6]) _ mc_3_2 bj j7 kY (by decide) (by decide) (by kernel_rfl) (eL ax O) (sT O O O O R) (fun ri=>?_)
                try dsimp only[lna,lca,lsz,lss]
                obtain⟨um,u8,h⟩:=bOs h
                refine oY (sT O O O O R) (yC [.slice f2 r.1.length f3,.slice (some ⟨ri,0,none⟩) 2 2] tF O (fun W2 f=>cx r.1 [5,6] um u8 W2 f2 r.1.length f3 O ((RdL.row 17 O) W2 f) (some ⟨ri,0,none⟩) 2 2 O ((RdL.row 23 O) W2 f)) O) (oY O (ar (vB R) O) ?_)
                obtain rfl:=sI h
                refine pA 23 ?_
                exact key _ _ (kp4 (kp4 (kp (kp O))))
               ·refine oSk (sF O O O O R) (oSk (sF O O O O R) (oSk (sF O O O O R) (oY O (ap (vB R) O) ?_)))
                obtain rfl:=sI h
                exact key _ _ (kp4 (kp4 (kp (kp O))))
             ·clear h;rcases iOs u1 with⟨q,h⟩|⟨q,h⟩
              ·refine oY (sT O O O O q) (yMS O) ?_
               refine az 1 (encL cI [4]) _ go bj j7 kY (by decide) (by decide) (by kernel_rfl) (eL ax O) (sT O O O O q) (fun rj=>?_)
               try dsimp only[lna,lca,lsz,lss]
               obtain⟨ul,u9,h⟩:=bOs h
               refine oY (sT O O O O q) (yC [.slice g3 K.1.length gf,.slice (some ⟨rj,0,none⟩) 1 1] tF O (fun W2 f=>cx K.1 [4] ul u9 W2 g3 K.1.length gf O ((RdL.row 11 O) W2 f) (some ⟨rj,0,none⟩) 1 1 O ((RdL.row 22 O) W2 f)) O) (oY O (ar (vB q) O) ?_)
               obtain rfl:=sI h
               refine pA 22 ?_
               exact key _ _ (kp4 (kp4 (kp (kp (kp O)))))
              ·refine oSk (sF O O O O q) (oSk (sF O O O O q) (oSk (sF O O O O q) (oY O (ap (vB q) O) ?_)))
               obtain rfl:=sI h
               exact key _ _ (kp4 (kp4 (kp (kp (kp O)))))
            ·clear h;rcases iOs uT with⟨f4,h⟩|⟨f4,h⟩
             ·refine oY (sT O O O O f4) (yMS O) ?_
              refine az 2 (encL cI [12,14]) _ mc_3_2 bj j7 kY (by decide) (by decide) (by kernel_rfl) (eL ax O) (sT O O O O f4) (fun rx=>?_)
              try dsimp only[lna,lca,lsz,lss]
              obtain⟨ut,uf,h⟩:=bOs h
              refine oY (sT O O O O f4) (yC [.slice ga I.1.length gb,.slice (some ⟨rx,0,none⟩) 2 2] tF O (fun W2 f=>cx I.1 [12,14] ut uf W2 ga I.1.length gb O ((RdL.row 9 O) W2 f) (some ⟨rx,0,none⟩) 2 2 O ((RdL.row 22 O) W2 f)) O) (oY O (ar (vB f4) O) ?_)
              obtain rfl:=sI h
              refine pA 22 ?_
              exact key _ _ (kp4 (kp4 (kp4 O)))
             ·refine oSk (sF O O O O f4) (oSk (sF O O O O f4) (oSk (sF O O O O f4) (oY O (ap (vB f4) O) ?_)))
              obtain rfl:=sI h
              exact key _ _ (kp4 (kp4 (kp4 O)))
           ·clear h;rcases iOs uV with⟨f9,h⟩|⟨f9,h⟩
            ·refine oY (sT O O O O f9) (yMS O) ?_
             refine az 4 (encL cI [2,4,5,6]) _ mc_3_4 bj j7 kY (by decide) (by decide) (by kernel_rfl) (eL ax O) (sT O O O O f9) (fun u0=>?_)
             try dsimp only[lna,lca,lsz,lss]
             obtain⟨ua,ug,h⟩:=bOs h
             refine oY (sT O O O O f9) (yC [.slice oq H.1.length op,.slice (some ⟨u0,0,none⟩) 4 4] tF O (fun W2 f=>cx H.1 [2,4,5,6] ua ug W2 oq H.1.length op O ((RdL.row 7 O) W2 f) (some ⟨u0,0,none⟩) 4 4 O ((RdL.row 22 O) W2 f)) O) (oY O (ar (vB f9) O) ?_)
             obtain rfl:=sI h
             refine pA 22 ?_
             exact key _ _ (kp4 (kp4 (kp4 (kp O))))
            ·refine oSk (sF O O O O f9) (oSk (sF O O O O f9) (oSk (sF O O O O f9) (oY O (ap (vB f9) O) ?_)))
             obtain rfl:=sI h
             exact key _ _ (kp4 (kp4 (kp4 (kp O))))
         ·rcases aD (((((((((u.2 !=0)||(G.2 !=0))||(H.2 !=0))||(I.2 !=0))||(K.2 !=0))||(M.2 !=0))||(D.2 !=0))||(r.2.2 !=0))||(o.2.2 !=0))with fr|fr
          ·refine oSk (sF O O O O fr) (oSk (sF O O O O fr) (oY O (ar (vB fr) O) ?_))
           exact key _ _ (keep (keep (keep (keep (keep (keep (keep (keep (keep (keep (keep (keep (keep (keep (keep O O) O) O) O) O) O) O) O) O) O) O) O) O) O) (vB (pH fr)))
          ·refine oY (sT O O O O fr) (yMI O) (oY (sT O O O O fr) (ft O O) (oY O (ap (vB fr) O) ?_))
           exact key _ _ (keep (keep (keep (keep (keep (keep (keep (keep (keep (keep (keep (keep (keep (keep (keep O O) O) O) O) O) O) O) O) O) O) O) O) O) O) (vB (pL fr)))
        ·rcases aD ((((((((u.2 !=0)||(G.2 !=0))||(H.2 !=0))||(I.2 !=0))||(K.2 !=0))||(M.2 !=0))||(D.2 !=0))||(r.2.2 !=0))with fd|fd
         ·refine oSk (sF O O O O fd) (oSk (sF O O O O fd) (oY O (ar (vB fd) O) ?_))
          exact key _ _ (keep (keep (keep (keep (keep (keep (keep (keep (keep (keep (keep (keep (keep (keep (keep (keep O O) O) O) O) O) O) O) O) O) O) O) O) O) O) O) (vB (pH fd)))
         ·refine oY (sT O O O O fd) (yMI O) (oY (sT O O O O fd) (ft O O) (oY O (ap (vB fd) O) ?_))
          exact key _ _ (keep (keep (keep (keep (keep (keep (keep (keep (keep (keep (keep (keep (keep (keep (keep (keep O O) O) O) O) O) O) O) O) O) O) O) O) O) O) O) (vB (pL fd)))
       ·rcases aD (((((((u.2 !=0)||(G.2 !=0))||(H.2 !=0))||(I.2 !=0))||(K.2 !=0))||(M.2 !=0))||(D.2 !=0))with fE|fE
        ·refine oSk (sF O O O O fE) (oSk (sF O O O O fE) (oY O (ar (vB fE) O) ?_))
         exact key _ _ (keep (keep (keep (keep (keep (keep (keep (keep (keep (keep (keep (keep (keep (keep (keep (keep (keep O O) O) O) O) O) O) O) O) O) O) O) O) O) O) O) O) (vB (pH fE)))
        ·refine oY (sT O O O O fE) (yMI O) (oY (sT O O O O fE) (ft O O) (oY O (ap (vB fE) O) ?_))
         exact key _ _ (keep (keep (keep (keep (keep (keep (keep (keep (keep (keep (keep (keep (keep (keep (keep (keep (keep O O) O) O) O) O) O) O) O) O) O) O) O) O) O) O) O) (vB (pL fE)))
      ·rcases aD ((((((u.2 !=0)||(G.2 !=0))||(H.2 !=0))||(I.2 !=0))||(K.2 !=0))||(M.2 !=0))with fN|fN
       ·refine oSk (sF O O O O fN) (oSk (sF O O O O fN) (oY O (ar (vB fN) O) ?_))
        exact key _ _ (keep (keep (keep (keep (keep (keep (keep (keep (keep (keep (keep (keep (keep (keep (keep (keep (keep (keep O O) O) O) O) O) O) O) O) O) O) O) O) O) O) O) O) O) (vB (pH fN)))
       ·refine oY (sT O O O O fN) (yMI O) (oY (sT O O O O fN) (ft O O) (oY O (ap (vB fN) O) ?_))
        exact key _ _ (keep (keep (keep (keep (keep (keep (keep (keep (keep (keep (keep (keep (keep (keep (keep (keep (keep (keep O O) O) O) O) O) O) O) O) O) O) O) O) O) O) O) O) O) (vB (pL fN)))
     ·rcases aD (((((u.2 !=0)||(G.2 !=0))||(H.2 !=0))||(I.2 !=0))||(K.2 !=0))with fO|fO
      ·refine oSk (sF O O O O fO) (oSk (sF O O O O fO) (oY O (ar (vB fO) O) ?_))
       exact key _ _ (keep (keep (keep (keep (keep (keep (keep (keep (keep (keep (keep (keep (keep (keep (keep (keep (keep (keep (keep O O) O) O) O) O) O) O) O) O) O) O) O) O) O) O) O) O) O) (vB (pH fO)))
      ·refine oY (sT O O O O fO) (yMI O) (oY (sT O O O O fO) (ft O O) (oY O (ap (vB fO) O) ?_))
       exact key _ _ (keep (keep (keep (keep (keep (keep (keep (keep (keep (keep (keep (keep (keep (keep (keep (keep (keep (keep (keep O O) O) O) O) O) O) O) O) O) O) O) O) O) O) O) O) O) O) (vB (pL fO)))
    ·rcases aD ((((u.2 !=0)||(G.2 !=0))||(H.2 !=0))||(I.2 !=0))with fn|fn
     ·refine oSk (sF O O O O fn) (oSk (sF O O O O fn) (oY O (ar (vB fn) O) ?_))
      exact key _ _ (keep (keep (keep (keep (keep (keep (keep (keep (keep (keep (keep (keep (keep (keep (keep (keep (keep (keep (keep (keep O O) O) O) O) O) O) O) O) O) O) O) O) O) O) O) O) O) O) O) (vB (pH fn)))
     ·refine oY (sT O O O O fn) (yMI O) (oY (sT O O O O fn) (ft O O) (oY O (ap (vB fn) O) ?_))
      exact key _ _ (keep (keep (keep (keep (keep (keep (keep (keep (keep (keep (keep (keep (keep (keep (keep (keep (keep (keep (keep (keep O O) O) O) O) O) O) O) O) O) O) O) O) O) O) O) O) O) O) O) (vB (pL fn)))
   ·rcases aD (((u.2 !=0)||(G.2 !=0))||(H.2 !=0))with fl|fl
    ·refine oSk (sF O O O O fl) (oSk (sF O O O O fl) (oY O (ar (vB fl) O) ?_))
     exact key _ _ (keep (keep (keep (keep (keep (keep (keep (keep (keep (keep (keep (keep (keep (keep (keep (keep (keep (keep (keep (keep (keep O O) O) O) O) O) O) O) O) O) O) O) O) O) O) O) O) O) O) O) O) (vB (pH fl)))
    ·refine oY (sT O O O O fl) (yMI O) (oY (sT O O O O fl) (ft O O) (oY O (ap (vB fl) O) ?_))
     exact key _ _ (keep (keep (keep (keep (keep (keep (keep (keep (keep (keep (keep (keep (keep (keep (keep (keep (keep (keep (keep (keep (keep O O) O) O) O) O) O) O) O) O) O) O) O) O) O) O) O) O) O) O) O) (vB (pL fl)))
  ·rcases aD ((u.2 !=0)||(G.2 !=0))with g1|g1
   ·refine oSk (sF O O O O g1) (oSk (sF O O O O g1) (oY O (ar (vB g1) O) ?_))
    exact key _ _ (keep (keep (keep (keep (keep (keep (keep (keep (keep (keep (keep (keep (keep (keep (keep (keep (keep (keep (keep (keep (keep (keep O O) O) O) O) O) O) O) O) O) O) O) O) O) O) O) O) O) O) O) O) O) (vB (pH g1)))
   ·refine oY (sT O O O O g1) (yMI O) (oY (sT O O O O g1) (ft O O) (oY O (ap (vB g1) O) ?_))
    exact key _ _ (keep (keep (keep (keep (keep (keep (keep (keep (keep (keep (keep (keep (keep (keep (keep (keep (keep (keep (keep (keep (keep (keep O O) O) O) O) O) O) O) O) O) O) O) O) O) O) O) O) O) O) O) O) O) (vB (pL g1)))
 ·rcases aD (u.2 !=0)with g2|g2
  ·refine oSk (sF O O O O g2) (oSk (sF O O O O g2) (oY O (ar (vB g2) O) ?_))
   exact key _ _ (keep (keep (keep (keep (keep (keep (keep (keep (keep (keep (keep (keep (keep (keep (keep (keep (keep (keep (keep (keep (keep (keep (keep O O) O) O) O) O) O) O) O) O) O) O) O) O) O) O) O) O) O) O) O) O) O) (vB (pH g2)))
  ·refine oY (sT O O O O g2) (yMI O) (oY (sT O O O O g2) (ft O O) (oY O (ap (vB g2) O) ?_))
   exact key _ _ (keep (keep (keep (keep (keep (keep (keep (keep (keep (keep (keep (keep (keep (keep (keep (keep (keep (keep (keep (keep (keep (keep (keep O O) O) O) O) O) O) O) O) O) O) O) O) O) O) O) O) O) O) O) O) O) O) (vB (pL g2)))
theorem p8 (p0:TL) (res:Bool) (h:iO p0=some res) (W:World) (Aa:Option Addr) (I ca:Nat) (N:I=p0.fNo.length) (q:Rd W Aa I ca (encL TNode_cells p0.fNo)) (Ab:Option Addr) (K cb:Nat) (E:List (Hd × TC)) (Q:K=p0.fC.length) (M:Rd W Ab K cb (encL TClaim_cells2 E)) (G:NestW W (fun z:TC=>z.fO) THop_cells E p0.fC) :
  Calls Tryz.prog 14 [.agg #[.slice Aa I ca,.slice Ab K cb]].toArray W fun e W2=>e=.returned (.bool res)∧Ext W W2 []:=by
 subst N
 subst Q
 unfold iO at h
 refine ah (m:=73) Tryz.func14 O O (nB O) (cS (cR ?_))
 refine aO [.slice Aa p0.fNo.length ca,.slice Ab p0.fC.length cb] O O O (fun T=>?_)
 refine oY O (yAB O) (oN (aa (cS (cR (oY O (yAI O) (oN (aa (cS (cS (cR (oY O (yAI O) (oN (aa (ae ?_))))))))))))))
 obtain⟨t,l,h⟩:=bOs h
 refine cC (fun(s:(Bool × Int × Int)) L tm=>∃(o:Nat→Value),L=[aj T 25 [.slice Aa p0.fNo.length ca,.slice Ab p0.fC.length cb]]∧tm=(upd (upd (upd (upd o 1 (.pointer (some ⟨T,0,none⟩))) 2 (.bool s.1)) 3 (vI s.2.1)) 4 (vI s.2.2))) 0 l ⟨_,O,(kp4 O)⟩ ?_ ?_
 ·rintro U L tm st ⟨S,rfl,rfl⟩ h
  unfold fH at h
  refine cS (cS (cR (oY O (yMI O) (oY O (yFA bp O) (oY O (yL 0 eZ O O O) (oY O (a8 (us:=[]) kj O) (oY O (bN O O) (oN (aa ?_)))))))))
  rcases iOs h with⟨X,h⟩|⟨X,h⟩
  ·refine cT (vB X) (cK (aa (cS (ae (cS (cR (oY O (yFA bp O) (oY O (yL 0 eZ O O O) (oY O (yMI O) ?_)))))))))
   obtain⟨H,h⟩:=gOs h
   refine oY O (yI kx (by decide) H.1 H.2 (RdL.arg M) (eL ad (NestP.hn G.p O)) O O) ?_
   refine oY O (yFR (A:=Ab) (j:=(Int.toNat U.2.2*2)) db O) (oY O (yR (A:=Ab) (j:=((Int.toNat U.2.2*2)+1)) (v:=.slice ((rdL E U.2.2).1.1) ((rdL p0.fC U.2.2).fO.length) ((rdL E U.2.2).1.2.2)) kd (RdL.arg M) O (eG ad H.1 (av H.2 (NestP.hn G.p O)) (congrArg (fun n:Nat=>some (Value.slice (rdL E U.2.2).1.1 n (rdL E U.2.2).1.2.2)) (NestP.len G.p H.1 (av H.2 O))))) (oY O (a8 (us:=[]) lJ O) (oY O (yAI O) (oN (aa (cS (cS (cR (oY O (yMI O) (oY O (i8 O O) (oN (aa ?_))))))))))))
   rcases iOs h with⟨Y,h⟩|⟨Y,h⟩
   ·refine cT (vB Y) (cS (cR (oY O (yAB O) (oN (aa (aq (ab (al (ab ?_)))))))))
    obtain rfl:=sI h
    exact aC ⟨O,_,O,(kp4 O)⟩
   ·refine cF (vB Y) (cK (aa (cR (oY O (yMI O) (oY O (yMI O) (oY O (y_max O O) (oY O (y_mul O O) (oY O (y_min O O) (oY O (yAI O) (oN (au (aa (cR (oY O (yMI O) (oY O (bF O O) (oY O (yAI O) (oN ?_)))))))))))))))))
    obtain rfl:=sI h
    exact eN ⟨_,O,(kp4 O)⟩
  ·refine cF (vB X) (aJ (ak ?_))
   obtain rfl:=sI h
   exact aC ⟨O,_,O,(kp4 O)⟩
 ·intro e L tm hJ
  rcases t with a|w
  ·dsimp only at h hJ
   obtain⟨rfl,R,rfl,rfl⟩:=hJ
   refine⟨(by intro hc;cases hc),?_⟩
   refine al (ab ?_)
   obtain rfl:=sI h
   exact ao (.inl O) O (rVt (v:=.bool a.1) O) (fun W2 Z=>⟨O,Z.none⟩)
  ·dsimp only at h hJ
   obtain⟨rfl,V,rfl,rfl⟩:=hJ
   refine⟨(by intro hc;cases hc),?_⟩
   refine ai (aa (cS (cR (oY O (yFA cJ O) (oY O (yL 0 iM O O O) (oY O (a8 (us:=[]) lM O) (oY O (pO O O) (oY O (yMB O) ?_))))))))
   refine oJ 11 (fun o=>(upd (upd (upd (upd o 1 (.pointer (some ⟨T,0,none⟩))) 2 (.bool w.1)) 3 (vI w.2.1)) 44 (.bool ((decide ((p0.fNo.length:Int)≤12))||((decide (60<(p0.fNo.length:Int)))&&(decide ((p0.fNo.length:Int)≤80))))))) (fun o=>?_) (fun key=>?_)
   ·refine oY O (yAB O) (oN (aa (cS (cR (oY O (yFA bp O) (oY O (yL 0 eZ O O O) (oY O (a8 (us:=[]) kj O) (oY O (pO O O) (oY O (yMB O) ?_)))))))))
    refine oJ 11 (fun o=>(upd (upd (upd (upd o 2 (.bool w.1)) 3 (vI w.2.1)) 6 (.bool ((decide ((p0.fNo.length:Int)≤12))||((decide (60<(p0.fNo.length:Int)))&&(decide ((p0.fNo.length:Int)≤80)))))) 60 (.bool ((decide ((p0.fC.length:Int)≤12))||((decide (80<(p0.fC.length:Int)))&&(decide ((p0.fC.length:Int)≤100))))))) (fun o=>?_) (fun key=>?_)
    ·refine oY O (yAB O) (oN (aa (cS (cR (oY O (yMB O) (oY O (yMB O) ?_))))))
     refine oJ 2 (fun o=>(upd (upd (upd o 2 (.bool w.1)) 3 (vI w.2.1)) 64 (.bool (((decide ((p0.fNo.length:Int)≤12))||((decide (60<(p0.fNo.length:Int)))&&(decide ((p0.fNo.length:Int)≤80))))&&((decide ((p0.fC.length:Int)≤12))||((decide (80<(p0.fC.length:Int)))&&(decide ((p0.fC.length:Int)≤100)))))))) (fun o=>?_) (fun key=>?_)
     ·refine oY O (yMB O) ?_
      refine oJ 7 (fun o=>(upd (upd o 2 (.bool w.1)) 72 (.bool ((((decide ((p0.fNo.length:Int)≤12))||((decide (60<(p0.fNo.length:Int)))&&(decide ((p0.fNo.length:Int)≤80))))&&((decide ((p0.fC.length:Int)≤12))||((decide (80<(p0.fC.length:Int)))&&(decide ((p0.fC.length:Int)≤100)))))&&((decide (w.2.1≤64))||(decide (4096<w.2.1))))))) (fun o=>?_) (fun key=>?_)
      ·refine oY O (yAB O) (oN (aa (aq ?_)))
       obtain rfl:=sI h
       exact ao (.inl O) O (rVt (v:=.bool ((((decide ((p0.fNo.length:Int)≤12))||((decide (60<(p0.fNo.length:Int)))&&(decide ((p0.fNo.length:Int)≤80))))&&((decide ((p0.fC.length:Int)≤12))||((decide (80<(p0.fC.length:Int)))&&(decide ((p0.fC.length:Int)≤100)))))&&((decide (w.2.1≤64))||(decide (4096<w.2.1))))) O) (fun W2 Z=>⟨O,Z.none⟩)
      ·rcases aD (((decide ((p0.fNo.length:Int)≤12))||((decide (60<(p0.fNo.length:Int)))&&(decide ((p0.fNo.length:Int)≤80))))&&((decide ((p0.fC.length:Int)≤12))||((decide (80<(p0.fC.length:Int)))&&(decide ((p0.fC.length:Int)≤100)))))with r|r
       ·refine oY (sT O O O O r) (yMI O) (oY (sT O O O O r) (pO O O) (oY (sT O O O O r) (yMB O) ?_))
        refine oJ 3 (fun o=>(upd (upd (upd o 2 (.bool w.1)) 65 (.bool (((decide ((p0.fNo.length:Int)≤12))||((decide (60<(p0.fNo.length:Int)))&&(decide ((p0.fNo.length:Int)≤80))))&&((decide ((p0.fC.length:Int)≤12))||((decide (80<(p0.fC.length:Int)))&&(decide ((p0.fC.length:Int)≤100))))))) 71 (.bool ((decide (w.2.1≤64))||(decide (4096<w.2.1)))))) (fun o=>?_) (fun key=>?_)
        ·refine oY O (ar (vB r) O) ?_
         exact key _ _ (keep (keep O O) (vB (mq r)))
        ·rcases aD (decide (w.2.1≤64))with D|D
         ·refine oSk (sF O O O O D) (oSk (sF O O O O D) (oY (sT O O O O r) (ar (vB D) O) ?_))
          exact key _ _ (keep (keep (keep O O) O) (vB (pH D)))
         ·refine oY (sT O O O O D) (yMI O) (oY (sT O O O O D) (i8 O O) (oY (sT O O O O r) (ap (vB D) O) ?_))
          exact key _ _ (keep (keep (keep O O) O) (vB (pL D)))
       ·refine oSk (sF O O O O r) (oSk (sF O O O O r) (oSk (sF O O O O r) (oSk O (oSk O (oSk (sF O O O O r) (oY O (ap (vB r) O) ?_))))))
        exact key _ _ (keep (keep O O) (vB (mb r)))
     ·rcases aD ((decide ((p0.fNo.length:Int)≤12))||((decide (60<(p0.fNo.length:Int)))&&(decide ((p0.fNo.length:Int)≤80))))with F|F
      ·refine oY (sT O O O O F) (yMB O) (oY O (ar (vB F) O) ?_)
       exact key _ _ (keep (keep (keep O O) O) (vB (mq F)))
      ·refine oSk (sF O O O O F) (oY O (ap (vB F) O) ?_)
       exact key _ _ (keep (keep (keep O O) O) (vB (mb F)))
    ·rcases aD (decide ((p0.fC.length:Int)≤12))with f|f
     ·refine oSk (sF O O O O f) (oSk (sF O O O O f) (oSk (sF O O O O f) (oSk (sF O O O O f) (oSk (sF O O O O f) (oSk O (oSk O (oSk O (oSk O (oSk (sF O O O O f) (oY O (ar (vB f) O) ?_))))))))))
      exact key _ _ (keep (keep (keep (keep O O) O) O) (vB (pH f)))
     ·refine oY (sT O O O O f) (yFA bp O) (oY (sT O O O O f) (yL 0 eZ O O O) (oY (sT O O O O f) (a8 (us:=[]) kj O) (oY (sT O O O O f) (i8 O O) (oY (sT O O O O f) (yMB O) ?_))))
      refine oJ 5 (fun o=>(upd (upd (upd (upd (upd o 2 (.bool w.1)) 3 (vI w.2.1)) 6 (.bool ((decide ((p0.fNo.length:Int)≤12))||((decide (60<(p0.fNo.length:Int)))&&(decide ((p0.fNo.length:Int)≤80)))))) 49 (.bool (decide ((p0.fC.length:Int)≤12)))) 59 (.bool ((decide (80<(p0.fC.length:Int)))&&(decide ((p0.fC.length:Int)≤100)))))) (fun o=>?_) (fun key=>?_)
      ·refine oY O (ap (vB f) O) ?_
       exact key _ _ (keep (keep (keep (keep O O) O) O) (vB (pL f)))
      ·rcases aD (decide (80<(p0.fC.length:Int)))with u|u
       ·refine oY (sT O O O O u) (yFA bp O) (oY (sT O O O O u) (yL 0 eZ O O O) (oY (sT O O O O u) (a8 (us:=[]) kj O) (oY (sT O O O O u) (pO O O) (oY (sT O O O O f) (ar (vB u) O) ?_))))
        exact key _ _ (keep (keep (keep (keep (keep O O) O) O) O) (vB (mq u)))
       ·refine oSk (sF O O O O u) (oSk (sF O O O O u) (oSk (sF O O O O u) (oSk (sF O O O O u) (oY (sT O O O O f) (ap (vB u) O) ?_))))
        exact key _ _ (keep (keep (keep (keep (keep O O) O) O) O) (vB (mb u)))
   ·rcases aD (decide ((p0.fNo.length:Int)≤12))with g|g
    ·refine oSk (sF O O O O g) (oSk (sF O O O O g) (oSk (sF O O O O g) (oSk (sF O O O O g) (oSk (sF O O O O g) (oSk O (oSk O (oSk O (oSk O (oSk (sF O O O O g) (oY O (ar (vB g) O) ?_))))))))))
     exact key _ _ (keep (keep (keep (keep O O) O) O) (vB (pH g)))
    ·refine oY (sT O O O O g) (yFA cJ O) (oY (sT O O O O g) (yL 0 iM O O O) (oY (sT O O O O g) (a8 (us:=[]) lM O) (oY (sT O O O O g) (i8 O O) (oY (sT O O O O g) (yMB O) ?_))))
     refine oJ 5 (fun o=>(upd (upd (upd (upd (upd o 1 (.pointer (some ⟨T,0,none⟩))) 2 (.bool w.1)) 3 (vI w.2.1)) 33 (.bool (decide ((p0.fNo.length:Int)≤12)))) 43 (.bool ((decide (60<(p0.fNo.length:Int)))&&(decide ((p0.fNo.length:Int)≤80)))))) (fun o=>?_) (fun key=>?_)
     ·refine oY O (ap (vB g) O) ?_
      exact key _ _ (keep (keep (keep (keep O O) O) O) (vB (pL g)))
     ·rcases aD (decide (60<(p0.fNo.length:Int)))with d|d
      ·refine oY (sT O O O O d) (yFA cJ O) (oY (sT O O O O d) (yL 0 iM O O O) (oY (sT O O O O d) (a8 (us:=[]) lM O) (oY (sT O O O O d) (pO O O) (oY (sT O O O O g) (ar (vB d) O) ?_))))
       exact key _ _ (keep (keep (keep (keep (keep O O) O) O) O) (vB (mq d)))
      ·refine oSk (sF O O O O d) (oSk (sF O O O O d) (oSk (sF O O O O d) (oSk (sF O O O O d) (oY (sT O O O O g) (ap (vB d) O) ?_))))
       exact key _ _ (keep (keep (keep (keep (keep O O) O) O) O) (vB (mb d)))
end Go.Proofs.YtbblpokfbmekfaaGreat
set_option maxHeartbeats 4000000
set_option maxRecDepth 100000
namespace Go.Proofs.YtbblpokfbmekfaaGreat
open Go.RowKit (Below)
attribute [local irreducible] OX QX CX EX OpY Calls CallsIn
theorem eH (p0:TL) (p1:Int) (res:Int) (h:ef p0 p1=some res) (W:World) (Aa:Option Addr) (f ca:Nat) (d:f=p0.fNo.length) (g:Rd W Aa f ca (encL TNode_cells p0.fNo)) (Ab:Option Addr) (o cb:Nat) (r:List (Hd × TC)) (w:o=p0.fC.length) (K:Rd W Ab o cb (encL TClaim_cells2 r)) (M:NestW W (fun z:TC=>z.fO) THop_cells r p0.fC) :
  Calls Tryz.prog 67 [.agg #[.slice Aa f ca,.slice Ab o cb],vI p1].toArray W fun e W2=>e=.returned (vI res)∧Ext W W2 []:=by
 subst d
 subst w
 unfold ef at h
 refine ah (m:=22) Tryz.func67 O O (nB O) (cS (cR ?_))
 refine aO [.slice Aa p0.fNo.length ca,.slice Ab p0.fC.length cb] O O O (fun X=>?_)
 refine oY O (yAI O) (oN (aa (cS (cS (cR (oY O (yAI O) (oN (aa (ae ?_)))))))))
 obtain⟨Y,N,h⟩:=bOs h
 refine cC (fun(s:(Int × Int)) L tm=>∃(Q:Nat→Value),L=[aj X 25 [.slice Aa p0.fNo.length ca,.slice Ab p0.fC.length cb]]∧tm=(upd (upd (upd (upd Q 1 (vI p1)) 2 (.pointer (some ⟨X,0,none⟩))) 4 (vI s.1)) 5 (vI s.2))) 0 N ⟨_,O,(kp4 O)⟩ ?_ ?_
 ·rintro U L tm st ⟨H,rfl,rfl⟩ h
  unfold gy at h
  refine cS (cS (cR (oY O (yMI O) (oY O (yFA cJ O) (oY O (yL 0 iM O O O) (oY O (a8 (us:=[]) lM O) (oY O (bN O O) (oN (aa ?_)))))))))
  rcases iOs h with⟨D,h⟩|⟨D,h⟩
  ·refine cT (vB D) (cK (aa (cS (ae (cS (cR (oY O (yFA cJ O) (oY O (yL 0 iM O O O) (oY O (yMI O) ?_)))))))))
   obtain⟨u,h⟩:=gOs h
   refine oY O (yI nG (by decide) u.1 u.2 (RdL.arg g) (eL ay O) O O) ?_
   refine oY O (yFR (A:=Aa) (j:=(Int.toNat U.2*3)) g6 O) (oY O (yR (A:=Aa) (j:=((Int.toNat U.2*3)+0)) (v:=vI ((rdL p0.fNo U.2).fID)) bW (RdL.arg g) O (eG ay u.1 (av u.2 O) O)) (oY O (yMI O) (oY O (ge O O) (oN (aa ?_)))))
   rcases iOs h with⟨E,h⟩|⟨E,h⟩
   ·refine cT (vB E) (cS (cR (oY O (yMI O) (oY O (yAI O) (oN (aa (aq (al (ab ?_)))))))))
    obtain rfl:=sI h
    exact aC ⟨O,_,O,(kp4 O)⟩
   ·refine cF (vB E) (cK (au (aa (cR (oY O (yMI O) (oY O (bF O O) (oY O (yAI O) (oN ?_))))))))
    obtain rfl:=sI h
    exact eN ⟨_,O,(kp4 O)⟩
  ·refine cF (vB D) (aJ (ak ?_))
   obtain rfl:=sI h
   exact aC ⟨O,_,O,(kp4 O)⟩
 ·intro e L tm hJ
  rcases Y with Z|V
  ·dsimp only at h hJ
   obtain⟨rfl,I,rfl,rfl⟩:=hJ
   refine⟨(by intro hc;cases hc),?_⟩
   refine al (ab ?_)
   obtain rfl:=sI h
   exact ao (.inl O) O (rVt (v:=vI Z.1) O) (fun W2 F=>⟨O,F.none⟩)
  ·dsimp only at h hJ
   obtain⟨rfl,G,rfl,rfl⟩:=hJ
   refine⟨(by intro hc;cases hc),?_⟩
   refine ai (aa (cS (cR (oY O (yAI O) (oN (aa (aq ?_)))))))
   obtain rfl:=sI h
   exact ao (.inl O) O (rVt (v:=vI (-1)) O) (fun W2 F=>⟨O,F.none⟩)
theorem nA (p0:TL) (res:Int) (h:g5 p0=some res) (W:World) (Aa:Option Addr) (r ca:Nat) (w:r=p0.fNo.length) (I:Rd W Aa r ca (encL TNode_cells p0.fNo)) (Ab:Option Addr) (u cb:Nat) (f:List (Hd × TC)) (D:u=p0.fC.length) (d:Rd W Ab u cb (encL TClaim_cells2 f)) (g:NestW W (fun z:TC=>z.fO) THop_cells f p0.fC) :
  Calls Tryz.prog 83 [.agg #[.slice Aa r ca,.slice Ab u cb]].toArray W fun e W2=>e=.returned (vI res)∧Ext W W2 []:=by
 subst w
 subst D
 unfold g5 at h
 refine ah (m:=23) Tryz.func83 O O (nB O) (cS (cR ?_))
 refine aO [.slice Aa p0.fNo.length ca,.slice Ab p0.fC.length cb] O O O (fun Q=>?_)
 refine oY O (yAI O) (oN (aa (cS (cR (oY O (yAI O) (oN (aa (cS (cS (cR (oY O (yAI O) (oN (aa (ae ?_))))))))))))))
 obtain⟨U,K,h⟩:=bOs h
 refine bo (fun(s:(Int × Int)) L tm=>∃(M:Nat→Value),L=[aj Q 25 [.slice Aa p0.fNo.length ca,.slice Ab p0.fC.length cb]]∧tm=(upd (upd (upd (upd M 1 (.pointer (some ⟨Q,0,none⟩))) 2 (vI 0)) 3 (vI s.1)) 4 (vI s.2))) 0 K ⟨_,O,(kp4 O)⟩ ?_ ?_
 ·rintro E L tm st ⟨G,rfl,rfl⟩ h
  unfold fU at h
  refine cS (cS (cR (oY O (yMI O) (oY O (yFA bp O) (oY O (yL 0 eZ O O O) (oY O (a8 (us:=[]) kj O) (oY O (bN O O) (oN (aa ?_)))))))))
  rcases iOs h with⟨F,h⟩|⟨F,h⟩
  ·refine cT (vB F) (cK (aa (cS (ae (cR (oY O (yMI O) (oY O (yFA bp O) (oY O (yL 0 eZ O O O) (oY O (yMI O) ?_)))))))))
   obtain⟨o,h⟩:=gOs h
   refine oY O (yI kx (by decide) o.1 o.2 (RdL.arg d) (eL ad (NestP.hn g.p O)) O O) ?_
   refine oY O (yFR (A:=Ab) (j:=(Int.toNat E.2*2)) db O) (oY O (yR (A:=Ab) (j:=((Int.toNat E.2*2)+1)) (v:=.slice ((rdL f E.2).1.1) ((rdL p0.fC E.2).fO.length) ((rdL f E.2).1.2.2)) kd (RdL.arg d) O (eG ad o.1 (av o.2 (NestP.hn g.p O)) (congrArg (fun n:Nat=>some (Value.slice (rdL f E.2).1.1 n (rdL f E.2).1.2.2)) (NestP.len g.p o.1 (av o.2 O))))) (oY O (a8 (us:=[]) lJ O) (oY O (y_mul O O) (oY O (y_min O O) (oY O (yAI O) (oN (au (aa (cR (oY O (yMI O) (oY O (bF O O) (oY O (yAI O) (oN ?_)))))))))))))
   obtain rfl:=sI h
   exact eN ⟨_,O,(kp4 O)⟩
  ·refine cF (vB F) (aJ (ak ?_))
   obtain rfl:=sI h
   exact aC ⟨O,_,O,(kp4 O)⟩
 ·intro e L tm hJ
  obtain⟨rfl,H,rfl,rfl⟩:=hJ
  refine⟨(by intro hc;cases hc),?_⟩
  refine ai (aa (cS (cR (oY O (yMI O) (oY O (yAI O) (oN (aa (aq ?_))))))))
  obtain rfl:=sI h
  exact ao (.inl O) O (rVt (v:=vI U.1) O) (fun W2 N=>⟨O,N.none⟩)
theorem nz (p0:TL) (p1:Int) (res:Int) (h:jD p0 p1=some res) (W:World) (Aa:Option Addr) (g ca:Nat) (w:g=p0.fNo.length) (N:Rd W Aa g ca (encL TNode_cells p0.fNo)) (Ab:Option Addr) (o cb:Nat) (r:List (Hd × TC)) (D:o=p0.fC.length) (u:Rd W Ab o cb (encL TClaim_cells2 r)) (f:NestW W (fun z:TC=>z.fO) THop_cells r p0.fC) :
  Calls Tryz.prog 105 [.agg #[.slice Aa g ca,.slice Ab o cb],vI p1].toArray W fun e W2=>e=.returned (vI res)∧Ext W W2 []:=by
 subst w
 subst D
 unfold jD at h
 refine ah (m:=22) Tryz.func105 O O (nB O) (cS (cR ?_))
 refine aO [.slice Aa p0.fNo.length ca,.slice Ab p0.fC.length cb] O O O (fun X=>?_)
 refine oY O (yAI O) (oN (aa (cS (cS (cR (oY O (yAI O) (oN (aa (ae ?_)))))))))
 obtain⟨Y,Q,h⟩:=bOs h
 refine cC (fun(s:(Int × Int)) L tm=>∃(U:Nat→Value),L=[aj X 25 [.slice Aa p0.fNo.length ca,.slice Ab p0.fC.length cb]]∧tm=(upd (upd (upd (upd U 1 (vI p1)) 2 (.pointer (some ⟨X,0,none⟩))) 4 (vI s.1)) 5 (vI s.2))) 0 Q ⟨_,O,(kp4 O)⟩ ?_ ?_
 ·rintro I L tm st ⟨K,rfl,rfl⟩ h
  unfold fS at h
  refine cS (cS (cR (oY O (yMI O) (oY O (yFA bp O) (oY O (yL 0 eZ O O O) (oY O (a8 (us:=[]) kj O) (oY O (bN O O) (oN (aa ?_)))))))))
  rcases iOs h with⟨E,h⟩|⟨E,h⟩
  ·refine cT (vB E) (cK (aa (cS (ae (cS (cR (oY O (yFA bp O) (oY O (yL 0 eZ O O O) (oY O (yMI O) ?_)))))))))
   obtain⟨d,h⟩:=gOs h
   refine oY O (yI kx (by decide) d.1 d.2 (RdL.arg u) (eL ad (NestP.hn f.p O)) O O) ?_
   refine oY O (yFR (A:=Ab) (j:=(Int.toNat I.2*2)) kk O) (oY O (yR (A:=Ab) (j:=((Int.toNat I.2*2)+0)) (v:=vI ((rdL p0.fC I.2).fID)) bW (RdL.arg u) O (eG ad d.1 (av d.2 (NestP.hn f.p O)) (congrArg (fun z:TC=>some (Value.int .i64 z.fID)) (NestP.snd f.p I.2)))) (oY O (yMI O) (oY O (ge O O) (oN (aa ?_)))))
   rcases iOs h with⟨F,h⟩|⟨F,h⟩
   ·refine cT (vB F) (cS (cR (oY O (yMI O) (oY O (yAI O) (oN (aa (aq (al (ab ?_)))))))))
    obtain rfl:=sI h
    exact aC ⟨O,_,O,(kp4 O)⟩
   ·refine cF (vB F) (cK (au (aa (cR (oY O (yMI O) (oY O (bF O O) (oY O (yAI O) (oN ?_))))))))
    obtain rfl:=sI h
    exact eN ⟨_,O,(kp4 O)⟩
  ·refine cF (vB E) (aJ (ak ?_))
   obtain rfl:=sI h
   exact aC ⟨O,_,O,(kp4 O)⟩
 ·intro e L tm hJ
  rcases Y with Z|V
  ·dsimp only at h hJ
   obtain⟨rfl,M,rfl,rfl⟩:=hJ
   refine⟨(by intro hc;cases hc),?_⟩
   refine al (ab ?_)
   obtain rfl:=sI h
   exact ao (.inl O) O (rVt (v:=vI Z.1) O) (fun W2 G=>⟨O,G.none⟩)
  ·dsimp only at h hJ
   obtain⟨rfl,H,rfl,rfl⟩:=hJ
   refine⟨(by intro hc;cases hc),?_⟩
   refine ai (aa (cS (cR (oY O (yAI O) (oN (aa (aq ?_)))))))
   obtain rfl:=sI h
   exact ao (.inl O) O (rVt (v:=vI (-1)) O) (fun W2 G=>⟨O,G.none⟩)
theorem jj (p0:Int) (p1:Int) (p2:Int) (res:Bool) (h:jJ p0 p1 p2=some res) (W:World)  :
  Calls Tryz.prog 122 [vI p0,vI p1,vI p2].toArray W fun e W2=>e=.returned (.bool res)∧Ext W W2 []:=by
 unfold jJ at h
 refine ah (m:=15) Tryz.func122 O O (nB O) (cS (cR (oY O (yAB O) (oN (aa (cS (cR (oY O (yMI O) (oY O (yMI O) (oY O (rL O O) (oY O (yMB O) ?_)))))))))))
 refine oJ 4 (fun g=>(upd (upd g 6 (.bool false)) 14 (.bool ((decide (p1≤p0))&&(decide (p0≤p2)))))) (fun g=>?_) (fun key=>?_)
 ·refine oY O (yAB O) (oN (aa (aq ?_)))
  obtain rfl:=sI h
  exact ao (.inl O) O (rVt (v:=.bool ((decide (p1≤p0))&&(decide (p0≤p2)))) O) (fun W2 o=>⟨O,o.none⟩)
 ·rcases aD (decide (p1≤p0))with f|f
  ·refine oY (sT O O O O f) (yMI O) (oY (sT O O O O f) (yMI O) (oY (sT O O O O f) (pO O O) (oY O (ar (vB f) O) ?_)))
   exact key _ _ (keep (keep O O) (vB (mq f)))
  ·refine oSk (sF O O O O f) (oSk (sF O O O O f) (oSk (sF O O O O f) (oY O (ap (vB f) O) ?_)))
   exact key _ _ (keep (keep O O) (vB (mb f)))
theorem rJ (p0:TL) (p1:TC) (res:Bool) (h:k8 p0 p1=some res) (W:World) (Aa:Option Addr) (Y ca:Nat) (t:Y=p0.fNo.length) (w:Rd W Aa Y ca (encL TNode_cells p0.fNo)) (Ab:Option Addr) (Z cb:Nat) (F:List (Hd × TC)) (a:Z=p0.fC.length) (V:Rd W Ab Z cb (encL TClaim_cells2 F)) (T:NestW W (fun z:TC=>z.fO) THop_cells F p0.fC) (o:Option Addr) (S H:Nat) (i:S=p1.fO.length) (r:Rd W o S H (encL THop_cells p1.fO)) :
  Calls Tryz.prog 123 [.agg #[.slice Aa Y ca,.slice Ab Z cb],.agg #[vI p1.fID,.slice o S H]].toArray W fun e W2=>e=.returned (.bool res)∧Ext W W2 []:=by
 subst t
 subst a
 subst i
 unfold k8 at h
 refine ah (m:=80) Tryz.func123 O O (nB O) (cS (cR ?_))
 refine aO [.slice Aa p0.fNo.length ca,.slice Ab p0.fC.length cb] O O O (fun k=>?_)
 refine aO [vI p1.fID,.slice o p1.fO.length H] O O O (fun x=>?_)
 refine oY O (yAB O) (oN (aa (cS (cS (cR (oY O (yFA kk O) (oY O (yL 1 bW O O O) ?_)))))))
 obtain⟨y3,g1,h⟩:=bOs h
 refine oY O (yC [vI p1.fID,vI 1,vI 1099511627776] rZ O (fun W2 u=>jj p1.fID 1 1099511627776 y3 g1 W2 ) O) (oY O (fa O) (oY O (yMB O) ?_))
 obtain⟨b6,g2,h⟩:=bOs h
 refine oJ 6 (fun E=>(upd (upd (upd (upd E 2 (.pointer (some ⟨k,0,none⟩))) 3 (.pointer (some ⟨x,0,none⟩))) 4 (.bool false)) 19 (.bool b6))) (fun E=>?_) (fun key=>?_)
 ·refine oN (aa ?_)
  rcases iOs h with⟨y,h⟩|⟨y,h⟩
  ·refine cT (vB y) (cS (cR (oY O (yAB O) (oN (aa (aq (ab ?_)))))))
   obtain rfl:=sI h
   exact ao (.inl O) O (rVt (v:=.bool false) O) (fun W2 u=>⟨O,u.none⟩)
  ·refine cF (vB y) (cK (aa (cS (cS (cR (oY O (yAI O) (oN (aa (ae ?_)))))))))
   obtain⟨g3,c,h⟩:=bOs h
   refine cC (fun(s:(Bool × Int)) L tm=>∃(E:Nat→Value),L=[aj k 25 [.slice Aa p0.fNo.length ca,.slice Ab p0.fC.length cb],aj x 90 [vI p1.fID,.slice o p1.fO.length H]]∧tm=(upd (upd (upd (upd E 2 (.pointer (some ⟨k,0,none⟩))) 3 (.pointer (some ⟨x,0,none⟩))) 4 (.bool s.1)) 5 (vI s.2))) 0 c ⟨_,O,(kp4 O)⟩ ?_ ?_
   ·rintro g L tm st ⟨f0,rfl,rfl⟩ h
    unfold fJ at h
    refine cS (cS (cR (oY O (yMI O) (oY O (yFA db O) (oY O (yL 1 kd O O O) (oY O (a8 (us:=[]) lJ O) (oY O (bN O O) (oN (aa ?_)))))))))
    rcases iOs h with⟨R,h⟩|⟨R,h⟩
    ·refine cT (vB R) (cK (aa (cS (ae (cS ?_)))))
     refine bl 9 di (by kernel_rfl) (by kernel_rfl) ?_
     refine qY O (yN 0 [.slice Aa p0.fNo.length ca,.slice Ab p0.fC.length cb] aR O O O) (qY O (yFA db O) (qY O (yL 1 kd O O O) (qY O (yMI O) ?_)))
     obtain⟨K,h⟩:=gOs h
     refine qY O (yI nF (by decide) K.1 K.2 (RdL.arg r) (eL aA O) O O) ?_
     refine qY O (yFR (A:=o) (j:=(Int.toNat g.2*2)) iX O) (qY O (yR (A:=o) (j:=((Int.toNat g.2*2)+0)) (v:=vI ((rdL p1.fO g.2).fFrom)) bW (RdL.arg r) O (eG aA K.1 (av K.2 O) O)) ?_)
     obtain⟨G,f1,h⟩:=bOs h
     refine qY O (yC [.agg #[.slice Aa p0.fNo.length ca,.slice Ab p0.fC.length cb],vI ((rdL p1.fO g.2).fFrom)] tg O (fun W2 u=>eH p0 ((rdL p1.fO g.2).fFrom) G f1 W2 Aa p0.fNo.length ca O ((RdL.arg w) W2 u) Ab p0.fC.length cb F O ((RdL.arg V) W2 u) (NestL.at (NestL.arg T) W2 u)) O) (qY O (yAI O) (dq (oN (aa (cS ?_)))))
     refine bl 9 di (by kernel_rfl) (by kernel_rfl) ?_
     refine qY O (yN 0 [.slice Aa p0.fNo.length ca,.slice Ab p0.fC.length cb] aR O O O) (qY O (yFA db O) (qY O (yL 1 kd O O O) (qY O (yMI O) ?_)))
     obtain⟨M,h⟩:=gOs h
     refine qY O (yI nF (by decide) M.1 M.2 (RdL.arg r) (eL aA O) O O) ?_
     refine qY O (yFR (A:=o) (j:=(Int.toNat g.2*2)) lO O) (qY O (yR (A:=o) (j:=((Int.toNat g.2*2)+1)) (v:=vI ((rdL p1.fO g.2).fTo)) bW (RdL.arg r) O (eG aA M.1 (av M.2 O) O)) ?_)
     obtain⟨I,f2,h⟩:=bOs h
     refine qY O (yC [.agg #[.slice Aa p0.fNo.length ca,.slice Ab p0.fC.length cb],vI ((rdL p1.fO g.2).fTo)] tg O (fun W2 u=>eH p0 ((rdL p1.fO g.2).fTo) I f2 W2 Aa p0.fNo.length ca O ((RdL.arg w) W2 u) Ab p0.fC.length cb F O ((RdL.arg V) W2 u) (NestL.at (NestL.arg T) W2 u)) O) (qY O (yAI O) (dq (oN (aa (cS (cS ?_))))))
     refine bl 21 di (by kernel_rfl) (by kernel_rfl) ?_
     refine qY O (yMI O) (qY O (bN O O) (qY O (yMB O) ?_))
     refine qJ 3 (fun E=>(upd (upd (upd (upd (upd (upd (upd (upd E 2 (.pointer (some ⟨k,0,none⟩))) 3 (.pointer (some ⟨x,0,none⟩))) 4 (.bool g.1)) 5 (vI g.2)) 24 (.bool (decide (g.2<(p1.fO.length:Int))))) 6 (vI G)) 7 (vI I)) 48 (.bool ((decide (G<0))||(decide (I<0)))))) (fun E=>?_) (fun key=>?_)
     ·refine qY O (yMB O) ?_
      obtain⟨f3,f4,h⟩:=bOs h
      refine qJ 14 (fun E=>(upd (upd (upd (upd (upd (upd (upd (upd E 2 (.pointer (some ⟨k,0,none⟩))) 3 (.pointer (some ⟨x,0,none⟩))) 4 (.bool g.1)) 5 (vI g.2)) 24 (.bool (decide (g.2<(p1.fO.length:Int))))) 6 (vI G)) 7 (vI I)) 63 (.bool f3))) (fun E=>?_) (fun key=>?_)
      ·refine dq (oN (aa ?_))
       rcases iOs h with⟨q,h⟩|⟨q,h⟩
       ·refine cT (vB q) (cS (cR (oY O (yAB O) (oN (aa (aq (ab (al (ab ?_)))))))))
        obtain rfl:=sI h
        exact aC ⟨O,_,O,(kp4 O)⟩
       ·refine cF (vB q) (cK (aa (cS (cR (oY O (yAI O) (oN (aa (ae ?_))))))))
        obtain⟨gf,f9,h⟩:=bOs h
        refine cC (fun(s:(Bool × Int)) L tm=>∃(E:Nat→Value),L=[aj k 25 [.slice Aa p0.fNo.length ca,.slice Ab p0.fC.length cb],aj x 90 [vI p1.fID,.slice o p1.fO.length H]]∧tm=(upd (upd (upd (upd (upd (upd (upd (upd (upd E 2 (.pointer (some ⟨k,0,none⟩))) 3 (.pointer (some ⟨x,0,none⟩))) 4 (.bool s.1)) 5 (vI g.2)) 24 (.bool (decide (g.2<(p1.fO.length:Int))))) 6 (vI G)) 7 (vI I)) 63 (.bool f3)) 8 (vI s.2))) 2 f9 ⟨_,O,(kp4 (kp4 (kp O)))⟩ ?_ ?_
        ·rintro p L tm st ⟨fr,rfl,rfl⟩ h
         unfold dJ at h
         refine cS (cS (cR (oY O (yMI O) (oY O (yMI O) (oY O (bN O O) (oN (aa ?_)))))))
         rcases iOs h with⟨n,h⟩|⟨n,h⟩
         ·refine cT (vB n) (cK (aa (cS (ae (cS ?_)))))
          refine bl 11 di (by kernel_rfl) (by kernel_rfl) ?_
          refine qY O (yFA db O) (qY O (yL 1 kd O O O) (qY O (yMI O) ?_))
          obtain⟨N,h⟩:=gOs h
          refine qY O (yI nF (by decide) N.1 N.2 (RdL.arg r) (eL aA O) O O) ?_
          refine qY O (yM (A:=o) (j:=(Int.toNat p.2*2)) [vI ((rdL p1.fO p.2).fFrom),vI ((rdL p1.fO p.2).fTo)] mN (Nat.succ_pos _) (RdL.arg r) O (bR aA N.1 (av N.2 O))) (qY O (yFA db O) (qY O (yL 1 kd O O O) (qY O (yMI O) ?_)))
          obtain⟨Q,h⟩:=gOs h
          refine qY O (yI nF (by decide) Q.1 Q.2 (RdL.arg r) (eL aA O) O O) ?_
          refine qY O (yM (A:=o) (j:=(Int.toNat g.2*2)) [vI ((rdL p1.fO g.2).fFrom),vI ((rdL p1.fO g.2).fTo)] mN (Nat.succ_pos _) (RdL.arg r) O (bR aA Q.1 (av Q.2 O))) (qY O (y_eqla (b:=(((rdL p1.fO p.2).fFrom==(rdL p1.fO g.2).fFrom)&&((rdL p1.fO p.2).fTo==(rdL p1.fO g.2).fTo))) eg_111 O O (fun _=>(eqS2 fl_111 (qb bW O) (qb bW O) (qb bW O) (qb bW O) (run_equalIn_int _ _ _ _ _ _ _ ui_3) (run_equalIn_int _ _ _ _ _ _ _ ui_3)))) (dq (oN (aa ?_))))
          rcases iOs h with⟨l,h⟩|⟨l,h⟩
          ·refine cT (vB l) (cS (cR (oY O (yAB O) (oN (aa (aq (al (ab ?_))))))))
           obtain rfl:=sI h
           exact aC ⟨O,_,O,(kp4 (kp4 (kp O)))⟩
          ·refine cF (vB l) (cK (au (aa (cR (oY O (yMI O) (oY O (bF O O) (oY O (yAI O) (oN ?_))))))))
           obtain rfl:=sI h
           exact eN ⟨_,O,(kp4 (kp4 (kp O)))⟩
         ·refine cF (vB n) (aJ (ak ?_))
          obtain rfl:=sI h
          exact aC ⟨O,_,O,(kp4 (kp4 (kp O)))⟩
        ·intro e L tm hJ
         rcases gf with oq|op
         ·dsimp only at h hJ
          obtain⟨rfl,fd,rfl,rfl⟩:=hJ
          refine⟨(by intro hc;cases hc),?_⟩
          refine al (al (ab ?_))
          obtain rfl:=sI h
          exact aC ⟨O,_,O,(kp4 O)⟩
         ·dsimp only at h hJ
          obtain⟨rfl,fE,rfl,rfl⟩:=hJ
          refine⟨(by intro hc;cases hc),?_⟩
          refine ai (au (aa (cR (oY O (yMI O) (oY O (bF O O) (oY O (yAI O) (oN ?_)))))))
          obtain rfl:=sI h
          exact eN ⟨_,O,(kp4 O)⟩
      ·clear h;rcases iOs f4 with⟨f,h⟩|⟨f,h⟩
       ·refine am (sF O O O O f) (am (sF O O O O f) (am (sF O O O O f) (am (sF O O O O f) (am (sF O O O O f) (am (sF O O O O f) (am (sF O O O O f) (am (sF O O O O f) (am (sF O O O O f) (am (sF O O O O f) (am (sF O O O O f) (am (sF O O O O f) (am (sF O O O O f) (qY O (ar (vB f) O) ?_)))))))))))))
        obtain rfl:=sI h
        exact key _ _ (kp4 (kp4 O))
       ·refine qY (sT O O O O f) (yFA cJ O) (qY (sT O O O O f) (yL 0 iM O O O) (qY (sT O O O O f) (yMI O) ?_))
        obtain⟨U,h⟩:=gOs h
        refine qY (sT O O O O f) (yI nG (by decide) U.1 U.2 (RdL.arg w) (eL ay O) O O) ?_
        refine qY (sT O O O O f) (yFR (A:=Aa) (j:=(Int.toNat G*3)) lX O) (qY (sT O O O O f) (yR (A:=Aa) (j:=((Int.toNat G*3)+1)) (v:=vI ((rdL p0.fNo G).fLevel)) bW (RdL.arg w) O (eG ay U.1 (av U.2 O) O)) (qY (sT O O O O f) (yFA cJ O) (qY (sT O O O O f) (yL 0 iM O O O) (qY (sT O O O O f) (yMI O) ?_))))
        obtain⟨X,h⟩:=gOs h
        refine qY (sT O O O O f) (yI nG (by decide) X.1 X.2 (RdL.arg w) (eL ay O) O O) ?_
        refine qY (sT O O O O f) (yFR (A:=Aa) (j:=(Int.toNat I*3)) lX O) (qY (sT O O O O f) (yR (A:=Aa) (j:=((Int.toNat I*3)+1)) (v:=vI ((rdL p0.fNo I).fLevel)) bW (RdL.arg w) O (eG ay X.1 (av X.2 O) O)) (qY (sT O O O O f) (rL O O) (qY O (ap (vB f) O) ?_)))
        obtain rfl:=sI h
        exact key _ _ (kp4 (kp4 O))
     ·rcases aD (decide (G<0))with d|d
      ·refine am (sF O O O O d) (am (sF O O O O d) (qY O (ar (vB d) O) ?_))
       exact key _ _ (keep (keep (keep (keep (keep (keep (keep (keep O O) O) O) O) O) O) O) (vB (pH d)))
      ·refine qY (sT O O O O d) (yMI O) (qY (sT O O O O d) (bN O O) (qY O (ap (vB d) O) ?_))
       exact key _ _ (keep (keep (keep (keep (keep (keep (keep (keep O O) O) O) O) O) O) O) (vB (pL d)))
    ·refine cF (vB R) (aJ (ak ?_))
     obtain rfl:=sI h
     exact aC ⟨O,_,O,(kp4 O)⟩
   ·intro e L tm hJ
    rcases g3 with ga|om
    ·dsimp only at h hJ
     obtain⟨rfl,fN,rfl,rfl⟩:=hJ
     refine⟨(by intro hc;cases hc),?_⟩
     refine al (ab ?_)
     obtain rfl:=sI h
     exact ao (.inl O) O (rVt (v:=.bool ga.1) O) (fun W2 u=>⟨O,u.none⟩)
    ·dsimp only at h hJ
     obtain⟨rfl,fn,rfl,rfl⟩:=hJ
     refine⟨(by intro hc;cases hc),?_⟩
     refine ai (aa (cS (cR (oY O (yAB O) (oN (aa (aq ?_)))))))
     obtain rfl:=sI h
     exact ao (.inl O) O (rVt (v:=.bool true) O) (fun W2 u=>⟨O,u.none⟩)
 ·clear h;rcases iOs g2 with⟨D,h⟩|⟨D,h⟩
  ·refine oSk (sF O O O O D) (oSk (sF O O O O D) (oSk (sF O O O O D) (oSk (sF O O O O D) (oSk (sF O O O O D) (oY O (ar (vB D) O) ?_)))))
   obtain rfl:=sI h
   exact key _ _ (kp4 O)
  ·refine oY (sT O O O O D) (yFA db O) (oY (sT O O O O D) (yL 1 kd O O O) (oY (sT O O O O D) (a8 (us:=[]) lJ O) ?_))
   obtain⟨gb,fl,h⟩:=bOs h
   refine oY (sT O O O O D) (yC [vI (p1.fO.length:Int),vI 1,vI 4] rZ O (fun W2 u=>jj (p1.fO.length:Int) 1 4 gb fl W2 ) O) (oY (sT O O O O D) (fa O) (oY O (ap (vB D) O) ?_))
   obtain rfl:=sI h
   exact key _ _ (kp4 O)
theorem rK (p0:TL) (res:Int) (h:kT p0=some res) (W:World) (Aa:Option Addr) (K ca:Nat) (T:K=p0.fNo.length) (D:Rd W Aa K ca (encL TNode_cells p0.fNo)) (Ab:Option Addr) (M cb:Nat) (g:List (Hd × TC)) (S:M=p0.fC.length) (u:Rd W Ab M cb (encL TClaim_cells2 g)) (o:NestW W (fun z:TC=>z.fO) THop_cells g p0.fC) :
  Calls Tryz.prog 66 [.agg #[.slice Aa K ca,.slice Ab M cb]].toArray W fun e W2=>e=.returned (vI res)∧Ext W W2 []:=by
 subst T
 subst S
 unfold kT at h
 refine ah (m:=78) Tryz.func66 O O (nB O) (cS (cR ?_))
 refine aO [.slice Aa p0.fNo.length ca,.slice Ab p0.fC.length cb] O O O (fun R=>?_)
 refine oY O (yAI O) (oN (aa (cS (cS (cR (oY O (yFA cJ O) (oY O (yL 0 iM O O O) (oY O (a8 (us:=[]) lM O) (oY O (i8 O O) (oY O (yMB O) ?_))))))))))
 refine oJ 5 (fun G=>(upd (upd (upd G 1 (.pointer (some ⟨R,0,none⟩))) 2 (vI 0)) 15 (.bool ((decide (60<(p0.fNo.length:Int)))||(decide (80<(p0.fC.length:Int))))))) (fun G=>?_) (fun key=>?_)
 ·refine oN (aa ?_)
  rcases iOs h with⟨q,h⟩|⟨q,h⟩
  ·refine cT (vB q) (cS (cR (oY O (yAI O) (oN (aa (aq (ab ?_)))))))
   obtain rfl:=sI h
   exact ao (.inl O) O (rVt (v:=vI 2) O) (fun W2 f=>⟨O,f.none⟩)
  ·refine cF (vB q) (cK (aa (cS (cS (cR (oY O (yAI O) (oN (aa (ae ?_)))))))))
   obtain⟨u6,l,h⟩:=bOs h
   refine cC (fun(s:(Int × Int)) L tm=>∃(G:Nat→Value),L=[aj R 25 [.slice Aa p0.fNo.length ca,.slice Ab p0.fC.length cb]]∧tm=(upd (upd (upd G 1 (.pointer (some ⟨R,0,none⟩))) 2 (vI s.1)) 3 (vI s.2))) 0 l ⟨_,O,(kp (kp (kp O)))⟩ ?_ ?_
   ·rintro H L tm st ⟨fd,rfl,rfl⟩ h
    unfold fY at h
    refine cS (cS (cR (oY O (yMI O) (oY O (yFA cJ O) (oY O (yL 0 iM O O O) (oY O (a8 (us:=[]) lM O) (oY O (bN O O) (oN (aa ?_)))))))))
    rcases iOs h with⟨n,h⟩|⟨n,h⟩
    ·refine cT (vB n) (cK (aa (cS (ae (cS (cR (oY O (yFA cJ O) (oY O (yL 0 iM O O O) (oY O (yMI O) ?_)))))))))
     obtain⟨V,h⟩:=gOs h
     refine oY O (yI nG (by decide) V.1 V.2 (RdL.arg D) (eL ay O) O O) ?_
     refine oY O (yM (A:=Aa) (j:=(Int.toNat H.2*3)) [vI ((rdL p0.fNo H.2).fID),vI ((rdL p0.fNo H.2).fLevel),vI ((rdL p0.fNo H.2).fCost)] ag_97 (Nat.succ_pos _) (RdL.arg D) O (bR ay V.1 (av V.2 O))) ?_
     refine aT nO O (fun b9=>?_)
     refine d9 O (yS 1 [vI ((rdL p0.fNo H.2).fID),vI ((rdL p0.fNo H.2).fLevel),vI ((rdL p0.fNo H.2).fCost)] sz_97 O (nB O) O O O) (oN (aa (cS (cS (cR (oY O (yFA g6 O) (oY O (yL 1 bW O O O) ?_)))))))
     obtain⟨fE,t,h⟩:=bOs h
     refine oY O (yC [vI ((rdL p0.fNo H.2).fID),vI 1,vI 1099511627776] rZ O (fun W2 f=>jj ((rdL p0.fNo H.2).fID) 1 1099511627776 fE t W2 ) O) (oY O (fa O) (oY O (yMB O) ?_))
     obtain⟨fN,a,h⟩:=bOs h
     refine oJ 5 (fun G=>(upd (upd (upd (upd (upd (upd G 1 (.pointer (some ⟨R,0,none⟩))) 2 (vI H.1)) 3 (vI H.2)) 20 (.bool (decide (H.2<(p0.fNo.length:Int))))) 4 (.pointer (some ⟨b9,0,none⟩))) 37 (.bool fN))) (fun G=>?_) (fun key=>?_)
     ·refine oY O (yMB O) ?_
      obtain⟨fn,i,h⟩:=bOs h
      refine oJ 5 (fun G=>(upd (upd (upd (upd (upd (upd G 1 (.pointer (some ⟨R,0,none⟩))) 2 (vI H.1)) 3 (vI H.2)) 20 (.bool (decide (H.2<(p0.fNo.length:Int))))) 4 (.pointer (some ⟨b9,0,none⟩))) 43 (.bool fn))) (fun G=>?_) (fun key=>?_)
      ·refine oN (aa ?_)
       rcases iOs h with⟨N,h⟩|⟨N,h⟩
       ·refine cT (vB N) (cS (cR (oY O (yAI O) (oN (aa (aq (ab (al (ab (aX 1 ?_))))))))))
        obtain rfl:=sI h
        exact aC ⟨O,_,O,(kp (kp (kp O)))⟩
       ·refine cF (vB N) (cK (aa (cS (cR (oY O (yN 0 [.slice Aa p0.fNo.length ca,.slice Ab p0.fC.length cb] aR O O O) (oY O (yFA g6 O) (oY O (yL 1 bW O O O) ?_)))))))
        obtain⟨fl,k,h⟩:=bOs h
        refine oY O (yC [.agg #[.slice Aa p0.fNo.length ca,.slice Ab p0.fC.length cb],vI ((rdL p0.fNo H.2).fID)] tg O (fun W2 f=>eH p0 ((rdL p0.fNo H.2).fID) fl k W2 Aa p0.fNo.length ca O ((RdL.arg D) W2 f) Ab p0.fC.length cb g O ((RdL.arg u) W2 f) (NestL.at (NestL.arg o) W2 f)) O) (oY O (yMI O) (oY O (bN O O) (oN (aa ?_))))
        rcases iOs h with⟨Q,h⟩|⟨Q,h⟩
        ·refine cT (vB Q) (cS (cR (oY O (yAI O) (oN (aa (aq (al (ab (aX 1 ?_)))))))))
         obtain rfl:=sI h
         exact aC ⟨O,_,O,(kp (kp (kp O)))⟩
        ·refine cF (vB Q) (cK (au (aa (cR (oY O (yMI O) (oY O (bF O O) (oY O (yAI O) (oN (aX 1 ?_)))))))))
         obtain rfl:=sI h
         exact eN ⟨_,O,(kp (kp (kp O)))⟩
      ·clear h;rcases iOs i with⟨d,h⟩|⟨d,h⟩
       ·refine oSk (sF O O O O d) (oSk (sF O O O O d) (oSk (sF O O O O d) (oSk (sF O O O O d) (oY O (ar (vB d) O) ?_))))
        obtain rfl:=sI h
        exact key _ _ (kp4 (kp (kp O)))
       ·refine oY (sT O O O O d) (yFA fo_97_2 O) (oY (sT O O O O d) (yL 1 bW O O O) ?_)
        obtain⟨g1,x,h⟩:=bOs h
        refine oY (sT O O O O d) (yC [vI ((rdL p0.fNo H.2).fCost),vI 0,vI 1073741824] rZ O (fun W2 f=>jj ((rdL p0.fNo H.2).fCost) 0 1073741824 g1 x W2 ) O) (oY (sT O O O O d) (fa O) (oY O (ap (vB d) O) ?_))
        obtain rfl:=sI h
        exact key _ _ (kp4 (kp (kp O)))
     ·clear h;rcases iOs a with⟨w,h⟩|⟨w,h⟩
      ·refine oSk (sF O O O O w) (oSk (sF O O O O w) (oSk (sF O O O O w) (oSk (sF O O O O w) (oY O (ar (vB w) O) ?_))))
       obtain rfl:=sI h
       exact key _ _ (kp4 (kp (kp O)))
      ·refine oY (sT O O O O w) (yFA lX O) (oY (sT O O O O w) (yL 1 bW O O O) ?_)
       obtain⟨g2,y,h⟩:=bOs h
       refine oY (sT O O O O w) (yC [vI ((rdL p0.fNo H.2).fLevel),vI 0,vI 9] rZ O (fun W2 f=>jj ((rdL p0.fNo H.2).fLevel) 0 9 g2 y W2 ) O) (oY (sT O O O O w) (fa O) (oY O (ap (vB w) O) ?_))
       obtain rfl:=sI h
       exact key _ _ (kp4 (kp (kp O)))
    ·refine cF (vB n) (aJ (ak ?_))
     obtain rfl:=sI h
     exact aC ⟨O,_,O,(kp (kp (kp O)))⟩
   ·intro e L tm hJ
    rcases u6 with g3|om
    ·dsimp only at h hJ
     obtain⟨rfl,b,rfl,rfl⟩:=hJ
     refine⟨(by intro hc;cases hc),?_⟩
     refine al (ab ?_)
     obtain rfl:=sI h
     exact ao (.inl O) O (rVt (v:=vI g3.1) O) (fun W2 f=>⟨O,f.none⟩)
    ·dsimp only at h hJ
     obtain⟨rfl,c,rfl,rfl⟩:=hJ
     refine⟨(by intro hc;cases hc),?_⟩
     refine ai (aa (cS (cS (cR (oY O (yAI O) (oN (aa (ae ?_))))))))
     obtain⟨gf,f0,h⟩:=bOs h
     refine cC (fun(s:(Int × Int)) L tm=>∃(G:Nat→Value),L=[aj R 25 [.slice Aa p0.fNo.length ca,.slice Ab p0.fC.length cb]]∧tm=(upd (upd (upd G 1 (.pointer (some ⟨R,0,none⟩))) 2 (vI s.1)) 5 (vI s.2))) 2 f0 ⟨_,O,(kp (kp (kp O)))⟩ ?_ ?_
     ·rintro r L tm st ⟨f1,rfl,rfl⟩ h
      unfold fK at h
      refine cS (cS (cR (oY O (yMI O) (oY O (yFA bp O) (oY O (yL 0 eZ O O O) (oY O (a8 (us:=[]) kj O) (oY O (bN O O) (oN (aa ?_)))))))))
      rcases iOs h with⟨U,h⟩|⟨U,h⟩
      ·refine cT (vB U) (cK (aa (cS (ae (cS (cS ?_))))))
       refine bl 8 di (by kernel_rfl) (by kernel_rfl) ?_
       refine qY O (yN 0 [.slice Aa p0.fNo.length ca,.slice Ab p0.fC.length cb] aR O O O) (qY O (yFA bp O) (qY O (yL 0 eZ O O O) (qY O (yMI O) ?_)))
       obtain⟨F,h⟩:=gOs h
       refine qY O (yI kx (by decide) F.1 F.2 (RdL.arg u) (eL ad (NestP.hn o.p O)) O O) ?_
       refine qY O (yM (A:=Ab) (j:=(Int.toNat r.2*2)) [vI ((rdL p0.fC r.2).fID),.slice ((rdL g r.2).1.1) ((rdL p0.fC r.2).fO.length) ((rdL g r.2).1.2.2)] ag_90 (Nat.succ_pos _) (RdL.arg u) O (nI (dD (NestP.snd o.p r.2) (NestP.len o.p F.1 (av F.2 O))).symm (bR ad F.1 (av F.2 (NestP.hn o.p O))))) ?_
       obtain⟨ga,f2,h⟩:=bOs h
       refine qY O (yC [.agg #[.slice Aa p0.fNo.length ca,.slice Ab p0.fC.length cb],.agg #[vI ((rdL p0.fC r.2).fID),.slice ((rdL g r.2).1.1) ((rdL p0.fC r.2).fO.length) ((rdL g r.2).1.2.2)]] go_123 O (fun W2 f=>rJ p0 (TC.mk ((rdL p0.fC r.2).fID) ((rdL p0.fC r.2).fO)) ga f2 W2 Aa p0.fNo.length ca O ((RdL.arg D) W2 f) Ab p0.fC.length cb g O ((RdL.arg u) W2 f) (NestL.at (NestL.arg o) W2 f) ((rdL g r.2).1.1) ((rdL p0.fC r.2).fO.length) ((rdL g r.2).1.2.2) O ((NestL.rd (NestL.arg o) F.1 (av F.2 O)) W2 f)) O) (qY O (fa O) (dq (oN (aa ?_))))
       rcases iOs h with⟨X,h⟩|⟨X,h⟩
       ·refine cT (vB X) (cS (cR (oY O (yAI O) (oN (aa (aq (ab (al (ab ?_)))))))))
        obtain rfl:=sI h
        exact aC ⟨O,_,O,(kp (kp (kp O)))⟩
       ·refine cF (vB X) (cK (aa (cS ?_)))
        refine bl 10 di (by kernel_rfl) (by kernel_rfl) ?_
        refine qY O (yN 0 [.slice Aa p0.fNo.length ca,.slice Ab p0.fC.length cb] aR O O O) (qY O (yFA bp O) (qY O (yL 0 eZ O O O) (qY O (yMI O) ?_)))
        obtain⟨I,h⟩:=gOs h
        refine qY O (yI kx (by decide) I.1 I.2 (RdL.arg u) (eL ad (NestP.hn o.p O)) O O) ?_
        refine qY O (yFR (A:=Ab) (j:=(Int.toNat r.2*2)) kk O) (qY O (yR (A:=Ab) (j:=((Int.toNat r.2*2)+0)) (v:=vI ((rdL p0.fC r.2).fID)) bW (RdL.arg u) O (eG ad I.1 (av I.2 (NestP.hn o.p O)) (congrArg (fun z:TC=>some (Value.int .i64 z.fID)) (NestP.snd o.p r.2)))) ?_)
        obtain⟨gb,f3,h⟩:=bOs h
        refine qY O (yC [.agg #[.slice Aa p0.fNo.length ca,.slice Ab p0.fC.length cb],vI ((rdL p0.fC r.2).fID)] go_105 O (fun W2 f=>nz p0 ((rdL p0.fC r.2).fID) gb f3 W2 Aa p0.fNo.length ca O ((RdL.arg D) W2 f) Ab p0.fC.length cb g O ((RdL.arg u) W2 f) (NestL.at (NestL.arg o) W2 f)) O) (qY O (yMI O) (qY O (bN O O) (dq (oN (aa ?_)))))
        rcases iOs h with⟨Y,h⟩|⟨Y,h⟩
        ·refine cT (vB Y) (cS (cR (oY O (yAI O) (oN (aa (aq (al (ab ?_))))))))
         obtain rfl:=sI h
         exact aC ⟨O,_,O,(kp (kp (kp O)))⟩
        ·refine cF (vB Y) (cK (au (aa (cR (oY O (yMI O) (oY O (bF O O) (oY O (yAI O) (oN ?_))))))))
         obtain rfl:=sI h
         exact eN ⟨_,O,(kp (kp (kp O)))⟩
      ·refine cF (vB U) (aJ (ak ?_))
       obtain rfl:=sI h
       exact aC ⟨O,_,O,(kp (kp (kp O)))⟩
     ·intro e L tm hJ
      rcases gf with o0|ot
      ·dsimp only at h hJ
       obtain⟨rfl,f4,rfl,rfl⟩:=hJ
       refine⟨(by intro hc;cases hc),?_⟩
       refine al (ab ?_)
       obtain rfl:=sI h
       exact ao (.inl O) O (rVt (v:=vI o0.1) O) (fun W2 f=>⟨O,f.none⟩)
      ·dsimp only at h hJ
       obtain⟨rfl,f9,rfl,rfl⟩:=hJ
       refine⟨(by intro hc;cases hc),?_⟩
       refine ai (aa (cS (cS (cR (oY O (yN 0 [.slice Aa p0.fNo.length ca,.slice Ab p0.fC.length cb] aR O O O) ?_)))))
       obtain⟨o1,fr,h⟩:=bOs h
       refine oY O (yC [.agg #[.slice Aa p0.fNo.length ca,.slice Ab p0.fC.length cb]] go_83 O (fun W2 f=>nA p0 o1 fr W2 Aa p0.fNo.length ca O ((RdL.arg D) W2 f) Ab p0.fC.length cb g O ((RdL.arg u) W2 f) (NestL.at (NestL.arg o) W2 f)) O) (oY O (i8 O O) (oN (aa ?_)))
       rcases iOs h with⟨Z,h⟩|⟨Z,h⟩
       ·refine cT (vB Z) (cS (cR (oY O (yAI O) (oN (aa (aq (ab ?_)))))))
        obtain rfl:=sI h
        exact ao (.inl O) O (rVt (v:=vI 2) O) (fun W2 f=>⟨O,f.none⟩)
       ·refine cF (vB Z) (cK (aa (cS (cR (oY O (yAI O) (oN (aa (aq ?_))))))))
        obtain rfl:=sI h
        exact ao (.inl O) O (rVt (v:=vI 0) O) (fun W2 f=>⟨O,f.none⟩)
 ·rcases aD (decide (60<(p0.fNo.length:Int)))with E|E
  ·refine oSk (sF O O O O E) (oSk (sF O O O O E) (oSk (sF O O O O E) (oSk (sF O O O O E) (oY O (ar (vB E) O) ?_))))
   exact key _ _ (keep (keep (keep O O) O) (vB (pH E)))
  ·refine oY (sT O O O O E) (yFA bp O) (oY (sT O O O O E) (yL 0 eZ O O O) (oY (sT O O O O E) (a8 (us:=[]) kj O) (oY (sT O O O O E) (i8 O O) (oY O (ap (vB E) O) ?_))))
   exact key _ _ (keep (keep (keep O O) O) (vB (pL E)))
theorem mU (p0:(List Int)) (p1:Int) (res:Bool) (h:lp p0 p1=some res) (W:World) (Aa:Option Addr) (f ca:Nat) (r:f=p0.length) (g:Rd W Aa f ca (encL cI p0)) :
  Calls Tryz.prog 82 [.slice Aa f ca,vI p1].toArray W fun e W2=>e=.returned (.bool res)∧Ext W W2 []:=by
 subst r
 unfold lp at h
 refine ah (m:=18) Tryz.func82 O O (nB O) (cS (cR (oY O (yAB O) (oN (aa (cS (cS (cR (oY O (yAI O) (oN (aa (ae ?_))))))))))))
 obtain⟨K,G,h⟩:=bOs h
 refine cC (fun(s:(Bool × Int)) L tm=>∃(H:Nat→Value),L=[]∧tm=(upd (upd (upd (upd H 0 (.slice Aa p0.length ca)) 1 (vI p1)) 4 (.bool s.1)) 5 (vI s.2))) 0 G ⟨_,O,(kp4 O)⟩ ?_ ?_
 ·rintro I L tm st ⟨D,rfl,rfl⟩ h
  unfold ij at h
  refine cS (cS (cR (oY O (yMI O) (oY O (yMS O) (oY O (a8 (us:=[]) bj O) (oY O (bN O O) (oN (aa ?_))))))))
  rcases iOs h with⟨u,h⟩|⟨u,h⟩
  ·refine cT (vB u) (cK (aa (cS (ae (cS (cR (oY O (yMS O) (oY O (yMI O) ?_))))))))
   obtain⟨o,h⟩:=gOs h
   refine oY O (yI dC (by decide) o.1 o.2 (RdL.arg g) (eL ax O) O O) ?_
   refine oY O (yR (A:=Aa) (j:=(Int.toNat I.2*1)) (v:=vI (rdL p0 I.2)) bW (RdL.arg g) O (aG ax o.1 (av o.2 O) O)) (oY O (yMI O) (oY O (ge O O) (oN (aa ?_))))
   rcases iOs h with⟨d,h⟩|⟨d,h⟩
   ·refine cT (vB d) (cS (cR (oY O (yAB O) (oN (aa (aq (al (ab ?_))))))))
    obtain rfl:=sI h
    exact aC ⟨O,_,O,(kp4 O)⟩
   ·refine cF (vB d) (cK (au (aa (cR (oY O (yMI O) (oY O (bF O O) (oY O (yAI O) (oN ?_))))))))
    obtain rfl:=sI h
    exact eN ⟨_,O,(kp4 O)⟩
  ·refine cF (vB u) (aJ (ak ?_))
   obtain rfl:=sI h
   exact aC ⟨O,_,O,(kp4 O)⟩
 ·intro e L tm hJ
  rcases K with M|N
  ·dsimp only at h hJ
   obtain⟨rfl,E,rfl,rfl⟩:=hJ
   refine⟨(by intro hc;cases hc),?_⟩
   refine al (ab ?_)
   obtain rfl:=sI h
   exact ao (.inl O) O (rVt (v:=.bool M.1) O) (fun W2 w=>⟨O,w.none⟩)
  ·dsimp only at h hJ
   obtain⟨rfl,F,rfl,rfl⟩:=hJ
   refine⟨(by intro hc;cases hc),?_⟩
   refine ai (aa (cS (cR (oY O (yAB O) (oN (aa (aq ?_)))))))
   obtain rfl:=sI h
   exact ao (.inl O) O (rVt (v:=.bool false) O) (fun W2 w=>⟨O,w.none⟩)
theorem rt (p0:(List Int)) (res:Bool) (h:jO p0=some res) (W:World) (Aa:Option Addr) (g ca:Nat) (u:g=p0.length) (f:Rd W Aa g ca (encL cI p0)) :
  Calls Tryz.prog 137 [.slice Aa g ca].toArray W fun e W2=>e=.returned (.bool res)∧Ext W W2 []:=by
 subst u
 unfold jO at h
 refine ah (m:=20) Tryz.func137 O O (nB O) (cS (cR (oY O (yAB O) (oN (aa (cS (cS (cR (oY O (yAI O) (oN (aa (ae ?_))))))))))))
 obtain⟨M,I,h⟩:=bOs h
 refine cC (fun(s:(Bool × Int)) L tm=>∃(K:Nat→Value),L=[]∧tm=(upd (upd (upd K 0 (.slice Aa p0.length ca)) 2 (.bool s.1)) 3 (vI s.2))) 0 I ⟨_,O,(kp (kp (kp O)))⟩ ?_ ?_
 ·rintro F L tm st ⟨G,rfl,rfl⟩ h
  unfold dj at h
  refine cS (cS (cR (oY O (yMI O) (oY O (yMS O) (oY O (a8 (us:=[]) bj O) (oY O (bN O O) (oN (aa ?_))))))))
  rcases iOs h with⟨d,h⟩|⟨d,h⟩
  ·refine cT (vB d) (cK (aa (cS (ae (cS ?_)))))
   refine bl 10 di (by kernel_rfl) (by kernel_rfl) ?_
   refine qY O (yMS O) (qY O (yMI O) ?_)
   obtain⟨o,h⟩:=gOs h
   refine qY O (yI dC (by decide) o.1 o.2 (RdL.arg f) (eL ax O) O O) ?_
   refine qY O (yR (A:=Aa) (j:=(Int.toNat F.2*1)) (v:=vI (rdL p0 F.2)) bW (RdL.arg f) O (aG ax o.1 (av o.2 O) O)) (qY O (yMS O) (qY O (yMI O) (qY O (mY O O) ?_)))
   obtain⟨r,h⟩:=gOs h
   refine qY O (yI dC (by decide) r.1 r.2 (RdL.arg f) (eL ax O) O O) ?_
   refine qY O (yR (A:=Aa) (j:=(Int.toNat (w64 (F.2-1))*1)) (v:=vI (rdL p0 (w64 (F.2-1)))) bW (RdL.arg f) O (aG ax r.1 (av r.2 O) O)) (qY O (pO O O) (dq (oN (aa ?_))))
   rcases iOs h with⟨w,h⟩|⟨w,h⟩
   ·refine cT (vB w) (cS (cR (oY O (yAB O) (oN (aa (aq (al (ab ?_))))))))
    obtain rfl:=sI h
    exact aC ⟨O,_,O,(kp (kp (kp O)))⟩
   ·refine cF (vB w) (cK (au (aa (cR (oY O (yMI O) (oY O (bF O O) (oY O (yAI O) (oN ?_))))))))
    obtain rfl:=sI h
    exact eN ⟨_,O,(kp (kp (kp O)))⟩
  ·refine cF (vB d) (aJ (ak ?_))
   obtain rfl:=sI h
   exact aC ⟨O,_,O,(kp (kp (kp O)))⟩
 ·intro e L tm hJ
  rcases M with N|Q
  ·dsimp only at h hJ
   obtain⟨rfl,H,rfl,rfl⟩:=hJ
   refine⟨(by intro hc;cases hc),?_⟩
   refine al (ab ?_)
   obtain rfl:=sI h
   exact ao (.inl O) O (rVt (v:=.bool N.1) O) (fun W2 D=>⟨O,D.none⟩)
  ·dsimp only at h hJ
   obtain⟨rfl,E,rfl,rfl⟩:=hJ
   refine⟨(by intro hc;cases hc),?_⟩
   refine ai (aa (cS (cR (oY O (yAB O) (oN (aa (aq ?_)))))))
   obtain rfl:=sI h
   exact ao (.inl O) O (rVt (v:=.bool true) O) (fun W2 D=>⟨O,D.none⟩)
end Go.Proofs.YtbblpokfbmekfaaGreat
