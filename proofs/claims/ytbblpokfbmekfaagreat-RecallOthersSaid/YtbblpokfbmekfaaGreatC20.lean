import Derived.Test.YtbblpokfbmekfaaGreatF
import Derived.Test.YtbblpokfbmekfaaGreatG8
import Derived.Test.YtbblpokfbmekfaaGreatC1
import Derived.Test.YtbblpokfbmekfaaGreatC3
import Derived.Test.YtbblpokfbmekfaaGreatGv
set_option maxHeartbeats 4000000
set_option maxRecDepth 100000
set_option linter.unusedVariables false
namespace Go.Proofs.YtbblpokfbmekfaaGreat
open Go.RowKit (Below)
attribute [local irreducible] OX QX CX EX OpY Calls CallsIn
theorem rW (p0:TL) (p1:(List Int)) (p2:Int) (res:((List Int) × Int)) (h:lU p0 p1 p2=some res) (W:World) (Aa:Option Addr) (G ca:Nat) (V:G=p0.fNo.length) (H:Rd W Aa G ca (encL TNode_cells p0.fNo)) (Ab:Option Addr) (I cb:Nat) (g:List (Hd × TC)) (T:I=p0.fC.length) (w:Rd W Ab I cb (encL TClaim_cells2 g)) (o:NestW W (fun z:TC=>z.fO) THop_cells g p0.fC) (Ac:Option Addr) (K cc:Nat) (S:K=p1.length) (D:Rd W Ac K cc (encL cI p1)) :
  Calls Tryz.prog 28 [.agg #[.slice Aa G ca,.slice Ab I cb],.slice Ac K cc,vI p2].toArray W fun e W2=>∃x:Option Addr × Nat × Nat,x.2.1=res.1.length∧e=.returned (.tuple #[.slice x.1 x.2.1 x.2.2,vI res.2])∧Ext W W2 [aO x.1 x.2.2 3 1 x.2.1 (encL cI res.1)]:=by
 subst V
 subst T
 subst S
 unfold lU at h
 refine ae (m:=56) Tryz.func28 O O (nB O) (cS (cR ?_))
 refine aP [.slice Aa p0.fNo.length ca,.slice Ab p0.fC.length cb] O O O (fun b1=>?_)
 refine oY O (yAS O) (oY O (yAI O) (oN (eT (cS (cS (cR (oY O (yN 0 [.slice Aa p0.fNo.length ca,.slice Ab p0.fC.length cb] aF O O O) (oY O (yMS O) (oY O (yMI O) ?_)))))))))
 obtain⟨y2,fl,h⟩:=bOs h
 refine oY O (yC [.agg #[.slice Aa p0.fNo.length ca,.slice Ab p0.fC.length cb],.slice Ac p1.length cc,vI p2] go_74 O (fun W2 f=>gv p0 p1 p2 y2 fl W2 Aa p0.fNo.length ca O ((RdL.arg H) W2 f) Ab p0.fC.length cb g O ((RdL.arg w) W2 f) (NestL.at (NestL.arg o) W2 f) Ac p1.length cc O ((RdL.arg D) W2 f)) O) (oY O (yAI O) (oN (eT (cS (cR (oY O (yMI O) (oY O (dD O O) (oN (eT ?_)))))))))
 rcases iOs h with⟨R,h⟩|⟨R,h⟩
 ·refine cT (vB R) (cS (cR (oY O (yMI O) (oY O (yAS O) (oY O (yAI O) (oN (eT (ak (ab ?_)))))))))
  obtain rfl:=sI h
  exact bx (.inl O) O (rVt (v:=.slice none 0 0) O) (rVt (v:=vI y2) O) (fun W2 f=>⟨(none,0,0),O,O,((f.nilrow 3 1).pick 1 O)⟩)
 ·refine cF (vB R) (cK (eT (cS (cS (cR (oY O (yMS O) (oY O (yMI O) ?_)))))))
  obtain⟨y5,g1,h⟩:=bOs h
  refine oY O (yC [.slice Ac p1.length cc,vI p2] go_80 O (fun W2 f=>dX p1 p2 y5 g1 W2 Ac p1.length cc O ((RdL.arg D) W2 f)) O) (oN (eT ?_))
  rcases iOs h with⟨q,h⟩|⟨q,h⟩
  ·refine cT (vB q) (cS (cR (oY O (yAS O) (oY O (yAI O) (oN (eT (ak (ab ?_))))))))
   obtain rfl:=sI h
   exact bx (.inl O) O (rVt (v:=.slice none 0 0) O) (rVt (v:=vI 5) O) (fun W2 f=>⟨(none,0,0),O,O,((f.nilrow 3 1).pick 1 O)⟩)
  ·refine cF (vB q) (cK (eT (cS (cR ?_))))
   refine jx 3 kI dx kB false O (fun Y=>?_)
   refine oY O (bC O) (oN (eT (cS (cS (cR (oY O (yFA aD O) (oY O (yL 0 bT O O O) (oY O (bd (us:=[]) dQ O) (oY O (yMI O) (oN (eT (cB ?_))))))))))))
   obtain⟨g2,t,h⟩:=bOs h
   refine bF (fun(s:(Int × (List (Int × Bool)))) L tm=>∃(n:Nat→Value),L=[aj b1 25 [.slice Aa p0.fNo.length ca,.slice Ab p0.fC.length cb],mapV Tryz.prog 3 kI dx kB false Y s.2]∧tm=(upd (upd (upd (upd (upd (upd (upd (upd (upd n 1 (.slice Ac p1.length cc)) 2 (vI p2)) 3 (.pointer (some ⟨b1,0,none⟩))) 6 (.slice none 0 0)) 7 (vI 0)) 9 (.map (some Y))) 26 (.slice Ab p0.fC.length cb)) 27 (vI (p0.fC.length:Int))) 28 (vI s.1))) 0 t ⟨_,O,(kp4 (kp4 (kp O)))⟩ ?_ ?_
   ·rintro r L tm st ⟨a,rfl,rfl⟩ h
    unfold kj at h
    refine cS (cR (oY O (bA O O) (oN (eT (cS ?_)))))
    rcases iOs h with⟨M,h⟩|⟨M,h⟩
    ·refine cT (vB M) (cK (eT (cS (cB (cS (cR ?_))))))
     obtain⟨d,h⟩:=gOs h
     refine oY O (yI dY (by decide) d.1 d.2 (RdL.arg w) (eL aa (NestP.hn o.p O)) O O) ?_
     refine oY O (yM (A:=Ab) (j:=(Int.toNat r.1*2)) [vI ((rdL p0.fC r.1).fID),.slice ((rdL g r.1).1.1) ((rdL p0.fC r.1).fO.length) ((rdL g r.1).1.2.2)] lX (Nat.succ_pos _) (RdL.arg w) O (iL (a6 (NestP.snd o.p r.1) (NestP.len o.p d.1 (ao d.2 O))).symm (aM aa d.1 (ao d.2 (NestP.hn o.p O))))) ?_
     refine aC gR O (fun op=>?_)
     refine cr O (yS 2 [vI ((rdL p0.fC r.1).fID),.slice ((rdL g r.1).1.1) ((rdL p0.fC r.1).fO.length) ((rdL g r.1).1.2.2)] rY O (nB O) O O O) (oN (eT (cR (oY O (bm O) (oY O (yFA fh O) (oY O (yL 2 bN O O O) ?_))))))
     obtain⟨i,h⟩:=gOs h
     refine cr O (iR 1 (k:=(rdL p0.fC r.1).fID) (v:=true) O mR ku O O O i) (oN (aq (eT (cR (oY O (bc O O) (oY O (yMI O) (oN (aS 2 ?_))))))))
     obtain rfl:=sI h
     exact eN ⟨_,O,(kp4 (kp4 (kp O)))⟩
    ·refine cF (vB M) (aK (ah ?_))
     obtain rfl:=sI h
     exact ay ⟨O,_,O,(kp4 (kp4 (kp O)))⟩
   ·intro e L tm hJ
    obtain⟨rfl,y,rfl,rfl⟩:=hJ
    refine⟨(by intro hc;cases hc),?_⟩
    refine ag (eT (cS (cS (cR (oY O (bm O) ?_)))))
    obtain⟨u,b,h⟩:=bOs h
    refine oC [.map (some Y)] _ _ _ O go_96 O (fun W2 f=>d8 g2.2 u b W2 Y ((MpL.own 1 O) W2 f)) ?_
    rintro⟨l,g3,c⟩ N
    replace N:g3=u.length:=N;subst N
    refine oY O (bd (us:=[]) c6 O) (oY O (yMI O) (oN (eT (cB ?_))))
    obtain⟨gf,f0,h⟩:=bOs h
    refine bF (fun(s:(Int × (List (Int × Bool)))) L tm=>∃(n:Nat→Value),L=[aj b1 25 [.slice Aa p0.fNo.length ca,.slice Ab p0.fC.length cb],mapV Tryz.prog 3 kI dx kB false Y s.2,aO l c 3 1 u.length (encL cI u)]∧tm=(upd (upd (upd (upd (upd (upd (upd (upd (upd n 1 (.slice Ac p1.length cc)) 2 (vI p2)) 3 (.pointer (some ⟨b1,0,none⟩))) 6 (.slice none 0 0)) 7 (vI 0)) 9 (.map (some Y))) 37 (.slice l u.length c)) 38 (vI (u.length:Int))) 39 (vI s.1))) 2 f0 ⟨_,O,(kp4 (kp4 (kp O)))⟩ ?_ ?_
    ·rintro F L tm st ⟨f1,rfl,rfl⟩ h
     unfold kr at h
     refine cS (cR (oY O (bA O O) (oN (eT (cS ?_)))))
     rcases iOs h with⟨Q,h⟩|⟨Q,h⟩
     ·refine cT (vB Q) (cK (eT (cS (cB (cS (cR ?_))))))
      obtain⟨E,h⟩:=gOs h
      refine oY O (yI gM (by decide) E.1 E.2 (RdL.row 2 O) (eL aG O) O O) ?_
      refine oY O (yR (A:=l) (j:=(Int.toNat F.1*1)) (v:=vI (rdL u F.1)) bN (RdL.row 2 O) O (bB aG E.1 (ao E.2 O) O)) (oY O (yAI O) (oN (eT (cS (cR (oY O (bm O) (oY O (yMI O) ?_)))))))
      obtain⟨f2,h⟩:=gOs h
      refine cr O (iR 1 (k:=(rdL u F.1)) (v:=false) O mR ku O O O f2) (oN (eT (cS (cR (oY O (yN 0 [.slice Aa p0.fNo.length ca,.slice Ab p0.fC.length cb] aF O O O) (oY O (yMS O) (oY O (yMI O) (oY O (bm O) ?_))))))))
      obtain⟨o0,f3,h⟩:=bOs h
      refine oY O (yC [.agg #[.slice Aa p0.fNo.length ca,.slice Ab p0.fC.length cb],.slice Ac p1.length cc,vI p2,.map (some Y)] go_97 O (fun W2 f=>qn p0 p1 p2 (((rdL u F.1),false)::F.2) o0 f3 W2 Aa p0.fNo.length ca O ((RdL.arg H) W2 f) Ab p0.fC.length cb g O ((RdL.arg w) W2 f) (NestL.at (NestL.arg o) W2 f) Ac p1.length cc O ((RdL.arg D) W2 f) Y ((MpL.own 1 O) W2 f)) O) (oY O (fe O) (oN (eT ?_)))
      rcases iOs h with⟨U,h⟩|⟨U,h⟩
      ·refine cT (vB U) (cR (oY O (bm O) (oY O (yMI O) ?_)))
       obtain⟨f4,h⟩:=gOs h
       refine cr O (iR 1 (k:=(rdL u F.1)) (v:=true) O mR ku O O O f4) (oN (aq (eT (cR (oY O (bc O O) (oY O (yMI O) (oN ?_)))))))
       obtain rfl:=sI h
       exact eN ⟨_,O,(kp4 (kp4 (kp O)))⟩
      ·refine cF (vB U) (cK (aq (eT (cR (oY O (bc O O) (oY O (yMI O) (oN ?_)))))))
       obtain rfl:=sI h
       exact eN ⟨_,O,(kp4 (kp4 (kp O)))⟩
     ·refine cF (vB Q) (aK (ah ?_))
      obtain rfl:=sI h
      exact ay ⟨O,_,O,(kp4 (kp4 (kp O)))⟩
    ·intro e L tm hJ
     obtain⟨rfl,fr,rfl,rfl⟩:=hJ
     refine⟨(by intro hc;cases hc),?_⟩
     refine ag (eT (cS (cR (oY O (bm O) ?_))))
     obtain⟨Z,fd,h⟩:=bOs h
     refine oC [.map (some Y)] _ _ _ O go_96 O (fun W2 f=>d8 gf.2 Z fd W2 Y ((MpL.own 1 O) W2 f)) ?_
     rintro⟨fE,o1,fN⟩ X
     replace X:o1=Z.length:=X;subst X
     refine oY O (yAS O) (oY O (yAI O) (oN (eT (ak ?_))))
     obtain rfl:=sI h
     exact bx (.inl O) O (rVt (v:=.slice fE Z.length fN) O) (rVt (v:=vI 0) O) (fun W2 f=>⟨(fE,Z.length,fN),O,O,(f.pick 3 O)⟩)
theorem pM (p0:TL) (p1:(List Int)) (res:((List Int) × Int)) (h:eo p0 p1=some res) (W:World) (Aa:Option Addr) (o ca:Nat) (G:o=p0.fNo.length) (r:Rd W Aa o ca (encL TNode_cells p0.fNo)) (Ab:Option Addr) (u cb:Nat) (g:List (Hd × TC)) (H:u=p0.fC.length) (d:Rd W Ab u cb (encL TClaim_cells2 g)) (w:NestW W (fun z:TC=>z.fO) THop_cells g p0.fC) (Ac:Option Addr) (D cc:Nat) (I:D=p1.length) (E:Rd W Ac D cc (encL cI p1)) :
  Calls Tryz.prog 34 [.agg #[.slice Aa o ca,.slice Ab u cb],.slice Ac D cc].toArray W fun e W2=>∃x:Option Addr × Nat × Nat,x.2.1=res.1.length∧e=.returned (.tuple #[.slice x.1 x.2.1 x.2.2,vI res.2])∧Ext W W2 [aO x.1 x.2.2 3 1 x.2.1 (encL cI res.1)]:=by
 subst G
 subst H
 subst I
 unfold eo at h
 refine ae (m:=17) Tryz.func34 O O (nB O) (cS (cR ?_))
 refine aP [.slice Aa p0.fNo.length ca,.slice Ab p0.fC.length cb] O O O (fun R=>?_)
 refine oY O (yAS O) (oY O (yAI O) (oN (eT (cS (cS (cR (oY O (yN 0 [.slice Aa p0.fNo.length ca,.slice Ab p0.fC.length cb] aF O O O) (oY O (yMS O) ?_))))))))
 obtain⟨V,U,h⟩:=bOs h
 refine oY O (yC [.agg #[.slice Aa p0.fNo.length ca,.slice Ab p0.fC.length cb],.slice Ac p1.length cc] go_70 O (fun W2 f=>f7 p0 p1 V U W2 Aa p0.fNo.length ca O ((RdL.arg r) W2 f) Ab p0.fC.length cb g O ((RdL.arg d) W2 f) (NestL.at (NestL.arg w) W2 f) Ac p1.length cc O ((RdL.arg E) W2 f)) O) (oY O (yAI O) (oN (eT (cS (cR (oY O (yMI O) (oY O (dD O O) (oN (eT ?_)))))))))
 rcases iOs h with⟨K,h⟩|⟨K,h⟩
 ·refine cT (vB K) (cS (cR (oY O (yMI O) (oY O (yAS O) (oY O (yAI O) (oN (eT (ak (ab ?_)))))))))
  obtain rfl:=sI h
  exact bx (.inl O) O (rVt (v:=.slice none 0 0) O) (rVt (v:=vI V) O) (fun W2 f=>⟨(none,0,0),O,O,((f.nilrow 3 1).pick 1 O)⟩)
 ·refine cF (vB K) (cK (eT (cS (cR (oY O (yN 0 [.slice Aa p0.fNo.length ca,.slice Ab p0.fC.length cb] aF O O O) (oY O (yMS O) ?_))))))
  obtain⟨T,X,h⟩:=bOs h
  refine db [.agg #[.slice Aa p0.fNo.length ca,.slice Ab p0.fC.length cb],.slice Ac p1.length cc] _ _ O go_64 O (fun W2 f=>jE p0 p1 T X W2 Aa p0.fNo.length ca O ((RdL.arg r) W2 f) Ab p0.fC.length cb g O ((RdL.arg d) W2 f) (NestL.at (NestL.arg w) W2 f) Ac p1.length cc O ((RdL.arg E) W2 f)) ?_
  rintro S
  obtain⟨Q,Y,h⟩:=bOs h
  refine oC [.map (some S)] _ _ _ O go_96 O (fun W2 f=>d8 T Q Y W2 S ((MpL.own 1 O) W2 f)) ?_
  rintro⟨M,Z,N⟩ F
  replace F:Z=Q.length:=F;subst F
  refine oY O (yAS O) (oY O (yAI O) (oN (eT (ak ?_))))
  obtain rfl:=sI h
  exact bx (.inl O) O (rVt (v:=.slice M Q.length N) O) (rVt (v:=vI 0) O) (fun W2 f=>⟨(M,Q.length,N),O,O,(f.pick 2 O)⟩)
theorem nL (p0:TL) (p1:(List Int)) (res:((List Int) × Int)) (h:de p0 p1=some res) (W:World) (Aa:Option Addr) (o ca:Nat) (G:o=p0.fNo.length) (r:Rd W Aa o ca (encL TNode_cells p0.fNo)) (Ab:Option Addr) (u cb:Nat) (g:List (Hd × TC)) (H:u=p0.fC.length) (d:Rd W Ab u cb (encL TClaim_cells2 g)) (w:NestW W (fun z:TC=>z.fO) THop_cells g p0.fC) (Ac:Option Addr) (D cc:Nat) (I:D=p1.length) (E:Rd W Ac D cc (encL cI p1)) :
  Calls Tryz.prog 36 [.agg #[.slice Aa o ca,.slice Ab u cb],.slice Ac D cc].toArray W fun e W2=>∃x:Option Addr × Nat × Nat,x.2.1=res.1.length∧e=.returned (.tuple #[.slice x.1 x.2.1 x.2.2,vI res.2])∧Ext W W2 [aO x.1 x.2.2 3 1 x.2.1 (encL cI res.1)]:=by
 subst G
 subst H
 subst I
 unfold de at h
 refine ae (m:=17) Tryz.func36 O O (nB O) (cS (cR ?_))
 refine aP [.slice Aa p0.fNo.length ca,.slice Ab p0.fC.length cb] O O O (fun R=>?_)
 refine oY O (yAS O) (oY O (yAI O) (oN (eT (cS (cS (cR (oY O (yN 0 [.slice Aa p0.fNo.length ca,.slice Ab p0.fC.length cb] aF O O O) (oY O (yMS O) ?_))))))))
 obtain⟨V,U,h⟩:=bOs h
 refine oY O (yC [.agg #[.slice Aa p0.fNo.length ca,.slice Ab p0.fC.length cb],.slice Ac p1.length cc] go_70 O (fun W2 f=>f7 p0 p1 V U W2 Aa p0.fNo.length ca O ((RdL.arg r) W2 f) Ab p0.fC.length cb g O ((RdL.arg d) W2 f) (NestL.at (NestL.arg w) W2 f) Ac p1.length cc O ((RdL.arg E) W2 f)) O) (oY O (yAI O) (oN (eT (cS (cR (oY O (yMI O) (oY O (dD O O) (oN (eT ?_)))))))))
 rcases iOs h with⟨K,h⟩|⟨K,h⟩
 ·refine cT (vB K) (cS (cR (oY O (yMI O) (oY O (yAS O) (oY O (yAI O) (oN (eT (ak (ab ?_)))))))))
  obtain rfl:=sI h
  exact bx (.inl O) O (rVt (v:=.slice none 0 0) O) (rVt (v:=vI V) O) (fun W2 f=>⟨(none,0,0),O,O,((f.nilrow 3 1).pick 1 O)⟩)
 ·refine cF (vB K) (cK (eT (cS (cR (oY O (yN 0 [.slice Aa p0.fNo.length ca,.slice Ab p0.fC.length cb] aF O O O) (oY O (yMS O) ?_))))))
  obtain⟨T,X,h⟩:=bOs h
  refine db [.agg #[.slice Aa p0.fNo.length ca,.slice Ab p0.fC.length cb],.slice Ac p1.length cc] _ _ O go_65 O (fun W2 f=>dw p0 p1 T X W2 Aa p0.fNo.length ca O ((RdL.arg r) W2 f) Ab p0.fC.length cb g O ((RdL.arg d) W2 f) (NestL.at (NestL.arg w) W2 f) Ac p1.length cc O ((RdL.arg E) W2 f)) ?_
  rintro S
  obtain⟨Q,Y,h⟩:=bOs h
  refine oC [.map (some S)] _ _ _ O go_96 O (fun W2 f=>d8 T Q Y W2 S ((MpL.own 1 O) W2 f)) ?_
  rintro⟨M,Z,N⟩ F
  replace F:Z=Q.length:=F;subst F
  refine oY O (yAS O) (oY O (yAI O) (oN (eT (ak ?_))))
  obtain rfl:=sI h
  exact bx (.inl O) O (rVt (v:=.slice M Q.length N) O) (rVt (v:=vI 0) O) (fun W2 f=>⟨(M,Q.length,N),O,O,(f.pick 2 O)⟩)
theorem m8  (res:TL) (h:eW=some res) (W:World) (wb:World) (Hb:World→Prop) (hB:∀W3,Below W.heap.size W W3→Below wb.heap.size wb W3∧Hb W3) :
  Calls Tryz.prog 59 [].toArray W fun e W2=>∃x:((Option Addr × Nat × Nat) × (Option Addr × Nat × Nat) × (List (Hd × TC)) × Res),(x.1.2.1=res.fNo.length∧x.2.1.2.1=res.fC.length∧NestP (fun z:TC=>z.fO) x.2.2.1 res.fC∧PvL (fun z:TC=>z.fO) THop_cells wb (fun W4=>Hb W4∧Res.holds x.2.2.2 W4) x.2.2.1)∧e=.returned (.agg #[.slice x.1.1 x.1.2.1 x.1.2.2,.slice x.2.1.1 x.2.1.2.1 x.2.1.2.2])∧Ext W W2 [aO x.1.1 x.1.2.2 97 3 x.1.2.1 (encL TNode_cells res.fNo),aO x.2.1.1 x.2.1.2.2 90 2 x.2.1.2.1 (encL TClaim_cells2 x.2.2.1),x.2.2.2]:=by
 unfold eW at h
 refine ae (m:=24) Tryz.func59 O O (nB O) (cS (cR ?_))
 refine aC ft O (fun D=>?_)
 refine oN (eT (cS (cR ?_)))
 refine oY O (aI [vI 1,vI 0,vI 0] [(0,1),(1,1),(2,1)] rj j7 (by kernel_rfl)) ?_
 refine oY O (aI [vI 2,vI 0,vI 0] [(0,1),(1,1),(2,1)] rj j7 (by kernel_rfl)) ?_
 refine oY O (aI [vI 3,vI 3,vI 0] [(0,1),(1,1),(2,1)] rj j7 (by kernel_rfl)) ?_
 refine oY O (aI [vI 4,vI 3,vI 0] [(0,1),(1,1),(2,1)] rj j7 (by kernel_rfl)) ?_
 refine oY O (aI [vI 5,vI 9,vI 10] [(0,1),(1,1),(2,1)] rj j7 (by kernel_rfl)) ?_
 refine oY O (aI [vI 6,vI 9,vI 7] [(0,1),(1,1),(2,1)] rj j7 (by kernel_rfl)) ?_
 refine ap 6 (encL TNode_cells [(TN.mk 1 0 0),(TN.mk 2 0 0),(TN.mk 3 3 0),(TN.mk 4 3 0),(TN.mk 5 9 10),(TN.mk 6 9 7)]) _ mc_97_6 gE j7 o9 (by decide) (by decide) (by kernel_rfl) (eL ad O) O (fun r=>?_)
 refine oY O (aI [vI 1,vI 3] [(0,1),(1,1)] pe i8 (by kernel_rfl)) ?_
 refine ap 1 (encL THop_cells [(TH.mk 1 3)]) _ rT fZ i8 nC (by decide) (by decide) (by kernel_rfl) (eL au O) O (fun u=>?_)
 refine oY O (aI [vI 11,.slice (some ⟨u,0,none⟩) 1 1] [(0,1),(1,1)] ust_90 gR (by kernel_rfl)) ?_
 refine oY O (aI [vI 1,vI 4] [(0,1),(1,1)] pe i8 (by kernel_rfl)) ?_
 refine oY O (aI [vI 2,vI 4] [(0,1),(1,1)] pe i8 (by kernel_rfl)) ?_
 refine ap 2 (encL THop_cells [(TH.mk 1 4),(TH.mk 2 4)]) _ mc_111_2 fZ i8 nC (by decide) (by decide) (by kernel_rfl) (eL au O) O (fun o=>?_)
 refine oY O (aI [vI 12,.slice (some ⟨o,0,none⟩) 2 2] [(0,1),(1,1)] ust_90 gR (by kernel_rfl)) ?_
 refine oY O (aI [vI 3,vI 5] [(0,1),(1,1)] pe i8 (by kernel_rfl)) ?_
 refine ap 1 (encL THop_cells [(TH.mk 3 5)]) _ rT fZ i8 nC (by decide) (by decide) (by kernel_rfl) (eL au O) O (fun g=>?_)
 refine oY O (aI [vI 13,.slice (some ⟨g,0,none⟩) 1 1] [(0,1),(1,1)] ust_90 gR (by kernel_rfl)) ?_
 refine oY O (aI [vI 4,vI 5] [(0,1),(1,1)] pe i8 (by kernel_rfl)) ?_
 refine oY O (aI [vI 4,vI 6] [(0,1),(1,1)] pe i8 (by kernel_rfl)) ?_
 refine ap 2 (encL THop_cells [(TH.mk 4 5),(TH.mk 4 6)]) _ mc_111_2 fZ i8 nC (by decide) (by decide) (by kernel_rfl) (eL au O) O (fun f=>?_)
 try dsimp only[lna,lca,lsz,lss]
 refine oY O (aI [vI 14,.slice (some ⟨f,0,none⟩) 2 2] [(0,1),(1,1)] ust_90 gR (by kernel_rfl)) ?_
 refine ox_addNo ?_
 refine mb 6 5 (by decide) O O ?_
 refine mb 6 4 (by decide) O O ?_
 refine mb 6 3 (by decide) O O ?_
 refine mb 6 2 (by decide) O O ?_
 refine ap 4 (encL TClaim_cells2 [(((some ⟨u,0,none⟩),1,1),(TC.mk 11 [(TH.mk 1 3)])),(((some ⟨o,0,none⟩),2,2),(TC.mk 12 [(TH.mk 1 4),(TH.mk 2 4)])),(((some ⟨g,0,none⟩),1,1),(TC.mk 13 [(TH.mk 3 5)])),(((some ⟨f,0,none⟩),2,2),(TC.mk 14 [(TH.mk 4 5),(TH.mk 4 6)]))]) _ mc_90_4 dQ gR l8 (by decide) (by decide) (by kernel_rfl) (eL aa O) O (fun d=>?_)
 try dsimp only[lna,lca,lsz,lss]
 refine oY O (aI [.slice (some ⟨r,0,none⟩) 6 6,.slice (some ⟨d,0,none⟩) 4 4] [(0,1),(1,1)] kg ft (by kernel_rfl)) ?_
 refine cr O (yS 0 [.slice (some ⟨r,0,none⟩) 6 6,.slice (some ⟨d,0,none⟩) 4 4] gN O (nB O) O O O) (oN (eT (ak ?_)))
 obtain rfl:=sI h
 exact am (.inl O) O (aH 0 [.slice (some ⟨r,0,none⟩) 6 6,.slice (some ⟨d,0,none⟩) 4 4] aF O O O) (fun W2 w=>⟨(((some ⟨r,0,none⟩),6,6),((some ⟨d,0,none⟩),4,4),[(((some ⟨u,0,none⟩),1,1),(TC.mk 11 [(TH.mk 1 3)])),(((some ⟨o,0,none⟩),2,2),(TC.mk 12 [(TH.mk 1 4),(TH.mk 2 4)])),(((some ⟨g,0,none⟩),1,1),(TC.mk 13 [(TH.mk 3 5)])),(((some ⟨f,0,none⟩),2,2),(TC.mk 14 [(TH.mk 4 5),(TH.mk 4 6)]))],pL (pL (pL (pL noR (aO (some ⟨f,0,none⟩) 2 111 2 2 (encL THop_cells [(TH.mk 4 5),(TH.mk 4 6)]))) (aO (some ⟨g,0,none⟩) 1 111 2 1 (encL THop_cells [(TH.mk 3 5)]))) (aO (some ⟨o,0,none⟩) 2 111 2 2 (encL THop_cells [(TH.mk 1 4),(TH.mk 2 4)]))) (aO (some ⟨u,0,none⟩) 1 111 2 1 (encL THop_cells [(TH.mk 1 3)]))),⟨O,O,(NestP.cons (sel:=(fun z:TC=>z.fO)) O (NestP.cons (sel:=(fun z:TC=>z.fO)) O (NestP.cons (sel:=(fun z:TC=>z.fO)) O (NestP.cons (sel:=(fun z:TC=>z.fO)) O NestP.nil)))),(PvL.cons (fun _ _ h=>eU h.2.2.1) (PvL.mono (Hb:=(fun W4=>Hb W4∧Res.holds (pL (pL (pL noR (aO (some ⟨f,0,none⟩) 2 111 2 2 (encL THop_cells [(TH.mk 4 5),(TH.mk 4 6)]))) (aO (some ⟨g,0,none⟩) 1 111 2 1 (encL THop_cells [(TH.mk 3 5)]))) (aO (some ⟨o,0,none⟩) 2 111 2 2 (encL THop_cells [(TH.mk 1 4),(TH.mk 2 4)]))) W4)) (PvL.cons (fun _ _ h=>eU h.2.2.1) (PvL.mono (Hb:=(fun W4=>Hb W4∧Res.holds (pL (pL noR (aO (some ⟨f,0,none⟩) 2 111 2 2 (encL THop_cells [(TH.mk 4 5),(TH.mk 4 6)]))) (aO (some ⟨g,0,none⟩) 1 111 2 1 (encL THop_cells [(TH.mk 3 5)]))) W4)) (PvL.cons (fun _ _ h=>eU h.2.2.1) (PvL.mono (Hb:=(fun W4=>Hb W4∧Res.holds (pL noR (aO (some ⟨f,0,none⟩) 2 111 2 2 (encL THop_cells [(TH.mk 4 5),(TH.mk 4 6)]))) W4)) (PvL.cons (fun _ _ h=>eU h.2.2.1) (PvL.mono (Hb:=(fun W4=>Hb W4∧Res.holds noR W4)) PvL.nil (fun _ _ h=>⟨h.1,h.2.1⟩))) (fun _ _ h=>⟨h.1,h.2.1⟩))) (fun _ _ h=>⟨h.1,h.2.1⟩))) (fun _ _ h=>⟨h.1,h.2.1⟩)))⟩,O,w.pickL [1,7,6] (by decide) O⟩)
theorem qQ (p0:TL) (res:(Int × Int)) (h:jQ p0=some res) (W:World) (Aa:Option Addr) (u ca:Nat) (D:u=p0.fNo.length) (d:Rd W Aa u ca (encL TNode_cells p0.fNo)) (Ab:Option Addr) (w cb:Nat) (g:List (Hd × TC)) (E:w=p0.fC.length) (o:Rd W Ab w cb (encL TClaim_cells2 g)) (r:NestW W (fun z:TC=>z.fO) THop_cells g p0.fC) :
  Calls Tryz.prog 60 [.agg #[.slice Aa u ca,.slice Ab w cb]].toArray W fun e W2=>e=.returned (.tuple #[vI res.1,vI res.2])∧Ext W W2 []:=by
 subst D
 subst E
 unfold jQ at h
 refine jR (m:=17) Tryz.func60 O O (nB O) (cS (cR ?_))
 refine aP [.slice Aa p0.fNo.length ca,.slice Ab p0.fC.length cb] O O O (fun Q=>?_)
 refine oY O (yAI O) (oY O (yAI O) (oN (eT (cS (cS (cR (oY O (yN 0 [.slice Aa p0.fNo.length ca,.slice Ab p0.fC.length cb] aF O O O) ?_)))))))
 obtain⟨U,K,h⟩:=bOs h
 refine oY O (yC [.agg #[.slice Aa p0.fNo.length ca,.slice Ab p0.fC.length cb]] sB O (fun W2 f=>dm p0 U K W2 Aa p0.fNo.length ca O ((RdL.arg d) W2 f) Ab p0.fC.length cb g O ((RdL.arg o) W2 f) (NestL.at (NestL.arg r) W2 f)) O) (oY O (yAI O) (oN (eT (cS (cR (oY O (yMI O) (oY O (dD O O) (oN (eT ?_)))))))))
 rcases iOs h with⟨F,h⟩|⟨F,h⟩
 ·refine cT (vB F) (cS (cR (oY O (yMI O) (oY O (yAI O) (oY O (yAI O) (oN (eT (ak (ab (ex_M0 (.inl O) ?_))))))))))
  obtain rfl:=sI h
  exact bx (.inl O) O (rVt (v:=vI 0) O) (rVt (v:=vI U) O) (fun W2 f=>⟨O,f.none⟩)
 ·refine cF (vB F) (cK (eT (cS (cR ?_))))
  refine aC mf O (fun X=>?_)
  refine cr O (cn 1 (v:=vI 0) sz_3 O (Nat.lt_of_lt_of_le (Nat.lt_succ_self _) (nB O)) O O O) (oN (eT (cS (cS (cR (oY O (yN 0 [.slice Aa p0.fNo.length ca,.slice Ab p0.fC.length cb] aF O O O) ?_))))))
  obtain⟨Y,M,h⟩:=bOs h
  refine db [.agg #[.slice Aa p0.fNo.length ca,.slice Ab p0.fC.length cb]] _ _ O go_86 O (fun W2 f=>gg p0 Y M W2 Aa p0.fNo.length ca O ((RdL.arg d) W2 f) Ab p0.fC.length cb g O ((RdL.arg o) W2 f) (NestL.at (NestL.arg r) W2 f)) ?_
  rintro I
  refine oN (eT (cB ?_))
  obtain⟨hok23,h⟩:=gOs h
  obtain⟨Z,G,h⟩:=bOs h
  refine mH (caps:=[.pointer (some ⟨I,0,none⟩)]) (fun(s:Int) L=>L=[aj Q 25 [.slice Aa p0.fNo.length ca,.slice Ab p0.fC.length cb],aj X 3 [vI s],aj I 25 [.slice Aa p0.fNo.length ca,.slice Ab p0.fC.length cb]]) (fun(_:Unit) _ _=>False) G O si (en p0 hok23 I Aa p0.fNo.length ca Ab p0.fC.length cb O g r.p) (fun W2 s L hI f=>by obtain rfl:=hI;exact⟨(RdL.cells 2 O) W2 f,(RdL.arg o) W2 f⟩) O (fun _ _ _ h=>h.elim) ?_ ?_ ?_
  ·rintro D9 l10 rec11 V T H S L st hrec12 rfl h
   unfold iG at h
   refine cK (nO 4 O hrec12 (cB (cR ?_)))
   try dsimp only[lna,lca,lsz,lss]
   refine oY O (yL 1 bN O O O) (oY O (bc O O) (cr O (cn 1 (v:=vI (w64 (H+1))) sz_3 O (Nat.lt_of_lt_of_le (Nat.lt_succ_self _) (nB O)) O O O) (oN (aq ?_))))
   obtain rfl:=sI h
   exact mX [aj Q 25 [.slice Aa p0.fNo.length ca,.slice Ab p0.fC.length cb],aj X 3 [vI (w64 (H+1))],aj I 25 [.slice Aa p0.fNo.length ca,.slice Ab p0.fC.length cb]] O
  ·rintro D9 N L hst rfl
   subst hst
   dsimp only at h
   refine aq (eT (cS (cR (oY O (yL 1 bN O O O) (oY O (yAI O) (oY O (yAI O) (oN (eT (ak (ex_M1 3 O (.inl O) ?_))))))))))
   obtain rfl:=sI h
   exact bx (.inl O) O (rVt (v:=vI N) O) (rVt (v:=vI 0) O) (fun W2 f=>⟨O,f.none⟩)
  ·intro D9 t e L _ hh
   exact hh.elim
theorem oS  (res:Bool) (h:fR=some res) (W:World)  :
  Calls Tryz.prog 13 [].toArray W fun e W2=>e=.returned (.bool res)∧Ext W W2 []:=by
 unfold fR at h
 refine ae (m:=188) Tryz.func13 O O (nB O) (cS (cR (oY O (yAB O) (oN (eT (cS (cR ?_)))))))
 obtain⟨w,ub,h⟩:=bOs h
 refine oC [] _ _ _ O go_59 O (fun W2 f=>m8  w ub W2 W (fun _=>True) (fun W3 hb=>⟨fy f.below hb,trivial⟩) ) ?_
 rintro⟨⟨j,n9,k⟩,⟨E,uc,F⟩,t,F17⟩ ⟨oa,oi,a,z⟩
 replace oa:n9=w.fNo.length:=oa;subst oa
 replace oi:uc=w.fC.length:=oi;subst oi
 refine aC ft O (fun w5=>?_)
 refine cr O (yS 3 [.slice j w.fNo.length k,.slice E w.fC.length F] gN O (nB O) O O O) (oN (eT (cS (cR (oY O (yN 3 [.slice j w.fNo.length k,.slice E w.fC.length F] aF O O O) ?_)))))
 obtain⟨u,uE,h⟩:=bOs h
 refine oY O (yC [.agg #[.slice j w.fNo.length k,.slice E w.fC.length F]] go_60 O (fun W2 f=>qQ w u uE W2 j w.fNo.length k O ((RdL.row 0 O) W2 f) E w.fC.length F t O ((RdL.row 1 O) W2 f) (NestL.at (PvL.nestL a z (fun W2 f=>⟨f.below,trivial,f.mem (i:=2) O⟩)) W2 f)) O) (oY O (aZ O) (oY O (yE O O) (oY O (yE O O) (oY O (yAI O) (oY O (yAI O) (oN (eT (cS (cR (oY O (yN 3 [.slice j w.fNo.length k,.slice E w.fC.length F] aF O O O) ?_))))))))))
 refine ap 1 (encL cI [1]) _ ib c6 mf mC (by decide) (by decide) (by kernel_rfl) (eL aG O) O (fun uF=>?_)
 obtain⟨G,uG,h⟩:=bOs h
 refine oC [.agg #[.slice j w.fNo.length k,.slice E w.fC.length F],.slice (some ⟨uF,0,none⟩) 1 1] _ _ _ O go_34 O (fun W2 f=>pM w [1] G uG W2 j w.fNo.length k O ((RdL.row 0 O) W2 f) E w.fC.length F t O ((RdL.row 1 O) W2 f) (NestL.at (PvL.nestL a z (fun W2 f=>⟨f.below,trivial,f.mem (i:=2) O⟩)) W2 f) (some ⟨uF,0,none⟩) 1 1 O ((RdL.row 4 O) W2 f)) ?_
 rintro⟨oq,d0,op⟩ oj
 replace oj:d0=G.1.length:=oj;subst oj
 try dsimp only[lna,lca,lsz,lss]
 refine oY O (aZ O) (oY O (yE O O) (oY O (yE O O) (oY O (yAS O) (oY O (yAI O) (oN (eT (cS (cR (oY O (yN 3 [.slice j w.fNo.length k,.slice E w.fC.length F] aF O O O) ?_)))))))))
 refine ap 1 (encL cI [2]) _ ib c6 mf mC (by decide) (by decide) (by kernel_rfl) (eL aG O) O (fun uH=>?_)
 try dsimp only[lna,lca,lsz,lss]
 obtain⟨H,uI,h⟩:=bOs h
 refine oC [.agg #[.slice j w.fNo.length k,.slice E w.fC.length F],.slice (some ⟨uH,0,none⟩) 1 1] _ _ _ O go_36 O (fun W2 f=>nL w [2] H uI W2 j w.fNo.length k O ((RdL.row 0 O) W2 f) E w.fC.length F t O ((RdL.row 1 O) W2 f) (NestL.at (PvL.nestL a z (fun W2 f=>⟨f.below,trivial,f.mem (i:=2) O⟩)) W2 f) (some ⟨uH,0,none⟩) 1 1 O ((RdL.row 6 O) W2 f)) ?_
 rintro⟨om,d1,ot⟩ ok
 replace ok:d1=H.1.length:=ok;subst ok
 try dsimp only[lna,lca,lsz,lss]
 refine oY O (aZ O) (oY O (yE O O) (oY O (yE O O) (oY O (yAS O) (oY O (yAI O) (oN (eT (cS (cR (oY O (yN 3 [.slice j w.fNo.length k,.slice E w.fC.length F] aF O O O) ?_)))))))))
 refine ap 1 (encL cI [1]) _ ib c6 mf mC (by decide) (by decide) (by kernel_rfl) (eL aG O) O (fun uK=>?_)
 try dsimp only[lna,lca,lsz,lss]
 obtain⟨I,uM,h⟩:=bOs h
 refine oC [.agg #[.slice j w.fNo.length k,.slice E w.fC.length F],.slice (some ⟨uK,0,none⟩) 1 1,vI 6] _ _ _ O go_20 O (fun W2 f=>qA w [1] 6 I uM W2 j w.fNo.length k O ((RdL.row 0 O) W2 f) E w.fC.length F t O ((RdL.row 1 O) W2 f) (NestL.at (PvL.nestL a z (fun W2 f=>⟨f.below,trivial,f.mem (i:=2) O⟩)) W2 f) (some ⟨uK,0,none⟩) 1 1 O ((RdL.row 8 O) W2 f)) ?_
 rintro⟨o1,d2,o2⟩ r0
 replace r0:d2=I.1.length:=r0;subst r0
 try dsimp only[lna,lca,lsz,lss]
 refine oY O (aZ O) (oY O (yE O O) (oY O (yE O O) (oY O (yAS O) (oY O (yAI O) (oN (eT (cS (cR (oY O (yN 3 [.slice j w.fNo.length k,.slice E w.fC.length F] aF O O O) ?_)))))))))
 refine ap 1 (encL cI [1]) _ ib c6 mf mC (by decide) (by decide) (by kernel_rfl) (eL aG O) O (fun uN=>?_)
 try dsimp only[lna,lca,lsz,lss]
 obtain⟨K,uO,h⟩:=bOs h
 refine oC [.agg #[.slice j w.fNo.length k,.slice E w.fC.length F],.slice (some ⟨uN,0,none⟩) 1 1,vI 6] _ _ _ O go_22 O (fun W2 f=>qD w [1] 6 K uO W2 j w.fNo.length k O ((RdL.row 0 O) W2 f) E w.fC.length F t O ((RdL.row 1 O) W2 f) (NestL.at (PvL.nestL a z (fun W2 f=>⟨f.below,trivial,f.mem (i:=2) O⟩)) W2 f) (some ⟨uN,0,none⟩) 1 1 O ((RdL.row 10 O) W2 f)) ?_
 rintro⟨gf,d3,o0⟩ r1
 replace r1:d3=K.1.length:=r1;subst r1
 try dsimp only[lna,lca,lsz,lss]
 refine oY O (aZ O) (oY O (yE O O) (oY O (yE O O) (oY O (yAS O) (oY O (yAI O) (oN (eT (cS (cR (oY O (yN 3 [.slice j w.fNo.length k,.slice E w.fC.length F] aF O O O) ?_)))))))))
 refine ap 1 (encL cI [1]) _ ib c6 mf mC (by decide) (by decide) (by kernel_rfl) (eL aG O) O (fun uQ=>?_)
 try dsimp only[lna,lca,lsz,lss]
 obtain⟨M,uU,h⟩:=bOs h
 refine oC [.agg #[.slice j w.fNo.length k,.slice E w.fC.length F],.slice (some ⟨uQ,0,none⟩) 1 1,vI 5] _ _ _ O go_28 O (fun W2 f=>rW w [1] 5 M uU W2 j w.fNo.length k O ((RdL.row 0 O) W2 f) E w.fC.length F t O ((RdL.row 1 O) W2 f) (NestL.at (PvL.nestL a z (fun W2 f=>⟨f.below,trivial,f.mem (i:=2) O⟩)) W2 f) (some ⟨uQ,0,none⟩) 1 1 O ((RdL.row 12 O) W2 f)) ?_
 rintro⟨f0,d4,f1⟩ r2
 replace r2:d4=M.1.length:=r2;subst r2
 try dsimp only[lna,lca,lsz,lss]
 refine oY O (aZ O) (oY O (yE O O) (oY O (yE O O) (oY O (yAS O) (oY O (yAI O) (oN (eT (cS (cR (oY O (yN 3 [.slice j w.fNo.length k,.slice E w.fC.length F] aF O O O) ?_)))))))))
 refine ap 1 (encL cI [2]) _ ib c6 mf mC (by decide) (by decide) (by kernel_rfl) (eL aG O) O (fun uX=>?_)
 try dsimp only[lna,lca,lsz,lss]
 obtain⟨D,uY,h⟩:=bOs h
 refine oY O (yC [.agg #[.slice j w.fNo.length k,.slice E w.fC.length F],.slice (some ⟨uX,0,none⟩) 1 1,vI 5] go_24 O (fun W2 f=>qj w [2] 5 D uY W2 j w.fNo.length k O ((RdL.row 0 O) W2 f) E w.fC.length F t O ((RdL.row 1 O) W2 f) (NestL.at (PvL.nestL a z (fun W2 f=>⟨f.below,trivial,f.mem (i:=2) O⟩)) W2 f) (some ⟨uX,0,none⟩) 1 1 O ((RdL.row 14 O) W2 f)) O) (oY O (aZ O) (oY O (yE O O) (oY O (yE O O) ?_)))
 refine aC ze_48 O (fun p=>?_)
 try dsimp only[lna,lca,lsz,lss]
 refine cr O (yS 15 [vI D.1.fNum,vI D.1.fDen] sz_48 O (nB O) O O O) (oY O (yAI O) (oN (eT (cS (cR (oY O (yN 3 [.slice j w.fNo.length k,.slice E w.fC.length F] aF O O O) ?_))))))
 refine ap 1 (encL cI [1]) _ ib c6 mf mC (by decide) (by decide) (by kernel_rfl) (eL aG O) O (fun uZ=>?_)
 try dsimp only[lna,lca,lsz,lss]
 obtain⟨r,uV,h⟩:=bOs h
 refine oC [.agg #[.slice j w.fNo.length k,.slice E w.fC.length F],.slice (some ⟨uZ,0,none⟩) 1 1,.bool false] _ _ _ O go_17 O (fun W2 f=>pR w [1] false r uV W2 j w.fNo.length k O ((RdL.row 0 O) W2 f) E w.fC.length F t O ((RdL.row 1 O) W2 f) (NestL.at (PvL.nestL a z (fun W2 f=>⟨f.below,trivial,f.mem (i:=2) O⟩)) W2 f) (some ⟨uZ,0,none⟩) 1 1 O ((RdL.row 16 O) W2 f)) ?_
 rintro⟨f2,dd,f3⟩ r3
 replace r3:dd=r.1.length:=r3;subst r3
 try dsimp only[lna,lca,lsz,lss]
 refine oY O (aZ O) (oY O (yE O O) (oY O (yE O O) (oY O (yE O O) (oY O (yAS O) (oY O (yAI O) (oY O (yAI O) (oN (eT (cS (cR (oY O (yN 3 [.slice j w.fNo.length k,.slice E w.fC.length F] aF O O O) ?_)))))))))))
 refine ap 1 (encL cI [1]) _ ib c6 mf mC (by decide) (by decide) (by kernel_rfl) (eL aG O) O (fun uT=>?_)
 try dsimp only[lna,lca,lsz,lss]
 obtain⟨o,uS,h⟩:=bOs h
 refine oY O (yC [.agg #[.slice j w.fNo.length k,.slice E w.fC.length F],.slice (some ⟨uT,0,none⟩) 1 1] go_26 O (fun W2 f=>r6 w [1] o uS W2 j w.fNo.length k O ((RdL.row 0 O) W2 f) E w.fC.length F t O ((RdL.row 1 O) W2 f) (NestL.at (PvL.nestL a z (fun W2 f=>⟨f.below,trivial,f.mem (i:=2) O⟩)) W2 f) (some ⟨uT,0,none⟩) 1 1 O ((RdL.row 18 O) W2 f)) O) (oY O (aZ O) (oY O (yE O O) (oY O (yE O O) (oY O (yE O O) (oY O (yAI O) (oY O (yAI O) (oY O (yAI O) (oN (eT (cS (cR (oY O (yN 3 [.slice j w.fNo.length k,.slice E w.fC.length F] aF O O O) ?_))))))))))))
 obtain⟨d,uR,h⟩:=bOs h
 refine oC [.agg #[.slice j w.fNo.length k,.slice E w.fC.length F],vI 5] _ _ _ O go_15 O (fun W2 f=>pb w 5 d uR W2 j w.fNo.length k O ((RdL.row 0 O) W2 f) E w.fC.length F t O ((RdL.row 1 O) W2 f) (NestL.at (PvL.nestL a z (fun W2 f=>⟨f.below,trivial,f.mem (i:=2) O⟩)) W2 f)) ?_
 rintro⟨⟨x,dy,y⟩,⟨n,w0,l⟩⟩ ⟨r4,rd⟩
 replace r4:dy=d.1.length:=r4;subst r4
 replace rd:w0=d.2.1.length:=rd;subst rd
 try dsimp only[lna,lca,lsz,lss]
 refine oY O (aZ O) (oY O (yE O O) (oY O (yE O O) (oY O (yE O O) (oY O (yAS O) (oY O (yAS O) (oY O (yAI O) (oN (eT (cS (cS (cR (oY O (yMI O) (oY O (dD O O) (oY O (yMB O) ?_))))))))))))))
 refine oJ 3 (fun g=>(upd (upd (upd (upd (upd (upd (upd (upd (upd (upd (upd (upd (upd (upd (upd (upd (upd (upd (upd (upd (upd (upd (upd g 0 (.bool false)) 2 (vI u.1)) 4 (.slice oq G.1.length op)) 6 (.slice om H.1.length ot)) 7 (vI H.2)) 8 (.slice o1 I.1.length o2)) 9 (vI I.2)) 10 (.slice gf K.1.length o0)) 11 (vI K.2)) 12 (.slice f0 M.1.length f1)) 13 (vI M.2)) 14 (.pointer (some ⟨p,0,none⟩))) 15 (vI D.2)) 16 (.slice f2 r.1.length f3)) 17 (vI r.2.1)) 18 (vI r.2.2)) 19 (vI o.1)) 20 (vI o.2.1)) 21 (vI o.2.2)) 22 (.slice x d.1.length y)) 23 (.slice n d.2.1.length l)) 24 (vI d.2.2)) 94 (.bool ((u.2 !=0)||(G.2 !=0))))) (fun g=>?_) (fun key=>?_)
 ·refine oY O (yMB O) ?_
  refine oJ 3 (fun g=>(upd (upd (upd (upd (upd (upd (upd (upd (upd (upd (upd (upd (upd (upd (upd (upd (upd (upd (upd (upd (upd (upd g 0 (.bool false)) 2 (vI u.1)) 4 (.slice oq G.1.length op)) 6 (.slice om H.1.length ot)) 8 (.slice o1 I.1.length o2)) 9 (vI I.2)) 10 (.slice gf K.1.length o0)) 11 (vI K.2)) 12 (.slice f0 M.1.length f1)) 13 (vI M.2)) 14 (.pointer (some ⟨p,0,none⟩))) 15 (vI D.2)) 16 (.slice f2 r.1.length f3)) 17 (vI r.2.1)) 18 (vI r.2.2)) 19 (vI o.1)) 20 (vI o.2.1)) 21 (vI o.2.2)) 22 (.slice x d.1.length y)) 23 (.slice n d.2.1.length l)) 24 (vI d.2.2)) 98 (.bool (((u.2 !=0)||(G.2 !=0))||(H.2 !=0))))) (fun g=>?_) (fun key=>?_)
  ·refine oY O (yMB O) ?_
   refine oJ 3 (fun g=>(upd (upd (upd (upd (upd (upd (upd (upd (upd (upd (upd (upd (upd (upd (upd (upd (upd (upd (upd (upd (upd g 0 (.bool false)) 2 (vI u.1)) 4 (.slice oq G.1.length op)) 6 (.slice om H.1.length ot)) 8 (.slice o1 I.1.length o2)) 10 (.slice gf K.1.length o0)) 11 (vI K.2)) 12 (.slice f0 M.1.length f1)) 13 (vI M.2)) 14 (.pointer (some ⟨p,0,none⟩))) 15 (vI D.2)) 16 (.slice f2 r.1.length f3)) 17 (vI r.2.1)) 18 (vI r.2.2)) 19 (vI o.1)) 20 (vI o.2.1)) 21 (vI o.2.2)) 22 (.slice x d.1.length y)) 23 (.slice n d.2.1.length l)) 24 (vI d.2.2)) 102 (.bool ((((u.2 !=0)||(G.2 !=0))||(H.2 !=0))||(I.2 !=0))))) (fun g=>?_) (fun key=>?_)
   ·refine oY O (yMB O) ?_
    refine oJ 3 (fun g=>(upd (upd (upd (upd (upd (upd (upd (upd (upd (upd (upd (upd (upd (upd (upd (upd (upd (upd (upd (upd g 0 (.bool false)) 2 (vI u.1)) 4 (.slice oq G.1.length op)) 6 (.slice om H.1.length ot)) 8 (.slice o1 I.1.length o2)) 10 (.slice gf K.1.length o0)) 12 (.slice f0 M.1.length f1)) 13 (vI M.2)) 14 (.pointer (some ⟨p,0,none⟩))) 15 (vI D.2)) 16 (.slice f2 r.1.length f3)) 17 (vI r.2.1)) 18 (vI r.2.2)) 19 (vI o.1)) 20 (vI o.2.1)) 21 (vI o.2.2)) 22 (.slice x d.1.length y)) 23 (.slice n d.2.1.length l)) 24 (vI d.2.2)) 106 (.bool (((((u.2 !=0)||(G.2 !=0))||(H.2 !=0))||(I.2 !=0))||(K.2 !=0))))) (fun g=>?_) (fun key=>?_)
    ·refine oY O (yMB O) ?_
     refine oJ 3 (fun g=>(upd (upd (upd (upd (upd (upd (upd (upd (upd (upd (upd (upd (upd (upd (upd (upd (upd (upd (upd g 0 (.bool false)) 2 (vI u.1)) 4 (.slice oq G.1.length op)) 6 (.slice om H.1.length ot)) 8 (.slice o1 I.1.length o2)) 10 (.slice gf K.1.length o0)) 12 (.slice f0 M.1.length f1)) 14 (.pointer (some ⟨p,0,none⟩))) 15 (vI D.2)) 16 (.slice f2 r.1.length f3)) 17 (vI r.2.1)) 18 (vI r.2.2)) 19 (vI o.1)) 20 (vI o.2.1)) 21 (vI o.2.2)) 22 (.slice x d.1.length y)) 23 (.slice n d.2.1.length l)) 24 (vI d.2.2)) 110 (.bool ((((((u.2 !=0)||(G.2 !=0))||(H.2 !=0))||(I.2 !=0))||(K.2 !=0))||(M.2 !=0))))) (fun g=>?_) (fun key=>?_)
     ·refine oY O (yMB O) ?_
      refine oJ 3 (fun g=>(upd (upd (upd (upd (upd (upd (upd (upd (upd (upd (upd (upd (upd (upd (upd (upd (upd (upd g 0 (.bool false)) 2 (vI u.1)) 4 (.slice oq G.1.length op)) 6 (.slice om H.1.length ot)) 8 (.slice o1 I.1.length o2)) 10 (.slice gf K.1.length o0)) 12 (.slice f0 M.1.length f1)) 14 (.pointer (some ⟨p,0,none⟩))) 16 (.slice f2 r.1.length f3)) 17 (vI r.2.1)) 18 (vI r.2.2)) 19 (vI o.1)) 20 (vI o.2.1)) 21 (vI o.2.2)) 22 (.slice x d.1.length y)) 23 (.slice n d.2.1.length l)) 24 (vI d.2.2)) 114 (.bool (((((((u.2 !=0)||(G.2 !=0))||(H.2 !=0))||(I.2 !=0))||(K.2 !=0))||(M.2 !=0))||(D.2 !=0))))) (fun g=>?_) (fun key=>?_)
      ·refine oY O (yMB O) ?_
       refine oJ 3 (fun g=>(upd (upd (upd (upd (upd (upd (upd (upd (upd (upd (upd (upd (upd (upd (upd (upd (upd g 0 (.bool false)) 2 (vI u.1)) 4 (.slice oq G.1.length op)) 6 (.slice om H.1.length ot)) 8 (.slice o1 I.1.length o2)) 10 (.slice gf K.1.length o0)) 12 (.slice f0 M.1.length f1)) 14 (.pointer (some ⟨p,0,none⟩))) 16 (.slice f2 r.1.length f3)) 17 (vI r.2.1)) 19 (vI o.1)) 20 (vI o.2.1)) 21 (vI o.2.2)) 22 (.slice x d.1.length y)) 23 (.slice n d.2.1.length l)) 24 (vI d.2.2)) 118 (.bool ((((((((u.2 !=0)||(G.2 !=0))||(H.2 !=0))||(I.2 !=0))||(K.2 !=0))||(M.2 !=0))||(D.2 !=0))||(r.2.2 !=0))))) (fun g=>?_) (fun key=>?_)
       ·refine oY O (yMB O) ?_
        refine oJ 3 (fun g=>(upd (upd (upd (upd (upd (upd (upd (upd (upd (upd (upd (upd (upd (upd (upd (upd g 0 (.bool false)) 2 (vI u.1)) 4 (.slice oq G.1.length op)) 6 (.slice om H.1.length ot)) 8 (.slice o1 I.1.length o2)) 10 (.slice gf K.1.length o0)) 12 (.slice f0 M.1.length f1)) 14 (.pointer (some ⟨p,0,none⟩))) 16 (.slice f2 r.1.length f3)) 17 (vI r.2.1)) 19 (vI o.1)) 20 (vI o.2.1)) 22 (.slice x d.1.length y)) 23 (.slice n d.2.1.length l)) 24 (vI d.2.2)) 122 (.bool (((((((((u.2 !=0)||(G.2 !=0))||(H.2 !=0))||(I.2 !=0))||(K.2 !=0))||(M.2 !=0))||(D.2 !=0))||(r.2.2 !=0))||(o.2.2 !=0))))) (fun g=>?_) (fun key=>?_)
        ·refine oY O (yMB O) ?_
         refine oJ 3 (fun g=>(upd (upd (upd (upd (upd (upd (upd (upd (upd (upd (upd (upd (upd (upd (upd g 0 (.bool false)) 2 (vI u.1)) 4 (.slice oq G.1.length op)) 6 (.slice om H.1.length ot)) 8 (.slice o1 I.1.length o2)) 10 (.slice gf K.1.length o0)) 12 (.slice f0 M.1.length f1)) 14 (.pointer (some ⟨p,0,none⟩))) 16 (.slice f2 r.1.length f3)) 17 (vI r.2.1)) 19 (vI o.1)) 20 (vI o.2.1)) 22 (.slice x d.1.length y)) 23 (.slice n d.2.1.length l)) 126 (.bool ((((((((((u.2 !=0)||(G.2 !=0))||(H.2 !=0))||(I.2 !=0))||(K.2 !=0))||(M.2 !=0))||(D.2 !=0))||(r.2.2 !=0))||(o.2.2 !=0))||(d.2.2 !=0))))) (fun g=>?_) (fun key=>?_)
         ·refine oN (eT ?_)
          rcases iOs h with⟨rx,h⟩|⟨rx,h⟩
          ·refine cT (vB rx) (cS (cR (oY O (yAB O) (oN (eT (ak (ab ?_)))))))
           obtain rfl:=sI h
           exact am (.inl O) O (rVt (v:=.bool false) O) (fun W2 f=>⟨O,f.none⟩)
          ·refine cF (vB rx) (cK (eT (cS (cR (oY O (yMS O) ?_)))))
           refine ap 3 (encL cI [1,3,5]) _ mc_3_3 c6 mf mC (by decide) (by decide) (by kernel_rfl) (eL aG O) O (fun uq=>?_)
           try dsimp only[lna,lca,lsz,lss]
           obtain⟨w1,up,h⟩:=bOs h
           refine oY O (yC [.slice oq G.1.length op,.slice (some ⟨uq,0,none⟩) 3 3] sP O (fun W2 f=>cy G.1 [1,3,5] w1 up W2 oq G.1.length op O ((RdL.row 5 O) W2 f) (some ⟨uq,0,none⟩) 3 3 O ((RdL.row 21 O) W2 f)) O) (oY O (yMB O) ?_)
           obtain⟨w2,un,h⟩:=bOs h
           refine oJ 4 (fun g=>(upd (upd (upd (upd (upd (upd (upd (upd (upd (upd (upd (upd (upd g 0 (.bool false)) 2 (vI u.1)) 8 (.slice o1 I.1.length o2)) 10 (.slice gf K.1.length o0)) 12 (.slice f0 M.1.length f1)) 14 (.pointer (some ⟨p,0,none⟩))) 16 (.slice f2 r.1.length f3)) 17 (vI r.2.1)) 19 (vI o.1)) 20 (vI o.2.1)) 22 (.slice x d.1.length y)) 23 (.slice n d.2.1.length l)) 134 (.bool w2))) (fun g=>?_) (fun key=>?_)
           ·refine oY O (yMB O) ?_
            obtain⟨w3,um,h⟩:=bOs h
            refine oJ 4 (fun g=>(upd (upd (upd (upd (upd (upd (upd (upd (upd (upd (upd (upd g 0 (.bool false)) 2 (vI u.1)) 10 (.slice gf K.1.length o0)) 12 (.slice f0 M.1.length f1)) 14 (.pointer (some ⟨p,0,none⟩))) 16 (.slice f2 r.1.length f3)) 17 (vI r.2.1)) 19 (vI o.1)) 20 (vI o.2.1)) 22 (.slice x d.1.length y)) 23 (.slice n d.2.1.length l)) 139 (.bool w3))) (fun g=>?_) (fun key=>?_)
            ·refine oY O (yMB O) ?_
             obtain⟨N,u7,h⟩:=bOs h
             refine oJ 4 (fun g=>(upd (upd (upd (upd (upd (upd (upd (upd (upd (upd (upd g 0 (.bool false)) 2 (vI u.1)) 12 (.slice f0 M.1.length f1)) 14 (.pointer (some ⟨p,0,none⟩))) 16 (.slice f2 r.1.length f3)) 17 (vI r.2.1)) 19 (vI o.1)) 20 (vI o.2.1)) 22 (.slice x d.1.length y)) 23 (.slice n d.2.1.length l)) 144 (.bool N))) (fun g=>?_) (fun key=>?_)
             ·refine oY O (yAB O) (oN (eT (cS (cR (oY O (yMS O) ?_)))))
              refine ap 2 (encL cI [13,14]) _ mc_3_2 c6 mf mC (by decide) (by decide) (by kernel_rfl) (eL aG O) O (fun u0=>?_)
              try dsimp only[lna,lca,lsz,lss]
              obtain⟨ul,u8,h⟩:=bOs h
              refine oY O (yC [.slice f0 M.1.length f1,.slice (some ⟨u0,0,none⟩) 2 2] sP O (fun W2 f=>cy M.1 [13,14] ul u8 W2 f0 M.1.length f1 O ((RdL.row 13 O) W2 f) (some ⟨u0,0,none⟩) 2 2 O ((RdL.row 22 O) W2 f)) O) (oY O (yMB O) ?_)
              obtain⟨ut,u9,h⟩:=bOs h
              refine oJ 4 (fun g=>(upd (upd (upd (upd (upd (upd (upd (upd (upd (upd g 0 (.bool false)) 2 (vI u.1)) 14 (.pointer (some ⟨p,0,none⟩))) 17 (vI r.2.1)) 19 (vI o.1)) 20 (vI o.2.1)) 22 (.slice x d.1.length y)) 23 (.slice n d.2.1.length l)) 25 (.bool N)) 152 (.bool ut))) (fun g=>?_) (fun key=>?_)
              ·refine oY O (yMB O) ?_
               obtain⟨ua,uf,h⟩:=bOs h
               refine oJ 4 (fun g=>(upd (upd (upd (upd (upd (upd (upd (upd (upd g 0 (.bool false)) 2 (vI u.1)) 14 (.pointer (some ⟨p,0,none⟩))) 17 (vI r.2.1)) 19 (vI o.1)) 20 (vI o.2.1)) 23 (.slice n d.2.1.length l)) 25 (.bool N)) 157 (.bool ua))) (fun g=>?_) (fun key=>?_)
               ·refine oY O (yMB O) ?_
                obtain⟨U,ug,h⟩:=bOs h
                refine oJ 4 (fun g=>(upd (upd (upd (upd (upd (upd (upd (upd g 0 (.bool false)) 2 (vI u.1)) 14 (.pointer (some ⟨p,0,none⟩))) 17 (vI r.2.1)) 19 (vI o.1)) 20 (vI o.2.1)) 25 (.bool N)) 162 (.bool U))) (fun g=>?_) (fun key=>?_)
                ·refine oY O (yAB O) (oN (eT (cS (cR (oY O (yMB O) (oY O (yMB O) ?_))))))
                 refine oJ 2 (fun g=>(upd (upd (upd (upd (upd (upd (upd g 0 (.bool false)) 2 (vI u.1)) 14 (.pointer (some ⟨p,0,none⟩))) 17 (vI r.2.1)) 19 (vI o.1)) 20 (vI o.2.1)) 166 (.bool (N&&U)))) (fun g=>?_) (fun key=>?_)
                 ·refine oY O (yMB O) ?_
                  refine oJ 3 (fun g=>(upd (upd (upd (upd (upd (upd g 0 (.bool false)) 14 (.pointer (some ⟨p,0,none⟩))) 17 (vI r.2.1)) 19 (vI o.1)) 20 (vI o.2.1)) 170 (.bool ((N&&U)&&(u.1==4))))) (fun g=>?_) (fun key=>?_)
                  ·refine oY O (yMB O) ?_
                   refine oJ 4 (fun g=>(upd (upd (upd (upd (upd g 0 (.bool false)) 17 (vI r.2.1)) 19 (vI o.1)) 20 (vI o.2.1)) 175 (.bool (((N&&U)&&(u.1==4))&&((D.1.fNum==1)&&(D.1.fDen==4)))))) (fun g=>?_) (fun key=>?_)
                   ·refine oY O (yMB O) ?_
                    refine oJ 3 (fun g=>(upd (upd (upd (upd g 0 (.bool false)) 19 (vI o.1)) 20 (vI o.2.1)) 179 (.bool ((((N&&U)&&(u.1==4))&&((D.1.fNum==1)&&(D.1.fDen==4)))&&(r.2.1==17))))) (fun g=>?_) (fun key=>?_)
                    ·refine oY O (yMB O) ?_
                     refine oJ 3 (fun g=>(upd (upd (upd g 0 (.bool false)) 20 (vI o.2.1)) 183 (.bool (((((N&&U)&&(u.1==4))&&((D.1.fNum==1)&&(D.1.fDen==4)))&&(r.2.1==17))&&(o.1==12))))) (fun g=>?_) (fun key=>?_)
                     ·refine oY O (yMB O) ?_
                      refine oJ 3 (fun g=>(upd (upd g 0 (.bool false)) 187 (.bool ((((((N&&U)&&(u.1==4))&&((D.1.fNum==1)&&(D.1.fDen==4)))&&(r.2.1==17))&&(o.1==12))&&(o.2.1==7))))) (fun g=>?_) (fun key=>?_)
                      ·refine oY O (yAB O) (oN (eT (ak ?_)))
                       obtain rfl:=sI h
                       exact am (.inl O) O (rVt (v:=.bool ((((((N&&U)&&(u.1==4))&&((D.1.fNum==1)&&(D.1.fDen==4)))&&(r.2.1==17))&&(o.1==12))&&(o.2.1==7))) O) (fun W2 f=>⟨O,f.none⟩)
                      ·rcases aB (((((N&&U)&&(u.1==4))&&((D.1.fNum==1)&&(D.1.fDen==4)))&&(r.2.1==17))&&(o.1==12))with X|X
                       ·refine oY (sT O O O O X) (yMI O) (oY (sT O O O O X) (ig O O) (oY O (aw (vB X) O) ?_))
                        exact key _ _ (keep (keep O O) (vB (mv X)))
                       ·refine oSk (sF O O O O X) (oSk (sF O O O O X) (oY O (av (vB X) O) ?_))
                        exact key _ _ (keep (keep O O) (vB (mu X)))
                     ·rcases aB ((((N&&U)&&(u.1==4))&&((D.1.fNum==1)&&(D.1.fDen==4)))&&(r.2.1==17))with Y|Y
                      ·refine oY (sT O O O O Y) (yMI O) (oY (sT O O O O Y) (ig O O) (oY O (aw (vB Y) O) ?_))
                       exact key _ _ (keep (keep (keep O O) O) (vB (mv Y)))
                      ·refine oSk (sF O O O O Y) (oSk (sF O O O O Y) (oY O (av (vB Y) O) ?_))
                       exact key _ _ (keep (keep (keep O O) O) (vB (mu Y)))
                    ·rcases aB (((N&&U)&&(u.1==4))&&((D.1.fNum==1)&&(D.1.fDen==4)))with Z|Z
                     ·refine oY (sT O O O O Z) (yMI O) (oY (sT O O O O Z) (ig O O) (oY O (aw (vB Z) O) ?_))
                      exact key _ _ (keep (keep (keep (keep O O) O) O) (vB (mv Z)))
                     ·refine oSk (sF O O O O Z) (oSk (sF O O O O Z) (oY O (av (vB Z) O) ?_))
                      exact key _ _ (keep (keep (keep (keep O O) O) O) (vB (mu Z)))
                   ·rcases aB ((N&&U)&&(u.1==4))with Q|Q
                    ·refine oY (sT O O O O Q) (yN 15 [vI D.1.fNum,vI D.1.fDen] ag_48 O O O) ?_
                     refine oY (sT O O O O Q) (aI [vI 1,vI 4] [(0,1),(1,1)] ust_48 ze_48 (by kernel_rfl)) ?_
                     refine oY (sT O O O O Q) (y_eqla (b:=((D.1.fNum==1)&&(D.1.fDen==4))) eg_48 O O (fun _=>(eqS2 fl_48 (ep bN O) (ep bN O) (ep bN O) (ep bN O) (run_equalIn_int _ _ _ _ _ _ _ pQ) (run_equalIn_int _ _ _ _ _ _ _ pQ)))) (oY O (aw (vB Q) O) ?_)
                     exact key _ _ (keep (keep (keep (keep (keep O O) O) O) O) (vB (mv Q)))
                    ·refine oSk (sF O O O O Q) (oSk (sF O O O O Q) (oSk (sF O O O O Q) (oY O (av (vB Q) O) ?_)))
                     exact key _ _ (keep (keep (keep (keep (keep O O) O) O) O) (vB (mu Q)))
                  ·rcases aB (N&&U)with V|V
                   ·refine oY (sT O O O O V) (yMI O) (oY (sT O O O O V) (ig O O) (oY O (aw (vB V) O) ?_))
                    exact key _ _ (keep (keep (keep (keep (keep (keep O O) O) O) O) O) (vB (mv V)))
                   ·refine oSk (sF O O O O V) (oSk (sF O O O O V) (oY O (av (vB V) O) ?_))
                    exact key _ _ (keep (keep (keep (keep (keep (keep O O) O) O) O) O) (vB (mu V)))
                 ·rcases aB N with c|c
                  ·refine oY (sT O O O O c) (yMB O) (oY O (aw (vB c) O) ?_)
                   exact key _ _ (keep (keep (keep (keep (keep (keep (keep O O) O) O) O) O) O) (vB (mv c)))
                  ·refine oSk (sF O O O O c) (oY O (av (vB c) O) ?_)
                   exact key _ _ (keep (keep (keep (keep (keep (keep (keep O O) O) O) O) O) O) (vB (mu c)))
                ·clear h;rcases iOs ug with⟨T,h⟩|⟨T,h⟩
                 ·refine oY (sT O O O O T) (yMS O) ?_
                  refine ap 2 (encL cI [1,2]) _ mc_3_2 c6 mf mC (by decide) (by decide) (by kernel_rfl) (eL aG O) (sT O O O O T) (fun u1=>?_)
                  try dsimp only[lna,lca,lsz,lss]
                  obtain⟨uz,uo,h⟩:=bOs h
                  refine oY (sT O O O O T) (yC [.slice n d.2.1.length l,.slice (some ⟨u1,0,none⟩) 2 2] sP O (fun W2 f=>cy d.2.1 [1,2] uz uo W2 n d.2.1.length l O ((RdL.row 20 O) W2 f) (some ⟨u1,0,none⟩) 2 2 O ((RdL.row 23 O) W2 f)) O) (oY O (aw (vB T) O) ?_)
                  obtain rfl:=sI h
                  refine oU 23 ?_
                  exact key _ _ (kp4 (kp4 O))
                 ·refine oSk (sF O O O O T) (oSk (sF O O O O T) (oSk (sF O O O O T) (oY O (av (vB T) O) ?_)))
                  obtain rfl:=sI h
                  exact key _ _ (kp4 (kp4 O))
               ·clear h;rcases iOs uf with⟨S,h⟩|⟨S,h⟩
                ·refine oY (sT O O O O S) (yMS O) ?_
                 refine ap 1 (encL cI [1]) _ ib c6 mf mC (by decide) (by decide) (by kernel_rfl) (eL aG O) (sT O O O O S) (fun u2=>?_)
                 try dsimp only[lna,lca,lsz,lss]
                 obtain⟨ui,ur,h⟩:=bOs h
                 refine oY (sT O O O O S) (yC [.slice x d.1.length y,.slice (some ⟨u2,0,none⟩) 1 1] sP O (fun W2 f=>cy d.1 [1] ui ur W2 x d.1.length y O ((RdL.row 19 O) W2 f) (some ⟨u2,0,none⟩) 1 1 O ((RdL.row 23 O) W2 f)) O) (oY O (aw (vB S) O) ?_)
                 obtain rfl:=sI h
                 refine oU 23 ?_
                 exact key _ _ (kp4 (kp4 (kp O)))
                ·refine oSk (sF O O O O S) (oSk (sF O O O O S) (oSk (sF O O O O S) (oY O (av (vB S) O) ?_)))
                 obtain rfl:=sI h
                 exact key _ _ (kp4 (kp4 (kp O)))
              ·clear h;rcases iOs u9 with⟨R,h⟩|⟨R,h⟩
               ·refine oY (sT O O O O R) (yMS O) ?_
                refine ap 2 (encL cI [5,6]) _ mc_3_2 c6 mf mC (by decide) (by decide) (by kernel_rfl) (eL aG O) (sT O O O O R) (fun u3=>?_)
                try dsimp only[lna,lca,lsz,lss]
                obtain⟨uj,uu,h⟩:=bOs h
                refine oY (sT O O O O R) (yC [.slice f2 r.1.length f3,.slice (some ⟨u3,0,none⟩) 2 2] sP O (fun W2 f=>cy r.1 [5,6] uj uu W2 f2 r.1.length f3 O ((RdL.row 17 O) W2 f) (some ⟨u3,0,none⟩) 2 2 O ((RdL.row 23 O) W2 f)) O) (oY O (aw (vB R) O) ?_)
                obtain rfl:=sI h
                refine oU 23 ?_
                exact key _ _ (kp4 (kp4 (kp (kp O))))
               ·refine oSk (sF O O O O R) (oSk (sF O O O O R) (oSk (sF O O O O R) (oY O (av (vB R) O) ?_)))
                obtain rfl:=sI h
                exact key _ _ (kp4 (kp4 (kp (kp O))))
             ·clear h;rcases iOs u7 with⟨q,h⟩|⟨q,h⟩
              ·refine oY (sT O O O O q) (yMS O) ?_
               refine ap 1 (encL cI [4]) _ ib c6 mf mC (by decide) (by decide) (by kernel_rfl) (eL aG O) (sT O O O O q) (fun u4=>?_)
               try dsimp only[lna,lca,lsz,lss]
               obtain⟨uk,ud,h⟩:=bOs h
               refine oY (sT O O O O q) (yC [.slice gf K.1.length o0,.slice (some ⟨u4,0,none⟩) 1 1] sP O (fun W2 f=>cy K.1 [4] uk ud W2 gf K.1.length o0 O ((RdL.row 11 O) W2 f) (some ⟨u4,0,none⟩) 1 1 O ((RdL.row 22 O) W2 f)) O) (oY O (aw (vB q) O) ?_)
               obtain rfl:=sI h
               refine oU 22 ?_
               exact key _ _ (kp4 (kp4 (kp (kp (kp O)))))
              ·refine oSk (sF O O O O q) (oSk (sF O O O O q) (oSk (sF O O O O q) (oY O (av (vB q) O) ?_)))
               obtain rfl:=sI h
               exact key _ _ (kp4 (kp4 (kp (kp (kp O)))))
            ·clear h;rcases iOs um with⟨f4,h⟩|⟨f4,h⟩
             ·refine oY (sT O O O O f4) (yMS O) ?_
              refine ap 2 (encL cI [12,14]) _ mc_3_2 c6 mf mC (by decide) (by decide) (by kernel_rfl) (eL aG O) (sT O O O O f4) (fun u5=>?_)
              try dsimp only[lna,lca,lsz,lss]
              obtain⟨ux,uw,h⟩:=bOs h
              refine oY (sT O O O O f4) (yC [.slice o1 I.1.length o2,.slice (some ⟨u5,0,none⟩) 2 2] sP O (fun W2 f=>cy I.1 [12,14] ux uw W2 o1 I.1.length o2 O ((RdL.row 9 O) W2 f) (some ⟨u5,0,none⟩) 2 2 O ((RdL.row 22 O) W2 f)) O) (oY O (aw (vB f4) O) ?_)
              obtain rfl:=sI h
              refine oU 22 ?_
              exact key _ _ (kp4 (kp4 (kp4 O)))
             ·refine oSk (sF O O O O f4) (oSk (sF O O O O f4) (oSk (sF O O O O f4) (oY O (av (vB f4) O) ?_)))
              obtain rfl:=sI h
              exact key _ _ (kp4 (kp4 (kp4 O)))
           ·clear h;rcases iOs un with⟨fr,h⟩|⟨fr,h⟩
            ·refine oY (sT O O O O fr) (yMS O) ?_
             refine ap 4 (encL cI [2,4,5,6]) _ mc_3_4 c6 mf mC (by decide) (by decide) (by kernel_rfl) (eL aG O) (sT O O O O fr) (fun u6=>?_)
             try dsimp only[lna,lca,lsz,lss]
             obtain⟨uy,uD,h⟩:=bOs h
             refine oY (sT O O O O fr) (yC [.slice om H.1.length ot,.slice (some ⟨u6,0,none⟩) 4 4] sP O (fun W2 f=>cy H.1 [2,4,5,6] uy uD W2 om H.1.length ot O ((RdL.row 7 O) W2 f) (some ⟨u6,0,none⟩) 4 4 O ((RdL.row 22 O) W2 f)) O) (oY O (aw (vB fr) O) ?_)
             obtain rfl:=sI h
             refine oU 22 ?_
             exact key _ _ (kp4 (kp4 (kp4 (kp O))))
            ·refine oSk (sF O O O O fr) (oSk (sF O O O O fr) (oSk (sF O O O O fr) (oY O (av (vB fr) O) ?_)))
             obtain rfl:=sI h
             exact key _ _ (kp4 (kp4 (kp4 (kp O))))
         ·rcases aB (((((((((u.2 !=0)||(G.2 !=0))||(H.2 !=0))||(I.2 !=0))||(K.2 !=0))||(M.2 !=0))||(D.2 !=0))||(r.2.2 !=0))||(o.2.2 !=0))with fd|fd
          ·refine oSk (sF O O O O fd) (oSk (sF O O O O fd) (oY O (aw (vB fd) O) ?_))
           exact key _ _ (keep (keep (keep (keep (keep (keep (keep (keep (keep (keep (keep (keep (keep (keep (keep O O) O) O) O) O) O) O) O) O) O) O) O) O) O) (vB (rf fd)))
          ·refine oY (sT O O O O fd) (yMI O) (oY (sT O O O O fd) (dD O O) (oY O (av (vB fd) O) ?_))
           exact key _ _ (keep (keep (keep (keep (keep (keep (keep (keep (keep (keep (keep (keep (keep (keep (keep O O) O) O) O) O) O) O) O) O) O) O) O) O) O) (vB (re fd)))
        ·rcases aB ((((((((u.2 !=0)||(G.2 !=0))||(H.2 !=0))||(I.2 !=0))||(K.2 !=0))||(M.2 !=0))||(D.2 !=0))||(r.2.2 !=0))with fE|fE
         ·refine oSk (sF O O O O fE) (oSk (sF O O O O fE) (oY O (aw (vB fE) O) ?_))
          exact key _ _ (keep (keep (keep (keep (keep (keep (keep (keep (keep (keep (keep (keep (keep (keep (keep (keep O O) O) O) O) O) O) O) O) O) O) O) O) O) O) O) (vB (rf fE)))
         ·refine oY (sT O O O O fE) (yMI O) (oY (sT O O O O fE) (dD O O) (oY O (av (vB fE) O) ?_))
          exact key _ _ (keep (keep (keep (keep (keep (keep (keep (keep (keep (keep (keep (keep (keep (keep (keep (keep O O) O) O) O) O) O) O) O) O) O) O) O) O) O) O) (vB (re fE)))
       ·rcases aB (((((((u.2 !=0)||(G.2 !=0))||(H.2 !=0))||(I.2 !=0))||(K.2 !=0))||(M.2 !=0))||(D.2 !=0))with fN|fN
        ·refine oSk (sF O O O O fN) (oSk (sF O O O O fN) (oY O (aw (vB fN) O) ?_))
         exact key _ _ (keep (keep (keep (keep (keep (keep (keep (keep (keep (keep (keep (keep (keep (keep (keep (keep (keep O O) O) O) O) O) O) O) O) O) O) O) O) O) O) O) O) (vB (rf fN)))
        ·refine oY (sT O O O O fN) (yMI O) (oY (sT O O O O fN) (dD O O) (oY O (av (vB fN) O) ?_))
         exact key _ _ (keep (keep (keep (keep (keep (keep (keep (keep (keep (keep (keep (keep (keep (keep (keep (keep (keep O O) O) O) O) O) O) O) O) O) O) O) O) O) O) O) O) (vB (re fN)))
      ·rcases aB ((((((u.2 !=0)||(G.2 !=0))||(H.2 !=0))||(I.2 !=0))||(K.2 !=0))||(M.2 !=0))with fO|fO
       ·refine oSk (sF O O O O fO) (oSk (sF O O O O fO) (oY O (aw (vB fO) O) ?_))
        exact key _ _ (keep (keep (keep (keep (keep (keep (keep (keep (keep (keep (keep (keep (keep (keep (keep (keep (keep (keep O O) O) O) O) O) O) O) O) O) O) O) O) O) O) O) O) O) (vB (rf fO)))
       ·refine oY (sT O O O O fO) (yMI O) (oY (sT O O O O fO) (dD O O) (oY O (av (vB fO) O) ?_))
        exact key _ _ (keep (keep (keep (keep (keep (keep (keep (keep (keep (keep (keep (keep (keep (keep (keep (keep (keep (keep O O) O) O) O) O) O) O) O) O) O) O) O) O) O) O) O) O) (vB (re fO)))
     ·rcases aB (((((u.2 !=0)||(G.2 !=0))||(H.2 !=0))||(I.2 !=0))||(K.2 !=0))with fn|fn
      ·refine oSk (sF O O O O fn) (oSk (sF O O O O fn) (oY O (aw (vB fn) O) ?_))
       exact key _ _ (keep (keep (keep (keep (keep (keep (keep (keep (keep (keep (keep (keep (keep (keep (keep (keep (keep (keep (keep O O) O) O) O) O) O) O) O) O) O) O) O) O) O) O) O) O) O) (vB (rf fn)))
      ·refine oY (sT O O O O fn) (yMI O) (oY (sT O O O O fn) (dD O O) (oY O (av (vB fn) O) ?_))
       exact key _ _ (keep (keep (keep (keep (keep (keep (keep (keep (keep (keep (keep (keep (keep (keep (keep (keep (keep (keep (keep O O) O) O) O) O) O) O) O) O) O) O) O) O) O) O) O) O) O) (vB (re fn)))
    ·rcases aB ((((u.2 !=0)||(G.2 !=0))||(H.2 !=0))||(I.2 !=0))with fl|fl
     ·refine oSk (sF O O O O fl) (oSk (sF O O O O fl) (oY O (aw (vB fl) O) ?_))
      exact key _ _ (keep (keep (keep (keep (keep (keep (keep (keep (keep (keep (keep (keep (keep (keep (keep (keep (keep (keep (keep (keep O O) O) O) O) O) O) O) O) O) O) O) O) O) O) O) O) O) O) O) (vB (rf fl)))
     ·refine oY (sT O O O O fl) (yMI O) (oY (sT O O O O fl) (dD O O) (oY O (av (vB fl) O) ?_))
      exact key _ _ (keep (keep (keep (keep (keep (keep (keep (keep (keep (keep (keep (keep (keep (keep (keep (keep (keep (keep (keep (keep O O) O) O) O) O) O) O) O) O) O) O) O) O) O) O) O) O) O) O) (vB (re fl)))
   ·rcases aB (((u.2 !=0)||(G.2 !=0))||(H.2 !=0))with g1|g1
    ·refine oSk (sF O O O O g1) (oSk (sF O O O O g1) (oY O (aw (vB g1) O) ?_))
     exact key _ _ (keep (keep (keep (keep (keep (keep (keep (keep (keep (keep (keep (keep (keep (keep (keep (keep (keep (keep (keep (keep (keep O O) O) O) O) O) O) O) O) O) O) O) O) O) O) O) O) O) O) O) O) (vB (rf g1)))
    ·refine oY (sT O O O O g1) (yMI O) (oY (sT O O O O g1) (dD O O) (oY O (av (vB g1) O) ?_))
     exact key _ _ (keep (keep (keep (keep (keep (keep (keep (keep (keep (keep (keep (keep (keep (keep (keep (keep (keep (keep (keep (keep (keep O O) O) O) O) O) O) O) O) O) O) O) O) O) O) O) O) O) O) O) O) (vB (re g1)))
  ·rcases aB ((u.2 !=0)||(G.2 !=0))with g2|g2
   ·refine oSk (sF O O O O g2) (oSk (sF O O O O g2) (oY O (aw (vB g2) O) ?_))
    exact key _ _ (keep (keep (keep (keep (keep (keep (keep (keep (keep (keep (keep (keep (keep (keep (keep (keep (keep (keep (keep (keep (keep (keep O O) O) O) O) O) O) O) O) O) O) O) O) O) O) O) O) O) O) O) O) O) (vB (rf g2)))
   ·refine oY (sT O O O O g2) (yMI O) (oY (sT O O O O g2) (dD O O) (oY O (av (vB g2) O) ?_))
    exact key _ _ (keep (keep (keep (keep (keep (keep (keep (keep (keep (keep (keep (keep (keep (keep (keep (keep (keep (keep (keep (keep (keep (keep O O) O) O) O) O) O) O) O) O) O) O) O) O) O) O) O) O) O) O) O) O) (vB (re g2)))
 ·rcases aB (u.2 !=0)with g3|g3
  ·refine oSk (sF O O O O g3) (oSk (sF O O O O g3) (oY O (aw (vB g3) O) ?_))
   exact key _ _ (keep (keep (keep (keep (keep (keep (keep (keep (keep (keep (keep (keep (keep (keep (keep (keep (keep (keep (keep (keep (keep (keep (keep O O) O) O) O) O) O) O) O) O) O) O) O) O) O) O) O) O) O) O) O) O) O) (vB (rf g3)))
  ·refine oY (sT O O O O g3) (yMI O) (oY (sT O O O O g3) (dD O O) (oY O (av (vB g3) O) ?_))
   exact key _ _ (keep (keep (keep (keep (keep (keep (keep (keep (keep (keep (keep (keep (keep (keep (keep (keep (keep (keep (keep (keep (keep (keep (keep O O) O) O) O) O) O) O) O) O) O) O) O) O) O) O) O) O) O) O) O) O) O) (vB (re g3)))
theorem ml (p0:TL) (res:Bool) (h:gr p0=some res) (W:World) (Aa:Option Addr) (I ca:Nat) (N:I=p0.fNo.length) (q:Rd W Aa I ca (encL TNode_cells p0.fNo)) (Ab:Option Addr) (K cb:Nat) (E:List (Hd × TC)) (Q:K=p0.fC.length) (M:Rd W Ab K cb (encL TClaim_cells2 E)) (G:NestW W (fun z:TC=>z.fO) THop_cells E p0.fC) :
  Calls Tryz.prog 14 [.agg #[.slice Aa I ca,.slice Ab K cb]].toArray W fun e W2=>e=.returned (.bool res)∧Ext W W2 []:=by
 subst N
 subst Q
 unfold gr at h
 refine ae (m:=73) Tryz.func14 O O (nB O) (cS (cR ?_))
 refine aP [.slice Aa p0.fNo.length ca,.slice Ab p0.fC.length cb] O O O (fun T=>?_)
 refine oY O (yAB O) (oN (eT (cS (cR (oY O (yAI O) (oN (eT (cS (cS (cR (oY O (yAI O) (oN (eT (cB ?_))))))))))))))
 obtain⟨t,l,h⟩:=bOs h
 refine bW (fun(s:(Bool × Int × Int)) L tm=>∃(o:Nat→Value),L=[aj T 25 [.slice Aa p0.fNo.length ca,.slice Ab p0.fC.length cb]]∧tm=(upd (upd (upd (upd o 1 (.pointer (some ⟨T,0,none⟩))) 2 (.bool s.1)) 3 (vI s.2.1)) 4 (vI s.2.2))) 0 l ⟨_,O,(kp4 O)⟩ ?_ ?_
 ·rintro U L tm st ⟨S,rfl,rfl⟩ h
  unfold fz at h
  refine cS (cS (cR (oY O (yMI O) (oY O (yFA aD O) (oY O (yL 0 bT O O O) (oY O (bd (us:=[]) dQ O) (oY O (bA O O) (oN (eT ?_)))))))))
  rcases iOs h with⟨X,h⟩|⟨X,h⟩
  ·refine cT (vB X) (cK (eT (cS (cB (cS (cR (oY O (yFA aD O) (oY O (yL 0 bT O O O) (oY O (yMI O) ?_)))))))))
   obtain⟨H,h⟩:=gOs h
   refine oY O (yI dY (by decide) H.1 H.2 (RdL.arg M) (eL aa (NestP.hn G.p O)) O O) ?_
   refine oY O (yFR (A:=Ab) (j:=(Int.toNat U.2.2*2)) bQ O) (oY O (yR (A:=Ab) (j:=((Int.toNat U.2.2*2)+1)) (v:=.slice ((rdL E U.2.2).1.1) ((rdL p0.fC U.2.2).fO.length) ((rdL E U.2.2).1.2.2)) gL (RdL.arg M) O (eG aa H.1 (ao H.2 (NestP.hn G.p O)) (congrArg (fun n:Nat=>some (Value.slice (rdL E U.2.2).1.1 n (rdL E U.2.2).1.2.2)) (NestP.len G.p H.1 (ao H.2 O))))) (oY O (bd (us:=[]) fZ O) (oY O (yAI O) (oN (eT (cS (cS (cR (oY O (yMI O) (oY O (mq O O) (oN (eT ?_))))))))))))
   rcases iOs h with⟨Y,h⟩|⟨Y,h⟩
   ·refine cT (vB Y) (cS (cR (oY O (yAB O) (oN (eT (ak (ab (ai (ab ?_)))))))))
    obtain rfl:=sI h
    exact ay ⟨O,_,O,(kp4 O)⟩
   ·refine cF (vB Y) (cK (eT (cR (oY O (yMI O) (oY O (yMI O) (oY O (y_max O O) (oY O (y_mul O O) (oY O (y_min O O) (oY O (yAI O) (oN (aq (eT (cR (oY O (yMI O) (oY O (bc O O) (oY O (yAI O) (oN ?_)))))))))))))))))
    obtain rfl:=sI h
    exact eN ⟨_,O,(kp4 O)⟩
  ·refine cF (vB X) (aK (ah ?_))
   obtain rfl:=sI h
   exact ay ⟨O,_,O,(kp4 O)⟩
 ·intro e L tm hJ
  rcases t with a|w
  ·dsimp only at h hJ
   obtain⟨rfl,R,rfl,rfl⟩:=hJ
   refine⟨(by intro hc;cases hc),?_⟩
   refine ai (ab ?_)
   obtain rfl:=sI h
   exact am (.inl O) O (rVt (v:=.bool a.1) O) (fun W2 Z=>⟨O,Z.none⟩)
  ·dsimp only at h hJ
   obtain⟨rfl,V,rfl,rfl⟩:=hJ
   refine⟨(by intro hc;cases hc),?_⟩
   refine ag (eT (cS (cR (oY O (yFA aY O) (oY O (yL 0 dK O O O) (oY O (bd (us:=[]) gE O) (oY O (pO O O) (oY O (yMB O) ?_))))))))
   refine oJ 11 (fun o=>(upd (upd (upd (upd o 1 (.pointer (some ⟨T,0,none⟩))) 2 (.bool w.1)) 3 (vI w.2.1)) 44 (.bool ((decide ((p0.fNo.length:Int)≤12))||((decide (60<(p0.fNo.length:Int)))&&(decide ((p0.fNo.length:Int)≤80))))))) (fun o=>?_) (fun key=>?_)
   ·refine oY O (yAB O) (oN (eT (cS (cR (oY O (yFA aD O) (oY O (yL 0 bT O O O) (oY O (bd (us:=[]) dQ O) (oY O (pO O O) (oY O (yMB O) ?_)))))))))
    refine oJ 11 (fun o=>(upd (upd (upd (upd o 2 (.bool w.1)) 3 (vI w.2.1)) 6 (.bool ((decide ((p0.fNo.length:Int)≤12))||((decide (60<(p0.fNo.length:Int)))&&(decide ((p0.fNo.length:Int)≤80)))))) 60 (.bool ((decide ((p0.fC.length:Int)≤12))||((decide (80<(p0.fC.length:Int)))&&(decide ((p0.fC.length:Int)≤100))))))) (fun o=>?_) (fun key=>?_)
    ·refine oY O (yAB O) (oN (eT (cS (cR (oY O (yMB O) (oY O (yMB O) ?_))))))
     refine oJ 2 (fun o=>(upd (upd (upd o 2 (.bool w.1)) 3 (vI w.2.1)) 64 (.bool (((decide ((p0.fNo.length:Int)≤12))||((decide (60<(p0.fNo.length:Int)))&&(decide ((p0.fNo.length:Int)≤80))))&&((decide ((p0.fC.length:Int)≤12))||((decide (80<(p0.fC.length:Int)))&&(decide ((p0.fC.length:Int)≤100)))))))) (fun o=>?_) (fun key=>?_)
     ·refine oY O (yMB O) ?_
      refine oJ 7 (fun o=>(upd (upd o 2 (.bool w.1)) 72 (.bool ((((decide ((p0.fNo.length:Int)≤12))||((decide (60<(p0.fNo.length:Int)))&&(decide ((p0.fNo.length:Int)≤80))))&&((decide ((p0.fC.length:Int)≤12))||((decide (80<(p0.fC.length:Int)))&&(decide ((p0.fC.length:Int)≤100)))))&&((decide (w.2.1≤64))||(decide (4096<w.2.1))))))) (fun o=>?_) (fun key=>?_)
      ·refine oY O (yAB O) (oN (eT (ak ?_)))
       obtain rfl:=sI h
       exact am (.inl O) O (rVt (v:=.bool ((((decide ((p0.fNo.length:Int)≤12))||((decide (60<(p0.fNo.length:Int)))&&(decide ((p0.fNo.length:Int)≤80))))&&((decide ((p0.fC.length:Int)≤12))||((decide (80<(p0.fC.length:Int)))&&(decide ((p0.fC.length:Int)≤100)))))&&((decide (w.2.1≤64))||(decide (4096<w.2.1))))) O) (fun W2 Z=>⟨O,Z.none⟩)
      ·rcases aB (((decide ((p0.fNo.length:Int)≤12))||((decide (60<(p0.fNo.length:Int)))&&(decide ((p0.fNo.length:Int)≤80))))&&((decide ((p0.fC.length:Int)≤12))||((decide (80<(p0.fC.length:Int)))&&(decide ((p0.fC.length:Int)≤100)))))with r|r
       ·refine oY (sT O O O O r) (yMI O) (oY (sT O O O O r) (pO O O) (oY (sT O O O O r) (yMB O) ?_))
        refine oJ 3 (fun o=>(upd (upd (upd o 2 (.bool w.1)) 65 (.bool (((decide ((p0.fNo.length:Int)≤12))||((decide (60<(p0.fNo.length:Int)))&&(decide ((p0.fNo.length:Int)≤80))))&&((decide ((p0.fC.length:Int)≤12))||((decide (80<(p0.fC.length:Int)))&&(decide ((p0.fC.length:Int)≤100))))))) 71 (.bool ((decide (w.2.1≤64))||(decide (4096<w.2.1)))))) (fun o=>?_) (fun key=>?_)
        ·refine oY O (aw (vB r) O) ?_
         exact key _ _ (keep (keep O O) (vB (mv r)))
        ·rcases aB (decide (w.2.1≤64))with D|D
         ·refine oSk (sF O O O O D) (oSk (sF O O O O D) (oY (sT O O O O r) (aw (vB D) O) ?_))
          exact key _ _ (keep (keep (keep O O) O) (vB (rf D)))
         ·refine oY (sT O O O O D) (yMI O) (oY (sT O O O O D) (mq O O) (oY (sT O O O O r) (av (vB D) O) ?_))
          exact key _ _ (keep (keep (keep O O) O) (vB (re D)))
       ·refine oSk (sF O O O O r) (oSk (sF O O O O r) (oSk (sF O O O O r) (oSk O (oSk O (oSk (sF O O O O r) (oY O (av (vB r) O) ?_))))))
        exact key _ _ (keep (keep O O) (vB (mu r)))
     ·rcases aB ((decide ((p0.fNo.length:Int)≤12))||((decide (60<(p0.fNo.length:Int)))&&(decide ((p0.fNo.length:Int)≤80))))with F|F
      ·refine oY (sT O O O O F) (yMB O) (oY O (aw (vB F) O) ?_)
       exact key _ _ (keep (keep (keep O O) O) (vB (mv F)))
      ·refine oSk (sF O O O O F) (oY O (av (vB F) O) ?_)
       exact key _ _ (keep (keep (keep O O) O) (vB (mu F)))
    ·rcases aB (decide ((p0.fC.length:Int)≤12))with f|f
     ·refine oSk (sF O O O O f) (oSk (sF O O O O f) (oSk (sF O O O O f) (oSk (sF O O O O f) (oSk (sF O O O O f) (oSk O (oSk O (oSk O (oSk O (oSk (sF O O O O f) (oY O (aw (vB f) O) ?_))))))))))
      exact key _ _ (keep (keep (keep (keep O O) O) O) (vB (rf f)))
     ·refine oY (sT O O O O f) (yFA aD O) (oY (sT O O O O f) (yL 0 bT O O O) (oY (sT O O O O f) (bd (us:=[]) dQ O) (oY (sT O O O O f) (mq O O) (oY (sT O O O O f) (yMB O) ?_))))
      refine oJ 5 (fun o=>(upd (upd (upd (upd (upd o 2 (.bool w.1)) 3 (vI w.2.1)) 6 (.bool ((decide ((p0.fNo.length:Int)≤12))||((decide (60<(p0.fNo.length:Int)))&&(decide ((p0.fNo.length:Int)≤80)))))) 49 (.bool (decide ((p0.fC.length:Int)≤12)))) 59 (.bool ((decide (80<(p0.fC.length:Int)))&&(decide ((p0.fC.length:Int)≤100)))))) (fun o=>?_) (fun key=>?_)
      ·refine oY O (av (vB f) O) ?_
       exact key _ _ (keep (keep (keep (keep O O) O) O) (vB (re f)))
      ·rcases aB (decide (80<(p0.fC.length:Int)))with u|u
       ·refine oY (sT O O O O u) (yFA aD O) (oY (sT O O O O u) (yL 0 bT O O O) (oY (sT O O O O u) (bd (us:=[]) dQ O) (oY (sT O O O O u) (pO O O) (oY (sT O O O O f) (aw (vB u) O) ?_))))
        exact key _ _ (keep (keep (keep (keep (keep O O) O) O) O) (vB (mv u)))
       ·refine oSk (sF O O O O u) (oSk (sF O O O O u) (oSk (sF O O O O u) (oSk (sF O O O O u) (oY (sT O O O O f) (av (vB u) O) ?_))))
        exact key _ _ (keep (keep (keep (keep (keep O O) O) O) O) (vB (mu u)))
   ·rcases aB (decide ((p0.fNo.length:Int)≤12))with g|g
    ·refine oSk (sF O O O O g) (oSk (sF O O O O g) (oSk (sF O O O O g) (oSk (sF O O O O g) (oSk (sF O O O O g) (oSk O (oSk O (oSk O (oSk O (oSk (sF O O O O g) (oY O (aw (vB g) O) ?_))))))))))
     exact key _ _ (keep (keep (keep (keep O O) O) O) (vB (rf g)))
    ·refine oY (sT O O O O g) (yFA aY O) (oY (sT O O O O g) (yL 0 dK O O O) (oY (sT O O O O g) (bd (us:=[]) gE O) (oY (sT O O O O g) (mq O O) (oY (sT O O O O g) (yMB O) ?_))))
     refine oJ 5 (fun o=>(upd (upd (upd (upd (upd o 1 (.pointer (some ⟨T,0,none⟩))) 2 (.bool w.1)) 3 (vI w.2.1)) 33 (.bool (decide ((p0.fNo.length:Int)≤12)))) 43 (.bool ((decide (60<(p0.fNo.length:Int)))&&(decide ((p0.fNo.length:Int)≤80)))))) (fun o=>?_) (fun key=>?_)
     ·refine oY O (av (vB g) O) ?_
      exact key _ _ (keep (keep (keep (keep O O) O) O) (vB (re g)))
     ·rcases aB (decide (60<(p0.fNo.length:Int)))with d|d
      ·refine oY (sT O O O O d) (yFA aY O) (oY (sT O O O O d) (yL 0 dK O O O) (oY (sT O O O O d) (bd (us:=[]) gE O) (oY (sT O O O O d) (pO O O) (oY (sT O O O O g) (aw (vB d) O) ?_))))
       exact key _ _ (keep (keep (keep (keep (keep O O) O) O) O) (vB (mv d)))
      ·refine oSk (sF O O O O d) (oSk (sF O O O O d) (oSk (sF O O O O d) (oSk (sF O O O O d) (oY (sT O O O O g) (av (vB d) O) ?_))))
       exact key _ _ (keep (keep (keep (keep (keep O O) O) O) O) (vB (mu d)))
end Go.Proofs.YtbblpokfbmekfaaGreat
set_option maxHeartbeats 4000000
set_option maxRecDepth 100000
namespace Go.Proofs.YtbblpokfbmekfaaGreat
open Go.RowKit (Below)
attribute [local irreducible] OX QX CX EX OpY Calls CallsIn
theorem iC (p0:TL) (p1:Int) (res:Int) (h:gk p0 p1=some res) (W:World) (Aa:Option Addr) (f ca:Nat) (d:f=p0.fNo.length) (g:Rd W Aa f ca (encL TNode_cells p0.fNo)) (Ab:Option Addr) (o cb:Nat) (r:List (Hd × TC)) (w:o=p0.fC.length) (K:Rd W Ab o cb (encL TClaim_cells2 r)) (M:NestW W (fun z:TC=>z.fO) THop_cells r p0.fC) :
  Calls Tryz.prog 67 [.agg #[.slice Aa f ca,.slice Ab o cb],vI p1].toArray W fun e W2=>e=.returned (vI res)∧Ext W W2 []:=by
 subst d
 subst w
 unfold gk at h
 refine ae (m:=22) Tryz.func67 O O (nB O) (cS (cR ?_))
 refine aP [.slice Aa p0.fNo.length ca,.slice Ab p0.fC.length cb] O O O (fun X=>?_)
 refine oY O (yAI O) (oN (eT (cS (cS (cR (oY O (yAI O) (oN (eT (cB ?_)))))))))
 obtain⟨Y,N,h⟩:=bOs h
 refine bW (fun(s:(Int × Int)) L tm=>∃(Q:Nat→Value),L=[aj X 25 [.slice Aa p0.fNo.length ca,.slice Ab p0.fC.length cb]]∧tm=(upd (upd (upd (upd Q 1 (vI p1)) 2 (.pointer (some ⟨X,0,none⟩))) 4 (vI s.1)) 5 (vI s.2))) 0 N ⟨_,O,(kp4 O)⟩ ?_ ?_
 ·rintro U L tm st ⟨H,rfl,rfl⟩ h
  unfold gx at h
  refine cS (cS (cR (oY O (yMI O) (oY O (yFA aY O) (oY O (yL 0 dK O O O) (oY O (bd (us:=[]) gE O) (oY O (bA O O) (oN (eT ?_)))))))))
  rcases iOs h with⟨D,h⟩|⟨D,h⟩
  ·refine cT (vB D) (cK (eT (cS (cB (cS (cR (oY O (yFA aY O) (oY O (yL 0 dK O O O) (oY O (yMI O) ?_)))))))))
   obtain⟨u,h⟩:=gOs h
   refine oY O (yI jL (by decide) u.1 u.2 (RdL.arg g) (eL ad O) O O) ?_
   refine oY O (yFR (A:=Aa) (j:=(Int.toNat U.2*3)) gd O) (oY O (yR (A:=Aa) (j:=((Int.toNat U.2*3)+0)) (v:=vI ((rdL p0.fNo U.2).fID)) bN (RdL.arg g) O (eG ad u.1 (ao u.2 O) O)) (oY O (yMI O) (oY O (ig O O) (oN (eT ?_)))))
   rcases iOs h with⟨E,h⟩|⟨E,h⟩
   ·refine cT (vB E) (cS (cR (oY O (yMI O) (oY O (yAI O) (oN (eT (ak (ai (ab ?_)))))))))
    obtain rfl:=sI h
    exact ay ⟨O,_,O,(kp4 O)⟩
   ·refine cF (vB E) (cK (aq (eT (cR (oY O (yMI O) (oY O (bc O O) (oY O (yAI O) (oN ?_))))))))
    obtain rfl:=sI h
    exact eN ⟨_,O,(kp4 O)⟩
  ·refine cF (vB D) (aK (ah ?_))
   obtain rfl:=sI h
   exact ay ⟨O,_,O,(kp4 O)⟩
 ·intro e L tm hJ
  rcases Y with Z|V
  ·dsimp only at h hJ
   obtain⟨rfl,I,rfl,rfl⟩:=hJ
   refine⟨(by intro hc;cases hc),?_⟩
   refine ai (ab ?_)
   obtain rfl:=sI h
   exact am (.inl O) O (rVt (v:=vI Z.1) O) (fun W2 F=>⟨O,F.none⟩)
  ·dsimp only at h hJ
   obtain⟨rfl,G,rfl,rfl⟩:=hJ
   refine⟨(by intro hc;cases hc),?_⟩
   refine ag (eT (cS (cR (oY O (yAI O) (oN (eT (ak ?_)))))))
   obtain rfl:=sI h
   exact am (.inl O) O (rVt (v:=vI (-1)) O) (fun W2 F=>⟨O,F.none⟩)
theorem qZ (p0:TL) (res:Int) (h:kX p0=some res) (W:World) (Aa:Option Addr) (r ca:Nat) (w:r=p0.fNo.length) (I:Rd W Aa r ca (encL TNode_cells p0.fNo)) (Ab:Option Addr) (u cb:Nat) (f:List (Hd × TC)) (D:u=p0.fC.length) (d:Rd W Ab u cb (encL TClaim_cells2 f)) (g:NestW W (fun z:TC=>z.fO) THop_cells f p0.fC) :
  Calls Tryz.prog 83 [.agg #[.slice Aa r ca,.slice Ab u cb]].toArray W fun e W2=>e=.returned (vI res)∧Ext W W2 []:=by
 subst w
 subst D
 unfold kX at h
 refine ae (m:=23) Tryz.func83 O O (nB O) (cS (cR ?_))
 refine aP [.slice Aa p0.fNo.length ca,.slice Ab p0.fC.length cb] O O O (fun Q=>?_)
 refine oY O (yAI O) (oN (eT (cS (cR (oY O (yAI O) (oN (eT (cS (cS (cR (oY O (yAI O) (oN (eT (cB ?_))))))))))))))
 obtain⟨U,K,h⟩:=bOs h
 refine bF (fun(s:(Int × Int)) L tm=>∃(M:Nat→Value),L=[aj Q 25 [.slice Aa p0.fNo.length ca,.slice Ab p0.fC.length cb]]∧tm=(upd (upd (upd (upd M 1 (.pointer (some ⟨Q,0,none⟩))) 2 (vI 0)) 3 (vI s.1)) 4 (vI s.2))) 0 K ⟨_,O,(kp4 O)⟩ ?_ ?_
 ·rintro E L tm st ⟨G,rfl,rfl⟩ h
  unfold fV at h
  refine cS (cS (cR (oY O (yMI O) (oY O (yFA aD O) (oY O (yL 0 bT O O O) (oY O (bd (us:=[]) dQ O) (oY O (bA O O) (oN (eT ?_)))))))))
  rcases iOs h with⟨F,h⟩|⟨F,h⟩
  ·refine cT (vB F) (cK (eT (cS (cB (cR (oY O (yMI O) (oY O (yFA aD O) (oY O (yL 0 bT O O O) (oY O (yMI O) ?_)))))))))
   obtain⟨o,h⟩:=gOs h
   refine oY O (yI dY (by decide) o.1 o.2 (RdL.arg d) (eL aa (NestP.hn g.p O)) O O) ?_
   refine oY O (yFR (A:=Ab) (j:=(Int.toNat E.2*2)) bQ O) (oY O (yR (A:=Ab) (j:=((Int.toNat E.2*2)+1)) (v:=.slice ((rdL f E.2).1.1) ((rdL p0.fC E.2).fO.length) ((rdL f E.2).1.2.2)) gL (RdL.arg d) O (eG aa o.1 (ao o.2 (NestP.hn g.p O)) (congrArg (fun n:Nat=>some (Value.slice (rdL f E.2).1.1 n (rdL f E.2).1.2.2)) (NestP.len g.p o.1 (ao o.2 O))))) (oY O (bd (us:=[]) fZ O) (oY O (y_mul O O) (oY O (y_min O O) (oY O (yAI O) (oN (aq (eT (cR (oY O (yMI O) (oY O (bc O O) (oY O (yAI O) (oN ?_)))))))))))))
   obtain rfl:=sI h
   exact eN ⟨_,O,(kp4 O)⟩
  ·refine cF (vB F) (aK (ah ?_))
   obtain rfl:=sI h
   exact ay ⟨O,_,O,(kp4 O)⟩
 ·intro e L tm hJ
  obtain⟨rfl,H,rfl,rfl⟩:=hJ
  refine⟨(by intro hc;cases hc),?_⟩
  refine ag (eT (cS (cR (oY O (yMI O) (oY O (yAI O) (oN (eT (ak ?_))))))))
  obtain rfl:=sI h
  exact am (.inl O) O (rVt (v:=vI U.1) O) (fun W2 N=>⟨O,N.none⟩)
theorem gF (p0:TL) (p1:Int) (res:Int) (h:fm p0 p1=some res) (W:World) (Aa:Option Addr) (g ca:Nat) (w:g=p0.fNo.length) (N:Rd W Aa g ca (encL TNode_cells p0.fNo)) (Ab:Option Addr) (o cb:Nat) (r:List (Hd × TC)) (D:o=p0.fC.length) (u:Rd W Ab o cb (encL TClaim_cells2 r)) (f:NestW W (fun z:TC=>z.fO) THop_cells r p0.fC) :
  Calls Tryz.prog 105 [.agg #[.slice Aa g ca,.slice Ab o cb],vI p1].toArray W fun e W2=>e=.returned (vI res)∧Ext W W2 []:=by
 subst w
 subst D
 unfold fm at h
 refine ae (m:=22) Tryz.func105 O O (nB O) (cS (cR ?_))
 refine aP [.slice Aa p0.fNo.length ca,.slice Ab p0.fC.length cb] O O O (fun X=>?_)
 refine oY O (yAI O) (oN (eT (cS (cS (cR (oY O (yAI O) (oN (eT (cB ?_)))))))))
 obtain⟨Y,Q,h⟩:=bOs h
 refine bW (fun(s:(Int × Int)) L tm=>∃(U:Nat→Value),L=[aj X 25 [.slice Aa p0.fNo.length ca,.slice Ab p0.fC.length cb]]∧tm=(upd (upd (upd (upd U 1 (vI p1)) 2 (.pointer (some ⟨X,0,none⟩))) 4 (vI s.1)) 5 (vI s.2))) 0 Q ⟨_,O,(kp4 O)⟩ ?_ ?_
 ·rintro I L tm st ⟨K,rfl,rfl⟩ h
  unfold fQ at h
  refine cS (cS (cR (oY O (yMI O) (oY O (yFA aD O) (oY O (yL 0 bT O O O) (oY O (bd (us:=[]) dQ O) (oY O (bA O O) (oN (eT ?_)))))))))
  rcases iOs h with⟨E,h⟩|⟨E,h⟩
  ·refine cT (vB E) (cK (eT (cS (cB (cS (cR (oY O (yFA aD O) (oY O (yL 0 bT O O O) (oY O (yMI O) ?_)))))))))
   obtain⟨d,h⟩:=gOs h
   refine oY O (yI dY (by decide) d.1 d.2 (RdL.arg u) (eL aa (NestP.hn f.p O)) O O) ?_
   refine oY O (yFR (A:=Ab) (j:=(Int.toNat I.2*2)) fh O) (oY O (yR (A:=Ab) (j:=((Int.toNat I.2*2)+0)) (v:=vI ((rdL p0.fC I.2).fID)) bN (RdL.arg u) O (eG aa d.1 (ao d.2 (NestP.hn f.p O)) (congrArg (fun z:TC=>some (Value.int .i64 z.fID)) (NestP.snd f.p I.2)))) (oY O (yMI O) (oY O (ig O O) (oN (eT ?_)))))
   rcases iOs h with⟨F,h⟩|⟨F,h⟩
   ·refine cT (vB F) (cS (cR (oY O (yMI O) (oY O (yAI O) (oN (eT (ak (ai (ab ?_)))))))))
    obtain rfl:=sI h
    exact ay ⟨O,_,O,(kp4 O)⟩
   ·refine cF (vB F) (cK (aq (eT (cR (oY O (yMI O) (oY O (bc O O) (oY O (yAI O) (oN ?_))))))))
    obtain rfl:=sI h
    exact eN ⟨_,O,(kp4 O)⟩
  ·refine cF (vB E) (aK (ah ?_))
   obtain rfl:=sI h
   exact ay ⟨O,_,O,(kp4 O)⟩
 ·intro e L tm hJ
  rcases Y with Z|V
  ·dsimp only at h hJ
   obtain⟨rfl,M,rfl,rfl⟩:=hJ
   refine⟨(by intro hc;cases hc),?_⟩
   refine ai (ab ?_)
   obtain rfl:=sI h
   exact am (.inl O) O (rVt (v:=vI Z.1) O) (fun W2 G=>⟨O,G.none⟩)
  ·dsimp only at h hJ
   obtain⟨rfl,H,rfl,rfl⟩:=hJ
   refine⟨(by intro hc;cases hc),?_⟩
   refine ag (eT (cS (cR (oY O (yAI O) (oN (eT (ak ?_)))))))
   obtain rfl:=sI h
   exact am (.inl O) O (rVt (v:=vI (-1)) O) (fun W2 G=>⟨O,G.none⟩)
theorem js (p0:Int) (p1:Int) (p2:Int) (res:Bool) (h:jD p0 p1 p2=some res) (W:World)  :
  Calls Tryz.prog 122 [vI p0,vI p1,vI p2].toArray W fun e W2=>e=.returned (.bool res)∧Ext W W2 []:=by
 unfold jD at h
 refine ae (m:=15) Tryz.func122 O O (nB O) (cS (cR (oY O (yAB O) (oN (eT (cS (cR (oY O (yMI O) (oY O (yMI O) (oY O (qf O O) (oY O (yMB O) ?_)))))))))))
 refine oJ 4 (fun g=>(upd (upd g 6 (.bool false)) 14 (.bool ((decide (p1≤p0))&&(decide (p0≤p2)))))) (fun g=>?_) (fun key=>?_)
 ·refine oY O (yAB O) (oN (eT (ak ?_)))
  obtain rfl:=sI h
  exact am (.inl O) O (rVt (v:=.bool ((decide (p1≤p0))&&(decide (p0≤p2)))) O) (fun W2 o=>⟨O,o.none⟩)
 ·rcases aB (decide (p1≤p0))with f|f
  ·refine oY (sT O O O O f) (yMI O) (oY (sT O O O O f) (yMI O) (oY (sT O O O O f) (pO O O) (oY O (aw (vB f) O) ?_)))
   exact key _ _ (keep (keep O O) (vB (mv f)))
  ·refine oSk (sF O O O O f) (oSk (sF O O O O f) (oSk (sF O O O O f) (oY O (av (vB f) O) ?_)))
   exact key _ _ (keep (keep O O) (vB (mu f)))
theorem rb (p0:TL) (p1:TC) (res:Bool) (h:kT p0 p1=some res) (W:World) (Aa:Option Addr) (Y ca:Nat) (t:Y=p0.fNo.length) (w:Rd W Aa Y ca (encL TNode_cells p0.fNo)) (Ab:Option Addr) (Z cb:Nat) (F:List (Hd × TC)) (a:Z=p0.fC.length) (V:Rd W Ab Z cb (encL TClaim_cells2 F)) (T:NestW W (fun z:TC=>z.fO) THop_cells F p0.fC) (o:Option Addr) (S H:Nat) (i:S=p1.fO.length) (r:Rd W o S H (encL THop_cells p1.fO)) :
  Calls Tryz.prog 123 [.agg #[.slice Aa Y ca,.slice Ab Z cb],.agg #[vI p1.fID,.slice o S H]].toArray W fun e W2=>e=.returned (.bool res)∧Ext W W2 []:=by
 subst t
 subst a
 subst i
 unfold kT at h
 refine ae (m:=80) Tryz.func123 O O (nB O) (cS (cR ?_))
 refine aP [.slice Aa p0.fNo.length ca,.slice Ab p0.fC.length cb] O O O (fun k=>?_)
 refine aP [vI p1.fID,.slice o p1.fO.length H] O O O (fun x=>?_)
 refine oY O (yAB O) (oN (eT (cS (cS (cR (oY O (yFA fh O) (oY O (yL 1 bN O O O) ?_)))))))
 obtain⟨y3,g2,h⟩:=bOs h
 refine oY O (yC [vI p1.fID,vI 1,vI 1099511627776] rp O (fun W2 u=>js p1.fID 1 1099511627776 y3 g2 W2 ) O) (oY O (fe O) (oY O (yMB O) ?_))
 obtain⟨b6,g3,h⟩:=bOs h
 refine oJ 6 (fun E=>(upd (upd (upd (upd E 2 (.pointer (some ⟨k,0,none⟩))) 3 (.pointer (some ⟨x,0,none⟩))) 4 (.bool false)) 19 (.bool b6))) (fun E=>?_) (fun key=>?_)
 ·refine oN (eT ?_)
  rcases iOs h with⟨y,h⟩|⟨y,h⟩
  ·refine cT (vB y) (cS (cR (oY O (yAB O) (oN (eT (ak (ab ?_)))))))
   obtain rfl:=sI h
   exact am (.inl O) O (rVt (v:=.bool false) O) (fun W2 u=>⟨O,u.none⟩)
  ·refine cF (vB y) (cK (eT (cS (cS (cR (oY O (yAI O) (oN (eT (cB ?_)))))))))
   obtain⟨gf,c,h⟩:=bOs h
   refine bW (fun(s:(Bool × Int)) L tm=>∃(E:Nat→Value),L=[aj k 25 [.slice Aa p0.fNo.length ca,.slice Ab p0.fC.length cb],aj x 90 [vI p1.fID,.slice o p1.fO.length H]]∧tm=(upd (upd (upd (upd E 2 (.pointer (some ⟨k,0,none⟩))) 3 (.pointer (some ⟨x,0,none⟩))) 4 (.bool s.1)) 5 (vI s.2))) 0 c ⟨_,O,(kp4 O)⟩ ?_ ?_
   ·rintro g L tm st ⟨f0,rfl,rfl⟩ h
    unfold fP at h
    refine cS (cS (cR (oY O (yMI O) (oY O (yFA bQ O) (oY O (yL 1 gL O O O) (oY O (bd (us:=[]) fZ O) (oY O (bA O O) (oN (eT ?_)))))))))
    rcases iOs h with⟨R,h⟩|⟨R,h⟩
    ·refine cT (vB R) (cK (eT (cS (cB (cS ?_)))))
     refine aU 9 cD (by kernel_rfl) (by kernel_rfl) ?_
     refine qY O (yN 0 [.slice Aa p0.fNo.length ca,.slice Ab p0.fC.length cb] aF O O O) (qY O (yFA bQ O) (qY O (yL 1 gL O O O) (qY O (yMI O) ?_)))
     obtain⟨K,h⟩:=gOs h
     refine qY O (yI lw (by decide) K.1 K.2 (RdL.arg r) (eL au O) O O) ?_
     refine qY O (yFR (A:=o) (j:=(Int.toNat g.2*2)) pV O) (qY O (yR (A:=o) (j:=((Int.toNat g.2*2)+0)) (v:=vI ((rdL p1.fO g.2).fFrom)) bN (RdL.arg r) O (eG au K.1 (ao K.2 O) O)) ?_)
     obtain⟨G,f1,h⟩:=bOs h
     refine qY O (yC [.agg #[.slice Aa p0.fNo.length ca,.slice Ab p0.fC.length cb],vI ((rdL p1.fO g.2).fFrom)] go_67 O (fun W2 u=>iC p0 ((rdL p1.fO g.2).fFrom) G f1 W2 Aa p0.fNo.length ca O ((RdL.arg w) W2 u) Ab p0.fC.length cb F O ((RdL.arg V) W2 u) (NestL.at (NestL.arg T) W2 u)) O) (qY O (yAI O) (ck (oN (eT (cS ?_)))))
     refine aU 9 cD (by kernel_rfl) (by kernel_rfl) ?_
     refine qY O (yN 0 [.slice Aa p0.fNo.length ca,.slice Ab p0.fC.length cb] aF O O O) (qY O (yFA bQ O) (qY O (yL 1 gL O O O) (qY O (yMI O) ?_)))
     obtain⟨M,h⟩:=gOs h
     refine qY O (yI lw (by decide) M.1 M.2 (RdL.arg r) (eL au O) O O) ?_
     refine qY O (yFR (A:=o) (j:=(Int.toNat g.2*2)) p5 O) (qY O (yR (A:=o) (j:=((Int.toNat g.2*2)+1)) (v:=vI ((rdL p1.fO g.2).fTo)) bN (RdL.arg r) O (eG au M.1 (ao M.2 O) O)) ?_)
     obtain⟨I,f2,h⟩:=bOs h
     refine qY O (yC [.agg #[.slice Aa p0.fNo.length ca,.slice Ab p0.fC.length cb],vI ((rdL p1.fO g.2).fTo)] go_67 O (fun W2 u=>iC p0 ((rdL p1.fO g.2).fTo) I f2 W2 Aa p0.fNo.length ca O ((RdL.arg w) W2 u) Ab p0.fC.length cb F O ((RdL.arg V) W2 u) (NestL.at (NestL.arg T) W2 u)) O) (qY O (yAI O) (ck (oN (eT (cS (cS ?_))))))
     refine aU 21 cD (by kernel_rfl) (by kernel_rfl) ?_
     refine qY O (yMI O) (qY O (bA O O) (qY O (yMB O) ?_))
     refine qJ 3 (fun E=>(upd (upd (upd (upd (upd (upd (upd (upd E 2 (.pointer (some ⟨k,0,none⟩))) 3 (.pointer (some ⟨x,0,none⟩))) 4 (.bool g.1)) 5 (vI g.2)) 24 (.bool (decide (g.2<(p1.fO.length:Int))))) 6 (vI G)) 7 (vI I)) 48 (.bool ((decide (G<0))||(decide (I<0)))))) (fun E=>?_) (fun key=>?_)
     ·refine qY O (yMB O) ?_
      obtain⟨f3,f4,h⟩:=bOs h
      refine qJ 14 (fun E=>(upd (upd (upd (upd (upd (upd (upd (upd E 2 (.pointer (some ⟨k,0,none⟩))) 3 (.pointer (some ⟨x,0,none⟩))) 4 (.bool g.1)) 5 (vI g.2)) 24 (.bool (decide (g.2<(p1.fO.length:Int))))) 6 (vI G)) 7 (vI I)) 63 (.bool f3))) (fun E=>?_) (fun key=>?_)
      ·refine ck (oN (eT ?_))
       rcases iOs h with⟨q,h⟩|⟨q,h⟩
       ·refine cT (vB q) (cS (cR (oY O (yAB O) (oN (eT (ak (ab (ai (ab ?_)))))))))
        obtain rfl:=sI h
        exact ay ⟨O,_,O,(kp4 O)⟩
       ·refine cF (vB q) (cK (eT (cS (cR (oY O (yAI O) (oN (eT (cB ?_))))))))
        obtain⟨o0,fr,h⟩:=bOs h
        refine bW (fun(s:(Bool × Int)) L tm=>∃(E:Nat→Value),L=[aj k 25 [.slice Aa p0.fNo.length ca,.slice Ab p0.fC.length cb],aj x 90 [vI p1.fID,.slice o p1.fO.length H]]∧tm=(upd (upd (upd (upd (upd (upd (upd (upd (upd E 2 (.pointer (some ⟨k,0,none⟩))) 3 (.pointer (some ⟨x,0,none⟩))) 4 (.bool s.1)) 5 (vI g.2)) 24 (.bool (decide (g.2<(p1.fO.length:Int))))) 6 (vI G)) 7 (vI I)) 63 (.bool f3)) 8 (vI s.2))) 2 fr ⟨_,O,(kp4 (kp4 (kp O)))⟩ ?_ ?_
        ·rintro p L tm st ⟨fd,rfl,rfl⟩ h
         unfold dJ at h
         refine cS (cS (cR (oY O (yMI O) (oY O (yMI O) (oY O (bA O O) (oN (eT ?_)))))))
         rcases iOs h with⟨n,h⟩|⟨n,h⟩
         ·refine cT (vB n) (cK (eT (cS (cB (cS ?_)))))
          refine aU 11 cD (by kernel_rfl) (by kernel_rfl) ?_
          refine qY O (yFA bQ O) (qY O (yL 1 gL O O O) (qY O (yMI O) ?_))
          obtain⟨N,h⟩:=gOs h
          refine qY O (yI lw (by decide) N.1 N.2 (RdL.arg r) (eL au O) O O) ?_
          refine qY O (yM (A:=o) (j:=(Int.toNat p.2*2)) [vI ((rdL p1.fO p.2).fFrom),vI ((rdL p1.fO p.2).fTo)] lW (Nat.succ_pos _) (RdL.arg r) O (aM au N.1 (ao N.2 O))) (qY O (yFA bQ O) (qY O (yL 1 gL O O O) (qY O (yMI O) ?_)))
          obtain⟨Q,h⟩:=gOs h
          refine qY O (yI lw (by decide) Q.1 Q.2 (RdL.arg r) (eL au O) O O) ?_
          refine qY O (yM (A:=o) (j:=(Int.toNat g.2*2)) [vI ((rdL p1.fO g.2).fFrom),vI ((rdL p1.fO g.2).fTo)] lW (Nat.succ_pos _) (RdL.arg r) O (aM au Q.1 (ao Q.2 O))) (qY O (y_eqla (b:=(((rdL p1.fO p.2).fFrom==(rdL p1.fO g.2).fFrom)&&((rdL p1.fO p.2).fTo==(rdL p1.fO g.2).fTo))) eg_111 O O (fun _=>(eqS2 fl_111 (ep bN O) (ep bN O) (ep bN O) (ep bN O) (run_equalIn_int _ _ _ _ _ _ _ pQ) (run_equalIn_int _ _ _ _ _ _ _ pQ)))) (ck (oN (eT ?_))))
          rcases iOs h with⟨l,h⟩|⟨l,h⟩
          ·refine cT (vB l) (cS (cR (oY O (yAB O) (oN (eT (ak (ai (ab ?_))))))))
           obtain rfl:=sI h
           exact ay ⟨O,_,O,(kp4 (kp4 (kp O)))⟩
          ·refine cF (vB l) (cK (aq (eT (cR (oY O (yMI O) (oY O (bc O O) (oY O (yAI O) (oN ?_))))))))
           obtain rfl:=sI h
           exact eN ⟨_,O,(kp4 (kp4 (kp O)))⟩
         ·refine cF (vB n) (aK (ah ?_))
          obtain rfl:=sI h
          exact ay ⟨O,_,O,(kp4 (kp4 (kp O)))⟩
        ·intro e L tm hJ
         rcases o0 with om|ot
         ·dsimp only at h hJ
          obtain⟨rfl,fE,rfl,rfl⟩:=hJ
          refine⟨(by intro hc;cases hc),?_⟩
          refine ai (ai (ab ?_))
          obtain rfl:=sI h
          exact ay ⟨O,_,O,(kp4 O)⟩
         ·dsimp only at h hJ
          obtain⟨rfl,fN,rfl,rfl⟩:=hJ
          refine⟨(by intro hc;cases hc),?_⟩
          refine ag (aq (eT (cR (oY O (yMI O) (oY O (bc O O) (oY O (yAI O) (oN ?_)))))))
          obtain rfl:=sI h
          exact eN ⟨_,O,(kp4 O)⟩
      ·clear h;rcases iOs f4 with⟨f,h⟩|⟨f,h⟩
       ·refine ar (sF O O O O f) (ar (sF O O O O f) (ar (sF O O O O f) (ar (sF O O O O f) (ar (sF O O O O f) (ar (sF O O O O f) (ar (sF O O O O f) (ar (sF O O O O f) (ar (sF O O O O f) (ar (sF O O O O f) (ar (sF O O O O f) (ar (sF O O O O f) (ar (sF O O O O f) (qY O (aw (vB f) O) ?_)))))))))))))
        obtain rfl:=sI h
        exact key _ _ (kp4 (kp4 O))
       ·refine qY (sT O O O O f) (yFA aY O) (qY (sT O O O O f) (yL 0 dK O O O) (qY (sT O O O O f) (yMI O) ?_))
        obtain⟨U,h⟩:=gOs h
        refine qY (sT O O O O f) (yI jL (by decide) U.1 U.2 (RdL.arg w) (eL ad O) O O) ?_
        refine qY (sT O O O O f) (yFR (A:=Aa) (j:=(Int.toNat G*3)) ls O) (qY (sT O O O O f) (yR (A:=Aa) (j:=((Int.toNat G*3)+1)) (v:=vI ((rdL p0.fNo G).fLevel)) bN (RdL.arg w) O (eG ad U.1 (ao U.2 O) O)) (qY (sT O O O O f) (yFA aY O) (qY (sT O O O O f) (yL 0 dK O O O) (qY (sT O O O O f) (yMI O) ?_))))
        obtain⟨X,h⟩:=gOs h
        refine qY (sT O O O O f) (yI jL (by decide) X.1 X.2 (RdL.arg w) (eL ad O) O O) ?_
        refine qY (sT O O O O f) (yFR (A:=Aa) (j:=(Int.toNat I*3)) ls O) (qY (sT O O O O f) (yR (A:=Aa) (j:=((Int.toNat I*3)+1)) (v:=vI ((rdL p0.fNo I).fLevel)) bN (RdL.arg w) O (eG ad X.1 (ao X.2 O) O)) (qY (sT O O O O f) (qf O O) (qY O (av (vB f) O) ?_)))
        obtain rfl:=sI h
        exact key _ _ (kp4 (kp4 O))
     ·rcases aB (decide (G<0))with d|d
      ·refine ar (sF O O O O d) (ar (sF O O O O d) (qY O (aw (vB d) O) ?_))
       exact key _ _ (keep (keep (keep (keep (keep (keep (keep (keep O O) O) O) O) O) O) O) (vB (rf d)))
      ·refine qY (sT O O O O d) (yMI O) (qY (sT O O O O d) (bA O O) (qY O (av (vB d) O) ?_))
       exact key _ _ (keep (keep (keep (keep (keep (keep (keep (keep O O) O) O) O) O) O) O) (vB (re d)))
    ·refine cF (vB R) (aK (ah ?_))
     obtain rfl:=sI h
     exact ay ⟨O,_,O,(kp4 O)⟩
   ·intro e L tm hJ
    rcases gf with o1|oa
    ·dsimp only at h hJ
     obtain⟨rfl,fn,rfl,rfl⟩:=hJ
     refine⟨(by intro hc;cases hc),?_⟩
     refine ai (ab ?_)
     obtain rfl:=sI h
     exact am (.inl O) O (rVt (v:=.bool o1.1) O) (fun W2 u=>⟨O,u.none⟩)
    ·dsimp only at h hJ
     obtain⟨rfl,fl,rfl,rfl⟩:=hJ
     refine⟨(by intro hc;cases hc),?_⟩
     refine ag (eT (cS (cR (oY O (yAB O) (oN (eT (ak ?_)))))))
     obtain rfl:=sI h
     exact am (.inl O) O (rVt (v:=.bool true) O) (fun W2 u=>⟨O,u.none⟩)
 ·clear h;rcases iOs g3 with⟨D,h⟩|⟨D,h⟩
  ·refine oSk (sF O O O O D) (oSk (sF O O O O D) (oSk (sF O O O O D) (oSk (sF O O O O D) (oSk (sF O O O O D) (oY O (aw (vB D) O) ?_)))))
   obtain rfl:=sI h
   exact key _ _ (kp4 O)
  ·refine oY (sT O O O O D) (yFA bQ O) (oY (sT O O O O D) (yL 1 gL O O O) (oY (sT O O O O D) (bd (us:=[]) fZ O) ?_))
   obtain⟨o2,g1,h⟩:=bOs h
   refine oY (sT O O O O D) (yC [vI (p1.fO.length:Int),vI 1,vI 4] rp O (fun W2 u=>js (p1.fO.length:Int) 1 4 o2 g1 W2 ) O) (oY (sT O O O O D) (fe O) (oY O (av (vB D) O) ?_))
   obtain rfl:=sI h
   exact key _ _ (kp4 O)
theorem fF (p0:TL) (res:Int) (h:eI p0=some res) (W:World) (Aa:Option Addr) (K ca:Nat) (T:K=p0.fNo.length) (D:Rd W Aa K ca (encL TNode_cells p0.fNo)) (Ab:Option Addr) (M cb:Nat) (g:List (Hd × TC)) (S:M=p0.fC.length) (u:Rd W Ab M cb (encL TClaim_cells2 g)) (o:NestW W (fun z:TC=>z.fO) THop_cells g p0.fC) :
  Calls Tryz.prog 66 [.agg #[.slice Aa K ca,.slice Ab M cb]].toArray W fun e W2=>e=.returned (vI res)∧Ext W W2 []:=by
 subst T
 subst S
 unfold eI at h
 refine ae (m:=78) Tryz.func66 O O (nB O) (cS (cR ?_))
 refine aP [.slice Aa p0.fNo.length ca,.slice Ab p0.fC.length cb] O O O (fun R=>?_)
 refine oY O (yAI O) (oN (eT (cS (cS (cR (oY O (yFA aY O) (oY O (yL 0 dK O O O) (oY O (bd (us:=[]) gE O) (oY O (mq O O) (oY O (yMB O) ?_))))))))))
 refine oJ 5 (fun G=>(upd (upd (upd G 1 (.pointer (some ⟨R,0,none⟩))) 2 (vI 0)) 15 (.bool ((decide (60<(p0.fNo.length:Int)))||(decide (80<(p0.fC.length:Int))))))) (fun G=>?_) (fun key=>?_)
 ·refine oN (eT ?_)
  rcases iOs h with⟨q,h⟩|⟨q,h⟩
  ·refine cT (vB q) (cS (cR (oY O (yAI O) (oN (eT (ak (ab ?_)))))))
   obtain rfl:=sI h
   exact am (.inl O) O (rVt (v:=vI 2) O) (fun W2 f=>⟨O,f.none⟩)
  ·refine cF (vB q) (cK (eT (cS (cS (cR (oY O (yAI O) (oN (eT (cB ?_)))))))))
   obtain⟨u6,l,h⟩:=bOs h
   refine bW (fun(s:(Int × Int)) L tm=>∃(G:Nat→Value),L=[aj R 25 [.slice Aa p0.fNo.length ca,.slice Ab p0.fC.length cb]]∧tm=(upd (upd (upd G 1 (.pointer (some ⟨R,0,none⟩))) 2 (vI s.1)) 3 (vI s.2))) 0 l ⟨_,O,(kp (kp (kp O)))⟩ ?_ ?_
   ·rintro H L tm st ⟨fE,rfl,rfl⟩ h
    unfold fT at h
    refine cS (cS (cR (oY O (yMI O) (oY O (yFA aY O) (oY O (yL 0 dK O O O) (oY O (bd (us:=[]) gE O) (oY O (bA O O) (oN (eT ?_)))))))))
    rcases iOs h with⟨n,h⟩|⟨n,h⟩
    ·refine cT (vB n) (cK (eT (cS (cB (cS (cR (oY O (yFA aY O) (oY O (yL 0 dK O O O) (oY O (yMI O) ?_)))))))))
     obtain⟨V,h⟩:=gOs h
     refine oY O (yI jL (by decide) V.1 V.2 (RdL.arg D) (eL ad O) O O) ?_
     refine oY O (yM (A:=Aa) (j:=(Int.toNat H.2*3)) [vI ((rdL p0.fNo H.2).fID),vI ((rdL p0.fNo H.2).fLevel),vI ((rdL p0.fNo H.2).fCost)] mr (Nat.succ_pos _) (RdL.arg D) O (aM ad V.1 (ao V.2 O))) ?_
     refine aC j7 O (fun b9=>?_)
     refine cr O (yS 1 [vI ((rdL p0.fNo H.2).fID),vI ((rdL p0.fNo H.2).fLevel),vI ((rdL p0.fNo H.2).fCost)] sz_97 O (nB O) O O O) (oN (eT (cS (cS (cR (oY O (yFA gd O) (oY O (yL 1 bN O O O) ?_)))))))
     obtain⟨fN,t,h⟩:=bOs h
     refine oY O (yC [vI ((rdL p0.fNo H.2).fID),vI 1,vI 1099511627776] rp O (fun W2 f=>js ((rdL p0.fNo H.2).fID) 1 1099511627776 fN t W2 ) O) (oY O (fe O) (oY O (yMB O) ?_))
     obtain⟨fn,a,h⟩:=bOs h
     refine oJ 5 (fun G=>(upd (upd (upd (upd (upd (upd G 1 (.pointer (some ⟨R,0,none⟩))) 2 (vI H.1)) 3 (vI H.2)) 20 (.bool (decide (H.2<(p0.fNo.length:Int))))) 4 (.pointer (some ⟨b9,0,none⟩))) 37 (.bool fn))) (fun G=>?_) (fun key=>?_)
     ·refine oY O (yMB O) ?_
      obtain⟨fl,i,h⟩:=bOs h
      refine oJ 5 (fun G=>(upd (upd (upd (upd (upd (upd G 1 (.pointer (some ⟨R,0,none⟩))) 2 (vI H.1)) 3 (vI H.2)) 20 (.bool (decide (H.2<(p0.fNo.length:Int))))) 4 (.pointer (some ⟨b9,0,none⟩))) 43 (.bool fl))) (fun G=>?_) (fun key=>?_)
      ·refine oN (eT ?_)
       rcases iOs h with⟨N,h⟩|⟨N,h⟩
       ·refine cT (vB N) (cS (cR (oY O (yAI O) (oN (eT (ak (ab (ai (ab (aS 1 ?_))))))))))
        obtain rfl:=sI h
        exact ay ⟨O,_,O,(kp (kp (kp O)))⟩
       ·refine cF (vB N) (cK (eT (cS (cR (oY O (yN 0 [.slice Aa p0.fNo.length ca,.slice Ab p0.fC.length cb] aF O O O) (oY O (yFA gd O) (oY O (yL 1 bN O O O) ?_)))))))
        obtain⟨g1,k,h⟩:=bOs h
        refine oY O (yC [.agg #[.slice Aa p0.fNo.length ca,.slice Ab p0.fC.length cb],vI ((rdL p0.fNo H.2).fID)] go_67 O (fun W2 f=>iC p0 ((rdL p0.fNo H.2).fID) g1 k W2 Aa p0.fNo.length ca O ((RdL.arg D) W2 f) Ab p0.fC.length cb g O ((RdL.arg u) W2 f) (NestL.at (NestL.arg o) W2 f)) O) (oY O (yMI O) (oY O (bA O O) (oN (eT ?_))))
        rcases iOs h with⟨Q,h⟩|⟨Q,h⟩
        ·refine cT (vB Q) (cS (cR (oY O (yAI O) (oN (eT (ak (ai (ab (aS 1 ?_)))))))))
         obtain rfl:=sI h
         exact ay ⟨O,_,O,(kp (kp (kp O)))⟩
        ·refine cF (vB Q) (cK (aq (eT (cR (oY O (yMI O) (oY O (bc O O) (oY O (yAI O) (oN (aS 1 ?_)))))))))
         obtain rfl:=sI h
         exact eN ⟨_,O,(kp (kp (kp O)))⟩
      ·clear h;rcases iOs i with⟨d,h⟩|⟨d,h⟩
       ·refine oSk (sF O O O O d) (oSk (sF O O O O d) (oSk (sF O O O O d) (oSk (sF O O O O d) (oY O (aw (vB d) O) ?_))))
        obtain rfl:=sI h
        exact key _ _ (kp4 (kp (kp O)))
       ·refine oY (sT O O O O d) (yFA th O) (oY (sT O O O O d) (yL 1 bN O O O) ?_)
        obtain⟨g2,x,h⟩:=bOs h
        refine oY (sT O O O O d) (yC [vI ((rdL p0.fNo H.2).fCost),vI 0,vI 1073741824] rp O (fun W2 f=>js ((rdL p0.fNo H.2).fCost) 0 1073741824 g2 x W2 ) O) (oY (sT O O O O d) (fe O) (oY O (av (vB d) O) ?_))
        obtain rfl:=sI h
        exact key _ _ (kp4 (kp (kp O)))
     ·clear h;rcases iOs a with⟨w,h⟩|⟨w,h⟩
      ·refine oSk (sF O O O O w) (oSk (sF O O O O w) (oSk (sF O O O O w) (oSk (sF O O O O w) (oY O (aw (vB w) O) ?_))))
       obtain rfl:=sI h
       exact key _ _ (kp4 (kp (kp O)))
      ·refine oY (sT O O O O w) (yFA ls O) (oY (sT O O O O w) (yL 1 bN O O O) ?_)
       obtain⟨g3,y,h⟩:=bOs h
       refine oY (sT O O O O w) (yC [vI ((rdL p0.fNo H.2).fLevel),vI 0,vI 9] rp O (fun W2 f=>js ((rdL p0.fNo H.2).fLevel) 0 9 g3 y W2 ) O) (oY (sT O O O O w) (fe O) (oY O (av (vB w) O) ?_))
       obtain rfl:=sI h
       exact key _ _ (kp4 (kp (kp O)))
    ·refine cF (vB n) (aK (ah ?_))
     obtain rfl:=sI h
     exact ay ⟨O,_,O,(kp (kp (kp O)))⟩
   ·intro e L tm hJ
    rcases u6 with gf|oa
    ·dsimp only at h hJ
     obtain⟨rfl,b,rfl,rfl⟩:=hJ
     refine⟨(by intro hc;cases hc),?_⟩
     refine ai (ab ?_)
     obtain rfl:=sI h
     exact am (.inl O) O (rVt (v:=vI gf.1) O) (fun W2 f=>⟨O,f.none⟩)
    ·dsimp only at h hJ
     obtain⟨rfl,c,rfl,rfl⟩:=hJ
     refine⟨(by intro hc;cases hc),?_⟩
     refine ag (eT (cS (cS (cR (oY O (yAI O) (oN (eT (cB ?_))))))))
     obtain⟨o0,f0,h⟩:=bOs h
     refine bW (fun(s:(Int × Int)) L tm=>∃(G:Nat→Value),L=[aj R 25 [.slice Aa p0.fNo.length ca,.slice Ab p0.fC.length cb]]∧tm=(upd (upd (upd G 1 (.pointer (some ⟨R,0,none⟩))) 2 (vI s.1)) 5 (vI s.2))) 2 f0 ⟨_,O,(kp (kp (kp O)))⟩ ?_ ?_
     ·rintro r L tm st ⟨f1,rfl,rfl⟩ h
      unfold fJ at h
      refine cS (cS (cR (oY O (yMI O) (oY O (yFA aD O) (oY O (yL 0 bT O O O) (oY O (bd (us:=[]) dQ O) (oY O (bA O O) (oN (eT ?_)))))))))
      rcases iOs h with⟨U,h⟩|⟨U,h⟩
      ·refine cT (vB U) (cK (eT (cS (cB (cS (cS ?_))))))
       refine aU 8 cD (by kernel_rfl) (by kernel_rfl) ?_
       refine qY O (yN 0 [.slice Aa p0.fNo.length ca,.slice Ab p0.fC.length cb] aF O O O) (qY O (yFA aD O) (qY O (yL 0 bT O O O) (qY O (yMI O) ?_)))
       obtain⟨F,h⟩:=gOs h
       refine qY O (yI dY (by decide) F.1 F.2 (RdL.arg u) (eL aa (NestP.hn o.p O)) O O) ?_
       refine qY O (yM (A:=Ab) (j:=(Int.toNat r.2*2)) [vI ((rdL p0.fC r.2).fID),.slice ((rdL g r.2).1.1) ((rdL p0.fC r.2).fO.length) ((rdL g r.2).1.2.2)] lX (Nat.succ_pos _) (RdL.arg u) O (iL (a6 (NestP.snd o.p r.2) (NestP.len o.p F.1 (ao F.2 O))).symm (aM aa F.1 (ao F.2 (NestP.hn o.p O))))) ?_
       obtain⟨o1,f2,h⟩:=bOs h
       refine qY O (yC [.agg #[.slice Aa p0.fNo.length ca,.slice Ab p0.fC.length cb],.agg #[vI ((rdL p0.fC r.2).fID),.slice ((rdL g r.2).1.1) ((rdL p0.fC r.2).fO.length) ((rdL g r.2).1.2.2)]] go_123 O (fun W2 f=>rb p0 (TC.mk ((rdL p0.fC r.2).fID) ((rdL p0.fC r.2).fO)) o1 f2 W2 Aa p0.fNo.length ca O ((RdL.arg D) W2 f) Ab p0.fC.length cb g O ((RdL.arg u) W2 f) (NestL.at (NestL.arg o) W2 f) ((rdL g r.2).1.1) ((rdL p0.fC r.2).fO.length) ((rdL g r.2).1.2.2) O ((NestL.rd (NestL.arg o) F.1 (ao F.2 O)) W2 f)) O) (qY O (fe O) (ck (oN (eT ?_))))
       rcases iOs h with⟨X,h⟩|⟨X,h⟩
       ·refine cT (vB X) (cS (cR (oY O (yAI O) (oN (eT (ak (ab (ai (ab ?_)))))))))
        obtain rfl:=sI h
        exact ay ⟨O,_,O,(kp (kp (kp O)))⟩
       ·refine cF (vB X) (cK (eT (cS ?_)))
        refine aU 10 cD (by kernel_rfl) (by kernel_rfl) ?_
        refine qY O (yN 0 [.slice Aa p0.fNo.length ca,.slice Ab p0.fC.length cb] aF O O O) (qY O (yFA aD O) (qY O (yL 0 bT O O O) (qY O (yMI O) ?_)))
        obtain⟨I,h⟩:=gOs h
        refine qY O (yI dY (by decide) I.1 I.2 (RdL.arg u) (eL aa (NestP.hn o.p O)) O O) ?_
        refine qY O (yFR (A:=Ab) (j:=(Int.toNat r.2*2)) fh O) (qY O (yR (A:=Ab) (j:=((Int.toNat r.2*2)+0)) (v:=vI ((rdL p0.fC r.2).fID)) bN (RdL.arg u) O (eG aa I.1 (ao I.2 (NestP.hn o.p O)) (congrArg (fun z:TC=>some (Value.int .i64 z.fID)) (NestP.snd o.p r.2)))) ?_)
        obtain⟨o2,f3,h⟩:=bOs h
        refine qY O (yC [.agg #[.slice Aa p0.fNo.length ca,.slice Ab p0.fC.length cb],vI ((rdL p0.fC r.2).fID)] sN O (fun W2 f=>gF p0 ((rdL p0.fC r.2).fID) o2 f3 W2 Aa p0.fNo.length ca O ((RdL.arg D) W2 f) Ab p0.fC.length cb g O ((RdL.arg u) W2 f) (NestL.at (NestL.arg o) W2 f)) O) (qY O (yMI O) (qY O (bA O O) (ck (oN (eT ?_)))))
        rcases iOs h with⟨Y,h⟩|⟨Y,h⟩
        ·refine cT (vB Y) (cS (cR (oY O (yAI O) (oN (eT (ak (ai (ab ?_))))))))
         obtain rfl:=sI h
         exact ay ⟨O,_,O,(kp (kp (kp O)))⟩
        ·refine cF (vB Y) (cK (aq (eT (cR (oY O (yMI O) (oY O (bc O O) (oY O (yAI O) (oN ?_))))))))
         obtain rfl:=sI h
         exact eN ⟨_,O,(kp (kp (kp O)))⟩
      ·refine cF (vB U) (aK (ah ?_))
       obtain rfl:=sI h
       exact ay ⟨O,_,O,(kp (kp (kp O)))⟩
     ·intro e L tm hJ
      rcases o0 with oq|oi
      ·dsimp only at h hJ
       obtain⟨rfl,f4,rfl,rfl⟩:=hJ
       refine⟨(by intro hc;cases hc),?_⟩
       refine ai (ab ?_)
       obtain rfl:=sI h
       exact am (.inl O) O (rVt (v:=vI oq.1) O) (fun W2 f=>⟨O,f.none⟩)
      ·dsimp only at h hJ
       obtain⟨rfl,fr,rfl,rfl⟩:=hJ
       refine⟨(by intro hc;cases hc),?_⟩
       refine ag (eT (cS (cS (cR (oY O (yN 0 [.slice Aa p0.fNo.length ca,.slice Ab p0.fC.length cb] aF O O O) ?_)))))
       obtain⟨op,fd,h⟩:=bOs h
       refine oY O (yC [.agg #[.slice Aa p0.fNo.length ca,.slice Ab p0.fC.length cb]] go_83 O (fun W2 f=>qZ p0 op fd W2 Aa p0.fNo.length ca O ((RdL.arg D) W2 f) Ab p0.fC.length cb g O ((RdL.arg u) W2 f) (NestL.at (NestL.arg o) W2 f)) O) (oY O (mq O O) (oN (eT ?_)))
       rcases iOs h with⟨Z,h⟩|⟨Z,h⟩
       ·refine cT (vB Z) (cS (cR (oY O (yAI O) (oN (eT (ak (ab ?_)))))))
        obtain rfl:=sI h
        exact am (.inl O) O (rVt (v:=vI 2) O) (fun W2 f=>⟨O,f.none⟩)
       ·refine cF (vB Z) (cK (eT (cS (cR (oY O (yAI O) (oN (eT (ak ?_))))))))
        obtain rfl:=sI h
        exact am (.inl O) O (rVt (v:=vI 0) O) (fun W2 f=>⟨O,f.none⟩)
 ·rcases aB (decide (60<(p0.fNo.length:Int)))with E|E
  ·refine oSk (sF O O O O E) (oSk (sF O O O O E) (oSk (sF O O O O E) (oSk (sF O O O O E) (oY O (aw (vB E) O) ?_))))
   exact key _ _ (keep (keep (keep O O) O) (vB (rf E)))
  ·refine oY (sT O O O O E) (yFA aD O) (oY (sT O O O O E) (yL 0 bT O O O) (oY (sT O O O O E) (bd (us:=[]) dQ O) (oY (sT O O O O E) (mq O O) (oY O (av (vB E) O) ?_))))
   exact key _ _ (keep (keep (keep O O) O) (vB (re E)))
theorem sJ (p0:(List Int)) (p1:Int) (res:Bool) (h:mO p0 p1=some res) (W:World) (Aa:Option Addr) (f ca:Nat) (r:f=p0.length) (g:Rd W Aa f ca (encL cI p0)) :
  Calls Tryz.prog 82 [.slice Aa f ca,vI p1].toArray W fun e W2=>e=.returned (.bool res)∧Ext W W2 []:=by
 subst r
 unfold mO at h
 refine ae (m:=18) Tryz.func82 O O (nB O) (cS (cR (oY O (yAB O) (oN (eT (cS (cS (cR (oY O (yAI O) (oN (eT (cB ?_))))))))))))
 obtain⟨K,G,h⟩:=bOs h
 refine bW (fun(s:(Bool × Int)) L tm=>∃(H:Nat→Value),L=[]∧tm=(upd (upd (upd (upd H 0 (.slice Aa p0.length ca)) 1 (vI p1)) 4 (.bool s.1)) 5 (vI s.2))) 0 G ⟨_,O,(kp4 O)⟩ ?_ ?_
 ·rintro I L tm st ⟨D,rfl,rfl⟩ h
  unfold hQ at h
  refine cS (cS (cR (oY O (yMI O) (oY O (yMS O) (oY O (bd (us:=[]) c6 O) (oY O (bA O O) (oN (eT ?_))))))))
  rcases iOs h with⟨u,h⟩|⟨u,h⟩
  ·refine cT (vB u) (cK (eT (cS (cB (cS (cR (oY O (yMS O) (oY O (yMI O) ?_))))))))
   obtain⟨o,h⟩:=gOs h
   refine oY O (yI gM (by decide) o.1 o.2 (RdL.arg g) (eL aG O) O O) ?_
   refine oY O (yR (A:=Aa) (j:=(Int.toNat I.2*1)) (v:=vI (rdL p0 I.2)) bN (RdL.arg g) O (bB aG o.1 (ao o.2 O) O)) (oY O (yMI O) (oY O (ig O O) (oN (eT ?_))))
   rcases iOs h with⟨d,h⟩|⟨d,h⟩
   ·refine cT (vB d) (cS (cR (oY O (yAB O) (oN (eT (ak (ai (ab ?_))))))))
    obtain rfl:=sI h
    exact ay ⟨O,_,O,(kp4 O)⟩
   ·refine cF (vB d) (cK (aq (eT (cR (oY O (yMI O) (oY O (bc O O) (oY O (yAI O) (oN ?_))))))))
    obtain rfl:=sI h
    exact eN ⟨_,O,(kp4 O)⟩
  ·refine cF (vB u) (aK (ah ?_))
   obtain rfl:=sI h
   exact ay ⟨O,_,O,(kp4 O)⟩
 ·intro e L tm hJ
  rcases K with M|N
  ·dsimp only at h hJ
   obtain⟨rfl,E,rfl,rfl⟩:=hJ
   refine⟨(by intro hc;cases hc),?_⟩
   refine ai (ab ?_)
   obtain rfl:=sI h
   exact am (.inl O) O (rVt (v:=.bool M.1) O) (fun W2 w=>⟨O,w.none⟩)
  ·dsimp only at h hJ
   obtain⟨rfl,F,rfl,rfl⟩:=hJ
   refine⟨(by intro hc;cases hc),?_⟩
   refine ag (eT (cS (cR (oY O (yAB O) (oN (eT (ak ?_)))))))
   obtain rfl:=sI h
   exact am (.inl O) O (rVt (v:=.bool false) O) (fun W2 w=>⟨O,w.none⟩)
theorem qo (p0:(List Int)) (res:Bool) (h:jT p0=some res) (W:World) (Aa:Option Addr) (g ca:Nat) (u:g=p0.length) (f:Rd W Aa g ca (encL cI p0)) :
  Calls Tryz.prog 137 [.slice Aa g ca].toArray W fun e W2=>e=.returned (.bool res)∧Ext W W2 []:=by
 subst u
 unfold jT at h
 refine ae (m:=20) Tryz.func137 O O (nB O) (cS (cR (oY O (yAB O) (oN (eT (cS (cS (cR (oY O (yAI O) (oN (eT (cB ?_))))))))))))
 obtain⟨M,I,h⟩:=bOs h
 refine bW (fun(s:(Bool × Int)) L tm=>∃(K:Nat→Value),L=[]∧tm=(upd (upd (upd K 0 (.slice Aa p0.length ca)) 2 (.bool s.1)) 3 (vI s.2))) 0 I ⟨_,O,(kp (kp (kp O)))⟩ ?_ ?_
 ·rintro F L tm st ⟨G,rfl,rfl⟩ h
  unfold df at h
  refine cS (cS (cR (oY O (yMI O) (oY O (yMS O) (oY O (bd (us:=[]) c6 O) (oY O (bA O O) (oN (eT ?_))))))))
  rcases iOs h with⟨d,h⟩|⟨d,h⟩
  ·refine cT (vB d) (cK (eT (cS (cB (cS ?_)))))
   refine aU 10 cD (by kernel_rfl) (by kernel_rfl) ?_
   refine qY O (yMS O) (qY O (yMI O) ?_)
   obtain⟨o,h⟩:=gOs h
   refine qY O (yI gM (by decide) o.1 o.2 (RdL.arg f) (eL aG O) O O) ?_
   refine qY O (yR (A:=Aa) (j:=(Int.toNat F.2*1)) (v:=vI (rdL p0 F.2)) bN (RdL.arg f) O (bB aG o.1 (ao o.2 O) O)) (qY O (yMS O) (qY O (yMI O) (qY O (nq O O) ?_)))
   obtain⟨r,h⟩:=gOs h
   refine qY O (yI gM (by decide) r.1 r.2 (RdL.arg f) (eL aG O) O O) ?_
   refine qY O (yR (A:=Aa) (j:=(Int.toNat (w64 (F.2-1))*1)) (v:=vI (rdL p0 (w64 (F.2-1)))) bN (RdL.arg f) O (bB aG r.1 (ao r.2 O) O)) (qY O (pO O O) (ck (oN (eT ?_))))
   rcases iOs h with⟨w,h⟩|⟨w,h⟩
   ·refine cT (vB w) (cS (cR (oY O (yAB O) (oN (eT (ak (ai (ab ?_))))))))
    obtain rfl:=sI h
    exact ay ⟨O,_,O,(kp (kp (kp O)))⟩
   ·refine cF (vB w) (cK (aq (eT (cR (oY O (yMI O) (oY O (bc O O) (oY O (yAI O) (oN ?_))))))))
    obtain rfl:=sI h
    exact eN ⟨_,O,(kp (kp (kp O)))⟩
  ·refine cF (vB d) (aK (ah ?_))
   obtain rfl:=sI h
   exact ay ⟨O,_,O,(kp (kp (kp O)))⟩
 ·intro e L tm hJ
  rcases M with N|Q
  ·dsimp only at h hJ
   obtain⟨rfl,H,rfl,rfl⟩:=hJ
   refine⟨(by intro hc;cases hc),?_⟩
   refine ai (ab ?_)
   obtain rfl:=sI h
   exact am (.inl O) O (rVt (v:=.bool N.1) O) (fun W2 D=>⟨O,D.none⟩)
  ·dsimp only at h hJ
   obtain⟨rfl,E,rfl,rfl⟩:=hJ
   refine⟨(by intro hc;cases hc),?_⟩
   refine ag (eT (cS (cR (oY O (yAB O) (oN (eT (ak ?_)))))))
   obtain rfl:=sI h
   exact am (.inl O) O (rVt (v:=.bool true) O) (fun W2 D=>⟨O,D.none⟩)
end Go.Proofs.YtbblpokfbmekfaaGreat
set_option maxHeartbeats 4000000
set_option maxRecDepth 100000
namespace Go.Proofs.YtbblpokfbmekfaaGreat
open Go.RowKit (Below)
attribute [local irreducible] OX QX CX EX OpY Calls CallsIn
theorem mm (p0:TL) (p1:(List Int)) (res:TL) (h:gt p0 p1=some res) (W:World) (Aa:Option Addr) (K ca:Nat) (R:K=p0.fNo.length) (fr:Rd W Aa K ca (encL TNode_cells p0.fNo)) (Ab:Option Addr) (M cb:Nat) (f:List (Hd × TC)) (q:M=p0.fC.length) (d:Rd W Ab M cb (encL TClaim_cells2 f)) (o:NestW W (fun z:TC=>z.fO) THop_cells f p0.fC) (Ac:Option Addr) (N cc:Nat) (n:N=p1.length) (l:Rd W Ac N cc (encL cI p1)) (wb:World) (Hb:World→Prop) (hB:∀W3,Below W.heap.size W W3→Below wb.heap.size wb W3∧Hb W3) (t:PvL (fun z:TC=>z.fO) THop_cells wb Hb f) :
  Calls Tryz.prog 79 [.agg #[.slice Aa K ca,.slice Ab M cb],.slice Ac N cc].toArray W fun e W2=>∃x:((Option Addr × Nat × Nat) × (List (Hd × TC)) × Res),(x.1.2.1=res.fC.length∧NestP (fun z:TC=>z.fO) x.2.1 res.fC∧PvL (fun z:TC=>z.fO) THop_cells wb (fun W4=>Hb W4∧Res.holds x.2.2 W4) x.2.1)∧e=.returned (.agg #[.slice Aa K ca,.slice x.1.1 x.1.2.1 x.1.2.2])∧Ext W W2 [aO x.1.1 x.1.2.2 90 2 x.1.2.1 (encL TClaim_cells2 x.2.1),x.2.2]:=by
 subst R
 subst q
 subst n
 unfold gt at h
 refine ae (m:=37) Tryz.func79 O O (nB O) (cS (cR ?_))
 refine aP [.slice Aa p0.fNo.length ca,.slice Ab p0.fC.length cb] O O O (fun b1=>?_)
 refine aC ft O (fun b2=>?_)
 refine oN (eT (cS (cR (oY O (yFA aY O) (oY O (yL 0 dK O O O) ?_)))))
 refine oY O (aI [.slice Aa p0.fNo.length ca,.slice none 0 0] [(0,1),(1,1)] kg ft (by kernel_rfl)) ?_
 refine aC ft O (fun k=>?_)
 refine cr O (yS 2 [.slice Aa p0.fNo.length ca,.slice none 0 0] gN O (nB O) O O O) (oN (eT (cS (cS (cR (oY O (yAI O) (oN (eT (cB ?_)))))))))
 obtain⟨u7,y,h⟩:=bOs h
 refine cN 97 3 (cN 90 2 (cN 90 2 (jC (jC ?_))))
 refine bF (fun(s:(Int × (List TC))) L tm=>∃(fE:Nat→Value) (T:Option Addr) (S:Nat) (Q:Nat) (G:List (Hd × TC)) (F5_s:Res),Q=s.2.length∧NestP (fun z:TC=>z.fO) G s.2∧PvL (fun z:TC=>z.fO) THop_cells wb (fun W4=>Hb W4∧Res.holds F5_s W4) G∧L=[aj b1 25 [.slice Aa p0.fNo.length ca,.slice Ab p0.fC.length cb],aj b2 25 [.slice none 0 0,.slice none 0 0],aj k 25 [.slice Aa p0.fNo.length ca,.slice T Q S],aO none 0 97 3 0 (encL TNode_cells ([]:List TN)),aO none 0 90 2 0 (encL TClaim_cells2 ([]:List (Hd × TC))),aO T S 90 2 Q (encL TClaim_cells2 G),noR,F5_s]∧tm=(upd (upd (upd (upd (upd fE 1 (.slice Ac p1.length cc)) 2 (.pointer (some ⟨b1,0,none⟩))) 4 (.pointer (some ⟨b2,0,none⟩))) 5 (.pointer (some ⟨k,0,none⟩))) 6 (vI s.1))) 0 y ⟨_,none,0,0,([]:List (Hd × TC)),noR,O,NestP.nil,(PvL.mono (Hb:=Hb) PvL.nil (fun _ _ h=>h.1)),O,(kp4 (kp O))⟩ ?_ ?_
 ·rintro g L tm st ⟨f3,H,I,fN,u,F5_s6,rfl,w,D,rfl,rfl⟩ h
  unfold d9 at h
  refine cS (cS (cR ?_))
  try dsimp only[lna,lca,lsz,lss]
  refine oY O (yMI O) (oY O (yFA aD O) (oY O (yL 0 bT O O O) (oY O (bd (us:=[]) dQ O) (oY O (bA O O) (oN (eT ?_))))))
  rcases iOs h with⟨a,h⟩|⟨a,h⟩
  ·refine cT (vB a) (cK (eT (cS (cB (cS (cR (oY O (yMS O) (oY O (yFA aD O) (oY O (yL 0 bT O O O) (oY O (yMI O) ?_))))))))))
   obtain⟨X,h⟩:=gOs h
   refine oY O (yI dY (by decide) X.1 X.2 (RdL.arg d) (eL aa (NestP.hn o.p O)) O O) ?_
   refine oY O (yFR (A:=Ab) (j:=(Int.toNat g.1*2)) fh O) (oY O (yR (A:=Ab) (j:=((Int.toNat g.1*2)+0)) (v:=vI ((rdL p0.fC g.1).fID)) bN (RdL.arg d) O (eG aa X.1 (ao X.2 (NestP.hn o.p O)) (congrArg (fun z:TC=>some (Value.int .i64 z.fID)) (NestP.snd o.p g.1)))) ?_)
   obtain⟨fn,b,h⟩:=bOs h
   refine oY O (yC [.slice Ac p1.length cc,vI ((rdL p0.fC g.1).fID)] go_82 O (fun W2 i=>sJ p1 ((rdL p0.fC g.1).fID) fn b W2 Ac p1.length cc O ((RdL.arg l) W2 i)) O) (oY O (fe O) (oN (eT ?_)))
   rcases iOs h with⟨U,h⟩|⟨U,h⟩
   ·refine cT (vB U) ?_
    obtain⟨r,h⟩:=gOs h
    obtain⟨c,h⟩:=gOs h
    refine eV [[],[0],[],[2],[],[2,3,4],[2,3,4,5],[2,3,4,5,6],[0,1,2,3,4,5,6,7],[0,1,2,3,4,5,6,7,8],[0,1,2,3,4,5,6,7,8,9]] [(none,0,[true,true,true,true,true,true,true,true]),(none,0,[true,true,true,true,true,true,true,true]),(none,0,[true,true,true,true,true,true,true,true]),(none,0,[true,true,true,true,true,true,true,true]),(none,0,[true,true,true,true,true,true,true,true]),(none,0,[true,true,true,true,true,true,true,true]),(none,0,[true,true,true,true,true,true,true,true]),(none,1,[true,true,true,true,true,true,true,true]),(some 5,0,[true,true,true,true,true,true,true,true,true]),(none,0,[true,true,true,true,true,true,true,true,true]),(some 2,0,[true,true,true,true,true,true,true,true,true])] [⟨fun _=>.pointer (some ⟨k,0+1,none⟩),fun _=>noR,fun _=>[]⟩,⟨fun _=>.slice H g.2.length I,fun _=>noR,fun _=>[]⟩,⟨fun _=>.pointer (some ⟨b1,0+1,none⟩),fun _=>noR,fun _=>[]⟩,⟨fun _=>.slice Ab p0.fC.length cb,fun _=>noR,fun _=>[]⟩,⟨fun _=>vI g.1,fun _=>noR,fun _=>[]⟩,⟨fun _=>slA Ab (Int.toNat g.1*2),fun _=>noR,fun _=>[]⟩,⟨fun _=>.agg #[vI ((rdL p0.fC g.1).fID),.slice ((rdL f g.1).1.1) ((rdL p0.fC g.1).fO.length) ((rdL f g.1).1.2.2)],fun _=>noR,fun _=>[]⟩,⟨fun ξ13=>.slice (some ⟨(ξ13 7 0).2.1,0,none⟩) 1 1,fun _=>noR,fun ξ13=>[aO (some ⟨(ξ13 7 0).2.1,0,none⟩) 1 90 2 1 (encL TClaim_cells2 [(((rdL f g.1).1.1,(rdL p0.fC g.1).fO.length,(rdL f g.1).1.2.2),(TC.mk ((rdL p0.fC g.1).fID) ((rdL p0.fC g.1).fO)))])]⟩,⟨fun ξ13=>.slice (ξ13 8 0).1 (g.2.length+1) (ξ13 8 0).2.2.1,fun ξ13=>aO (ξ13 8 0).1 (ξ13 8 0).2.2.1 90 2 (g.2.length+1) (encL TClaim_cells2 (u++[(((rdL f g.1).1.1,(rdL p0.fC g.1).fO.length,(rdL f g.1).1.2.2),(TC.mk ((rdL p0.fC g.1).fID) ((rdL p0.fC g.1).fO)))])),fun _=>[]⟩,⟨fun _=>.pointer (some ⟨k,0+1,none⟩),fun _=>noR,fun _=>[]⟩,⟨fun _=>undef,fun ξ13=>aj k 25 [.slice Aa p0.fNo.length ca,.slice (ξ13 8 0).1 (g.2.length+1) (ξ13 8 0).2.2.1],fun _=>[]⟩] 8 cD (by kernel_rfl) (by kernel_rfl) ⟨⟨fun ξ13 ξ13' h=>⟨O,O,O⟩,fun _=>O⟩,⟨fun ξ13 ξ13' h=>⟨O,O,O⟩,fun _=>O⟩,⟨fun ξ13 ξ13' h=>⟨O,O,O⟩,fun _=>O⟩,⟨fun ξ13 ξ13' h=>⟨O,O,O⟩,fun _=>O⟩,⟨fun ξ13 ξ13' h=>⟨O,O,O⟩,fun _=>O⟩,⟨fun ξ13 ξ13' h=>⟨O,O,O⟩,fun _=>O⟩,⟨fun ξ13 ξ13' h=>⟨O,O,O⟩,fun _=>O⟩,⟨fun ξ13 ξ13' h=>⟨by simp only[h 7 (.inl O)],O,by simp only[h 7 (.inl O)]⟩,fun _=>O⟩,⟨fun ξ13 ξ13' h=>⟨by simp only[h 8 (.inl O)],by simp only[h 8 (.inl O)],O⟩,fun _=>O⟩,⟨fun ξ13 ξ13' h=>⟨O,O,O⟩,fun _=>O⟩,⟨fun ξ13 ξ13' h=>⟨O,by simp only[h 8 (.inr O)],O⟩,fun _=>O⟩,trivial⟩ O (fun ξ13=>?_)
    refine cf O (fun L2=>?_) ?_
    ·dsimp only[aA,lca,lna]
     refine oY O (yFA aD O) (oN ?_)
     exact al (fun _=>(none,0,0,[],noR)) O (List.append_nil _)
    dsimp only[bG,lsz,lss,lna,lca,List.append_nil]
    refine cf O (fun L2=>?_) ?_
    ·dsimp only[aA,lca,lna]
     refine oY O (yL 2 bT O O O) (oN ?_)
     exact al (fun _=>(none,0,0,[],noR)) O (List.append_nil _)
    dsimp only[bG,lsz,lss,lna,lca,List.append_nil]
    refine cf O (fun L2=>?_) ?_
    ·dsimp only[aA,lca,lna]
     refine oY O (yFA aD O) (oN ?_)
     exact al (fun _=>(none,0,0,[],noR)) O (List.append_nil _)
    dsimp only[bG,lsz,lss,lna,lca,List.append_nil]
    refine cf O (fun L2=>?_) ?_
    ·dsimp only[aA,lca,lna]
     refine oY O (yL 0 bT O O O) (oN ?_)
     exact al (fun _=>(none,0,0,[],noR)) O (List.append_nil _)
    dsimp only[bG,lsz,lss,lna,lca,List.append_nil]
    refine cf O (fun L2=>?_) ?_
    ·dsimp only[aA,lca,lna]
     refine oY O (yMI O) (oN ?_)
     exact al (fun _=>(none,0,0,[],noR)) O (List.append_nil _)
    dsimp only[bG,lsz,lss,lna,lca,List.append_nil]
    refine cf O (fun L2=>?_) ?_
    ·dsimp only[aA,lca,lna]
     refine oY O (yI dY (by decide) r.1 r.2 (RdL.arg d) (eL aa (NestP.hn o.p O)) O O) ?_
     refine oN ?_
     exact al (fun _=>(none,0,0,[],noR)) O (List.append_nil _)
    dsimp only[bG,lsz,lss,lna,lca,List.append_nil]
    refine cf O (fun L2=>?_) ?_
    ·dsimp only[aA,lca,lna]
     refine oY O (yM (A:=Ab) (j:=(Int.toNat g.1*2)) [vI ((rdL p0.fC g.1).fID),.slice ((rdL f g.1).1.1) ((rdL p0.fC g.1).fO.length) ((rdL f g.1).1.2.2)] lX (Nat.succ_pos _) (RdL.arg d) O (iL (a6 (NestP.snd o.p g.1) (NestP.len o.p r.1 (ao r.2 O))).symm (aM aa r.1 (ao r.2 (NestP.hn o.p O))))) (oN ?_)
     exact al (fun _=>(none,0,0,[],noR)) O (List.append_nil _)
    dsimp only[bG,lsz,lss,lna,lca,List.append_nil]
    refine cf O (fun L2=>?_) ?_
    ·dsimp only[aA,lca,lna]
     refine ap 1 (encL TClaim_cells2 [(((rdL f g.1).1.1,(rdL p0.fC g.1).fO.length,(rdL f g.1).1.2.2),(TC.mk ((rdL p0.fC g.1).fID) ((rdL p0.fC g.1).fO)))]) _ oW dQ gR l8 (by decide) (by decide) (by kernel_rfl) (eL aa O) O (fun fl=>?_)
     refine oN ?_
     exact al (fun _=>(none,fl,0,[],noR)) O O
    dsimp only[bG,lsz,lss,lna,lca,List.append_nil]
    refine cf O (fun L2=>?_) ?_
    ·dsimp only[aA,lca,lna]
     refine bg 5 dQ gR l8 O O O (RdL.row 8 O) (eL aa (NestP.hn (NestP.cons (sel:=(fun z:TC=>z.fO)) O NestP.nil) O)) (cg bU _) (cp c (by decide)) O (fun f0 f1=>?_)
     refine oN ?_
     first|exact al (fun _=>(f0,0,f1,[],noR)) O O|exact al (fun _=>(f0,0,f1,[],noR)) O (List.append_nil _)
    dsimp only[bG,lsz,lss,lna,lca,List.append_nil]
    refine cf O (fun L2=>?_) ?_
    ·dsimp only[aA,lca,lna]
     refine oY O (yFA aD O) (oN ?_)
     exact al (fun _=>(none,0,0,[],noR)) O (List.append_nil _)
    dsimp only[bG,lsz,lss,lna,lca,List.append_nil]
    refine gx_n O (fun L2=>?_) ?_
    ·dsimp only[aA,lca,lna]
     refine cr O (cn 2 (v:=.slice (ξ13 8 0).1 (g.2.length+1) (ξ13 8 0).2.2.1) sz_23 O (Nat.lt_of_lt_of_le (Nat.lt_succ_self _) (nB O)) O O O) (oN ?_)
     first|exact bK (fun _=>(none,0,0,[],noR)) O|exact bK (fun _=>(none,0,0,[],noR)) (List.append_nil _)
    dsimp only[bG,lsz,lss,lna,lca,List.append_nil]
    refine lK (aq (eT (cR ?_)))
    try dsimp only[lna,lca,lsz,lss]
    refine oY O (yMI O) (oY O (bc O O) (oY O (yAI O) (oN (aS 8 ?_))))
    obtain rfl:=sI h
    exact eN ⟨_,(ξ13 8 0).1,(ξ13 8 0).2.2.1,(g.2.length+1),(u++[(((rdL f g.1).1.1,(rdL p0.fC g.1).fO.length,(rdL f g.1).1.2.2),(TC.mk ((rdL p0.fC g.1).fID) ((rdL p0.fC g.1).fO)))]),F5_s6,(fD O O),(NestP.app w (NestP.cons (sel:=(fun z:TC=>z.fO)) O NestP.nil)),(PvL.app D (PvL.mono (Hb:=Hb) (PvL.cons (PvL.get t o.p r.1 (ao r.2 O)) PvL.nil) (fun _ _ h=>h.1))),O,(kp4 (kp O))⟩
   ·refine cF (vB U) (cK (aq (eT (cR (oY O (yMI O) (oY O (bc O O) (oY O (yAI O) (oN ?_))))))))
    obtain rfl:=sI h
    exact eN ⟨_,H,I,g.2.length,u,F5_s6,O,w,D,O,(kp4 (kp O))⟩
  ·refine cF (vB a) (aK (ah ?_))
   obtain rfl:=sI h
   exact ay ⟨O,_,H,I,g.2.length,u,F5_s6,O,w,D,O,(kp4 (kp O))⟩
 ·intro e L tm hJ
  obtain⟨rfl,f4,E,F,g1,Y,F5_u7,rfl,Z,V,rfl,rfl⟩:=hJ
  refine⟨(by intro hc;cases hc),?_⟩
  refine ag (eT (cS (cR ?_)))
  try dsimp only[lna,lca,lsz,lss]
  refine oY O (yN 2 [.slice Aa p0.fNo.length ca,.slice E u7.2.length F] aF O O O) (cr O (yS 1 [.slice Aa p0.fNo.length ca,.slice E u7.2.length F] gN O (nB O) O O O) (oN (eT (ak ?_))))
  obtain rfl:=sI h
  exact am (.inl O) O (aH 1 [.slice Aa p0.fNo.length ca,.slice E u7.2.length F] aF O O O) (fun W2 i=>⟨((E,u7.2.length,F),Y,F5_u7),⟨O,Z,V⟩,O,i.pickL [5,7] (by decide) O⟩)
end Go.Proofs.YtbblpokfbmekfaaGreat
set_option maxHeartbeats 4000000
set_option maxRecDepth 100000
namespace Go.Proofs.YtbblpokfbmekfaaGreat
open Go.RowKit (Below)
attribute [local irreducible] OX QX CX EX OpY Calls CallsIn
theorem nm (p0:Int) (f:TL) (res:Bool) (h:eh p0 f=some res) (W:World) (M:Nat) (g:Option Addr) (w o:Nat) (E:w=f.fNo.length) (F:Rd W g w o (encL TNode_cells f.fNo)) (r:Option Addr) (D u:Nat) (d:List (Hd × TC)) (G:D=f.fC.length) (H:Rd W r D u (encL TClaim_cells2 d)) (I:NestW W (fun z:TC=>z.fO) THop_cells d f.fC) (N:Rd W (some ⟨M,0,none⟩) 1 1 [.slice g w o,.slice r D u]) :
  Calls Tryz.prog 136 [vI p0,.pointer (some ⟨M,0,none⟩)].toArray W fun e W2=>e=.returned (.bool res)∧Ext W W2 []:=by
 subst E
 subst G
 unfold eh at h
 refine ae (m:=8) Tryz.func136 O O (nB O) (cS (cR (oY O (yAB O) (oN (eT (cS (cR (oY O (yM (A:=(some ⟨M,0,none⟩)) (j:=0) [.slice g f.fNo.length o,.slice r f.fC.length u] aF (Nat.succ_pos _) (RdL.arg N) O (gets_all O)) (oY O (yMI O) ?_)))))))))
 obtain⟨U,Q,h⟩:=bOs h
 refine oY O (yC [.agg #[.slice g f.fNo.length o,.slice r f.fC.length u],vI p0] go_114 O (fun W2 K=>gU f p0 U Q W2 g f.fNo.length o O ((RdL.arg F) W2 K) r f.fC.length u d O ((RdL.arg H) W2 K) (NestL.at (NestL.arg I) W2 K)) O) (oY O (qf O O) (oY O (yAB O) (oN (eT (ak ?_)))))
 obtain rfl:=sI h
 exact am (.inl O) O (rVt (v:=.bool (decide (0≤U))) O) (fun W2 K=>⟨O,K.none⟩)
theorem oX (p0:TL) (p1:(List Int)) (res:Bool) (h:gG p0 p1=some res) (W:World) (Aa:Option Addr) (o ca:Nat) (d:o=p0.fNo.length) (w:Rd W Aa o ca (encL TNode_cells p0.fNo)) (Ab:Option Addr) (r cb:Nat) (f:List (Hd × TC)) (D:r=p0.fC.length) (E:Rd W Ab r cb (encL TClaim_cells2 f)) (F:NestW W (fun z:TC=>z.fO) THop_cells f p0.fC) (Ac:Option Addr) (u cc:Nat) (G:u=p1.length) (H:Rd W Ac u cc (encL cI p1)) :
  Calls Tryz.prog 98 [.agg #[.slice Aa o ca,.slice Ab r cb],.slice Ac u cc].toArray W fun e W2=>e=.returned (.bool res)∧Ext W W2 []:=by
 subst d
 subst D
 subst G
 unfold gG at h
 refine ae (m:=8) Tryz.func98 O O (nB O) (cS (cR ?_))
 refine aP [.slice Aa p0.fNo.length ca,.slice Ab p0.fC.length cb] O O O (fun I=>?_)
 refine oY O (yAB O) (oN (eT (cS (cR (oY O (yMS O) (oY O (eS [.pointer (some ⟨I,0,none⟩)] O O) ?_))))))
 obtain⟨M,K,h⟩:=bOs h
 refine oY O (yC [.slice Ac p1.length cc,.func (.func 135) #[] #[],.func (.func 136) #[] #[.pointer (some ⟨I,0,none⟩)]] go_134 O (fun W2 g=>hU p1 (fun N=>eb N) (fun Q=>eh Q p0) M K W2 Ac p1.length cc O ((RdL.arg H) W2 g) 135 [] [] go_135 (fun W3 hb x y hxy=>oy  x  y hxy W3 ) 136 [] [.pointer (some ⟨I,0,none⟩)] go_136 (fun W3 hb x y hxy=>nm  x p0 y hxy W3 I Aa p0.fNo.length ca O (((RdL.arg w) W2 g).later hb) Ab p0.fC.length cb f O (((RdL.arg E) W2 g).later hb) ((NestL.at (NestL.arg F) W2 g).later hb) (((RdL.cells 0 O) W2 g).later hb))) O) (oY O (yAB O) (oN (eT (ak ?_))))
 obtain rfl:=sI h
 exact am (.inl O) O (rVt (v:=.bool M) O) (fun W2 g=>⟨O,g.none⟩)
end Go.Proofs.YtbblpokfbmekfaaGreat
set_option maxHeartbeats 4000000
set_option maxRecDepth 100000
namespace Go.Proofs.YtbblpokfbmekfaaGreat
open Go.RowKit (Below)
attribute [local irreducible] OX QX CX EX OpY Calls CallsIn
theorem nH (p0:TL) (p1:Int) (p2:(List TH)) (res:TL) (h:kw p0 p1 p2=some res) (W:World) (Aa:Option Addr) (I ca:Nat) (S:I=p0.fNo.length) (fd:Rd W Aa I ca (encL TNode_cells p0.fNo)) (Ab:Option Addr) (M cb:Nat) (f:List (Hd × TC)) (R:M=p0.fC.length) (N:Rd W Ab M cb (encL TClaim_cells2 f)) (u:NestW W (fun z:TC=>z.fO) THop_cells f p0.fC) (o:Option Addr) (K r:Nat) (q:K=p2.length) (fE:Rd W o K r (encL THop_cells p2)) (wb:World) (Hb:World→Prop) (hB:∀W3,Below W.heap.size W W3→Below wb.heap.size wb W3∧Hb W3) (n:PvL (fun z:TC=>z.fO) THop_cells wb Hb f) (l:Pv THop_cells wb Hb (o,K,r) p2) :
  Calls Tryz.prog 95 [.agg #[.slice Aa I ca,.slice Ab M cb],vI p1,.slice o K r].toArray W fun e W2=>∃x:((Option Addr × Nat × Nat) × (List (Hd × TC)) × Res),(x.1.2.1=res.fC.length∧NestP (fun z:TC=>z.fO) x.2.1 res.fC∧PvL (fun z:TC=>z.fO) THop_cells wb (fun W4=>Hb W4∧Res.holds x.2.2 W4) x.2.1)∧e=.returned (.agg #[.slice Aa I ca,.slice x.1.1 x.1.2.1 x.1.2.2])∧Ext W W2 [aO x.1.1 x.1.2.2 90 2 x.1.2.1 (encL TClaim_cells2 x.2.1),x.2.2]:=by
 subst S
 subst R
 subst q
 unfold kw at h
 refine ae (m:=37) Tryz.func95 O O (nB O) (cS (cR ?_))
 refine aP [.slice Aa p0.fNo.length ca,.slice Ab p0.fC.length cb] O O O (fun b1=>?_)
 refine aC ft O (fun b2=>?_)
 refine oN (eT (cS (cR (oY O (yFA aY O) (oY O (yL 0 dK O O O) ?_)))))
 refine oY O (aI [.slice Aa p0.fNo.length ca,.slice none 0 0] [(0,1),(1,1)] kg ft (by kernel_rfl)) ?_
 refine aC ft O (fun b3=>?_)
 refine cr O (yS 2 [.slice Aa p0.fNo.length ca,.slice none 0 0] gN O (nB O) O O O) (oN (eT (cS (cS (cR (oY O (yAI O) (oN (eT (cB ?_)))))))))
 obtain⟨u7,k,h⟩:=bOs h
 refine cN 97 3 (cN 90 2 (cN 90 2 (jC (jC ?_))))
 refine bF (fun(s:(Int × (List TC))) L tm=>∃(fN:Nat→Value) (V:Option Addr) (T:Nat) (Q:Nat) (H:List (Hd × TC)) (F5_s:Res),Q=s.2.length∧NestP (fun z:TC=>z.fO) H s.2∧PvL (fun z:TC=>z.fO) THop_cells wb (fun W4=>Hb W4∧Res.holds F5_s W4) H∧L=[aj b1 25 [.slice Aa p0.fNo.length ca,.slice Ab p0.fC.length cb],aj b2 25 [.slice none 0 0,.slice none 0 0],aj b3 25 [.slice Aa p0.fNo.length ca,.slice V Q T],aO none 0 97 3 0 (encL TNode_cells ([]:List TN)),aO none 0 90 2 0 (encL TClaim_cells2 ([]:List (Hd × TC))),aO V T 90 2 Q (encL TClaim_cells2 H),noR,F5_s]∧tm=(upd (upd (upd (upd (upd (upd fN 1 (vI p1)) 2 (.slice o p2.length r)) 3 (.pointer (some ⟨b1,0,none⟩))) 6 (.pointer (some ⟨b2,0,none⟩))) 7 (.pointer (some ⟨b3,0,none⟩))) 8 (vI s.1))) 0 k ⟨_,none,0,0,([]:List (Hd × TC)),noR,O,NestP.nil,(PvL.mono (Hb:=Hb) PvL.nil (fun _ _ h=>h.1)),O,(kp4 (kp (kp O)))⟩ ?_ ?_
 ·rintro g L tm st ⟨f4,t,a,fn,d,F5_s6,rfl,w,D,rfl,rfl⟩ h
  unfold gw at h
  refine cS (cS (cR ?_))
  try dsimp only[lna,lca,lsz,lss]
  refine oY O (yMI O) (oY O (yFA aD O) (oY O (yL 0 bT O O O) (oY O (bd (us:=[]) dQ O) (oY O (bA O O) (oN (eT ?_))))))
  rcases iOs h with⟨i,h⟩|⟨i,h⟩
  ·refine cT (vB i) (cK (eT (cS (cB (cS (cR (oY O (yFA aD O) (oY O (yL 0 bT O O O) (oY O (yMI O) ?_)))))))))
   obtain⟨G,h⟩:=gOs h
   refine oY O (yI dY (by decide) G.1 G.2 (RdL.arg N) (eL aa (NestP.hn u.p O)) O O) ?_
   refine oY O (yM (A:=Ab) (j:=(Int.toNat g.1*2)) [vI ((rdL p0.fC g.1).fID),.slice ((rdL f g.1).1.1) ((rdL p0.fC g.1).fO.length) ((rdL f g.1).1.2.2)] lX (Nat.succ_pos _) (RdL.arg N) O (iL (a6 (NestP.snd u.p g.1) (NestP.len u.p G.1 (ao G.2 O))).symm (aM aa G.1 (ao G.2 (NestP.hn u.p O))))) ?_
   refine aC gR O (fun o0=>?_)
   try dsimp only[lna,lca,lsz,lss]
   refine cr O (yS 8 [vI ((rdL p0.fC g.1).fID),.slice ((rdL f g.1).1.1) ((rdL p0.fC g.1).fO.length) ((rdL f g.1).1.2.2)] rY O (nB O) O O O) (oN (eT (cS (cS (cR (oY O (yMI O) (oY O (yMI O) (oY O (ig O O) (oN (eT ?_))))))))))
   rcases iOs h with⟨U,h⟩|⟨U,h⟩
   ·refine cT (vB U) (cR (oY O (yMS O) (oY O (yFA bQ O) (cr O (cn 8 (v:=.slice o p2.length r) sz_88 O (Nat.lt_of_lt_of_le (Nat.lt_succ_self _) (nB O)) O O O) (oN (eT (cR (oY O (yFA aD O) (oY O (yL 2 bT O O O) (oY O (yN 8 [vI ((rdL p0.fC g.1).fID),.slice o p2.length r] lX O O O) ?_))))))))))
    refine ap 1 (encL TClaim_cells2 [((o,p2.length,r),(TC.mk ((rdL p0.fC g.1).fID) p2))]) _ oW dQ gR l8 (by decide) (by decide) (by kernel_rfl) (eL aa O) O (fun o1=>?_)
    try dsimp only[lna,lca,lsz,lss]
    obtain⟨y,h⟩:=gOs h
    refine bg 5 dQ gR l8 O O O (RdL.row 9 O) (eL aa (NestP.hn (NestP.cons (sel:=(fun z:TC=>z.fO)) O NestP.nil) O)) (cg bU _) (cp y (by decide)) O (fun b c=>?_)
    refine oY O (yFA aD O) (cr O (cn 2 (v:=.slice b (g.2.length+1) c) sz_23 O (Nat.lt_of_lt_of_le (Nat.lt_succ_self _) (nB O)) O O O) (oN (aq (eT (cR (oY O (yMI O) (oY O (bc O O) (oY O (yAI O) (oN (aS 8 ?_))))))))))
    obtain rfl:=sI h
    exact eN ⟨_,b,c,(g.2.length+1),(d++[((o,p2.length,r),(TC.mk ((rdL p0.fC g.1).fID) p2))]),F5_s6,(fD O O),(NestP.app w (NestP.cons (sel:=(fun z:TC=>z.fO)) O NestP.nil)),(PvL.app D (PvL.mono (Hb:=Hb) (PvL.cons l PvL.nil) (fun _ _ h=>h.1))),O,(kp4 (kp (kp O)))⟩
   ·refine cF (vB U) (cK (eT (cR (oY O (yFA aD O) (oY O (yL 2 bT O O O) (oY O (yN 8 [vI ((rdL p0.fC g.1).fID),.slice ((rdL f g.1).1.1) ((rdL p0.fC g.1).fO.length) ((rdL f g.1).1.2.2)] lX O O O) ?_))))))
    refine ap 1 (encL TClaim_cells2 [(((rdL f g.1).1.1,(rdL p0.fC g.1).fO.length,(rdL f g.1).1.2.2),(TC.mk ((rdL p0.fC g.1).fID) ((rdL p0.fC g.1).fO)))]) _ oW dQ gR l8 (by decide) (by decide) (by kernel_rfl) (eL aa O) O (fun o2=>?_)
    try dsimp only[lna,lca,lsz,lss]
    obtain⟨f0,h⟩:=gOs h
    refine bg 5 dQ gR l8 O O O (RdL.row 9 O) (eL aa (NestP.hn (NestP.cons (sel:=(fun z:TC=>z.fO)) O NestP.nil) O)) (cg bU _) (cp f0 (by decide)) O (fun f1 f2=>?_)
    refine oY O (yFA aD O) (cr O (cn 2 (v:=.slice f1 (g.2.length+1) f2) sz_23 O (Nat.lt_of_lt_of_le (Nat.lt_succ_self _) (nB O)) O O O) (oN (aq (eT (cR (oY O (yMI O) (oY O (bc O O) (oY O (yAI O) (oN (aS 8 ?_))))))))))
    obtain rfl:=sI h
    exact eN ⟨_,f1,f2,(g.2.length+1),(d++[(((rdL f g.1).1.1,(rdL p0.fC g.1).fO.length,(rdL f g.1).1.2.2),(TC.mk ((rdL p0.fC g.1).fID) ((rdL p0.fC g.1).fO)))]),F5_s6,(fD O O),(NestP.app w (NestP.cons (sel:=(fun z:TC=>z.fO)) O NestP.nil)),(PvL.app D (PvL.mono (Hb:=Hb) (PvL.cons (PvL.get n u.p G.1 (ao G.2 O)) PvL.nil) (fun _ _ h=>h.1))),O,(kp4 (kp (kp O)))⟩
  ·refine cF (vB i) (aK (ah ?_))
   obtain rfl:=sI h
   exact ay ⟨O,_,t,a,g.2.length,d,F5_s6,O,w,D,O,(kp4 (kp (kp O)))⟩
 ·intro e L tm hJ
  obtain⟨rfl,fr,E,F,fl,X,F5_u7,rfl,Y,Z,rfl,rfl⟩:=hJ
  refine⟨(by intro hc;cases hc),?_⟩
  refine ag (eT (cS (cR ?_)))
  try dsimp only[lna,lca,lsz,lss]
  refine oY O (yN 2 [.slice Aa p0.fNo.length ca,.slice E u7.2.length F] aF O O O) (cr O (yS 1 [.slice Aa p0.fNo.length ca,.slice E u7.2.length F] gN O (nB O) O O O) (oN (eT (ak ?_))))
  obtain rfl:=sI h
  exact am (.inl O) O (aH 1 [.slice Aa p0.fNo.length ca,.slice E u7.2.length F] aF O O O) (fun W2 g1=>⟨((E,u7.2.length,F),X,F5_u7),⟨O,Y,Z⟩,O,g1.pickL [5,7] (by decide) O⟩)
end Go.Proofs.YtbblpokfbmekfaaGreat
set_option maxHeartbeats 4000000
set_option maxRecDepth 100000
namespace Go.Proofs.YtbblpokfbmekfaaGreat
open Go.RowKit (Below)
attribute [local irreducible] OX QX CX EX OpY Calls CallsIn
theorem qL (p0:TL) (p1:(List Int)) (res:Bool) (h:jW p0 p1=some res) (W:World) (Aa:Option Addr) (r ca:Nat) (D:r=p0.fNo.length) (E:Rd W Aa r ca (encL TNode_cells p0.fNo)) (Ab:Option Addr) (u cb:Nat) (g:List (Hd × TC)) (F:u=p0.fC.length) (G:Rd W Ab u cb (encL TClaim_cells2 g)) (H:NestW W (fun z:TC=>z.fO) THop_cells g p0.fC) (Ac:Option Addr) (d cc:Nat) (I:d=p1.length) (o:Rd W Ac d cc (encL cI p1)) :
  Calls Tryz.prog 99 [.agg #[.slice Aa r ca,.slice Ab u cb],.slice Ac d cc].toArray W fun e W2=>e=.returned (.bool res)∧Ext W W2 []:=by
 subst D
 subst F
 subst I
 unfold jW at h
 refine ae (m:=21) Tryz.func99 O O (nB O) (cS (cR ?_))
 refine aP [.slice Aa p0.fNo.length ca,.slice Ab p0.fC.length cb] O O O (fun q=>?_)
 refine oY O (yAB O) (oN (eT (cS (cS (cR (oY O (yAI O) (oN (eT (cB ?_)))))))))
 obtain⟨p,N,h⟩:=bOs h
 refine bW (fun(s:(Bool × Int)) L tm=>∃(T:Nat→Value),L=[aj q 25 [.slice Aa p0.fNo.length ca,.slice Ab p0.fC.length cb]]∧tm=(upd (upd (upd (upd T 1 (.slice Ac p1.length cc)) 2 (.pointer (some ⟨q,0,none⟩))) 4 (.bool s.1)) 5 (vI s.2))) 0 N ⟨_,O,(kp4 O)⟩ ?_ ?_
 ·rintro Z L tm st ⟨V,rfl,rfl⟩ h
  unfold eX at h
  refine cS (cS (cR (oY O (yMI O) (oY O (yMS O) (oY O (bd (us:=[]) c6 O) (oY O (bA O O) (oN (eT ?_))))))))
  rcases iOs h with⟨K,h⟩|⟨K,h⟩
  ·refine cT (vB K) (cK (eT (cS (cB (cS ?_)))))
   refine aU 7 cD (by kernel_rfl) (by kernel_rfl) ?_
   refine qY O (yN 0 [.slice Aa p0.fNo.length ca,.slice Ab p0.fC.length cb] aF O O O) (qY O (yMS O) (qY O (yMI O) ?_))
   obtain⟨w,h⟩:=gOs h
   refine qY O (yI gM (by decide) w.1 w.2 (RdL.arg o) (eL aG O) O O) ?_
   refine qY O (yR (A:=Ac) (j:=(Int.toNat Z.2*1)) (v:=vI (rdL p1 Z.2)) bN (RdL.arg o) O (bB aG w.1 (ao w.2 O) O)) ?_
   obtain⟨n,S,h⟩:=bOs h
   refine qY O (yC [.agg #[.slice Aa p0.fNo.length ca,.slice Ab p0.fC.length cb],vI (rdL p1 Z.2)] sN O (fun W2 f=>gF p0 (rdL p1 Z.2) n S W2 Aa p0.fNo.length ca O ((RdL.arg E) W2 f) Ab p0.fC.length cb g O ((RdL.arg G) W2 f) (NestL.at (NestL.arg H) W2 f)) O) (qY O (bA O O) (ck (oN (eT ?_))))
   rcases iOs h with⟨M,h⟩|⟨M,h⟩
   ·refine cT (vB M) (cS (cR (oY O (yAB O) (oN (eT (ak (ai (ab ?_))))))))
    obtain rfl:=sI h
    exact ay ⟨O,_,O,(kp4 O)⟩
   ·refine cF (vB M) (cK (aq (eT (cR (oY O (yMI O) (oY O (bc O O) (oY O (yAI O) (oN ?_))))))))
    obtain rfl:=sI h
    exact eN ⟨_,O,(kp4 O)⟩
  ·refine cF (vB K) (aK (ah ?_))
   obtain rfl:=sI h
   exact ay ⟨O,_,O,(kp4 O)⟩
 ·intro e L tm hJ
  rcases p with R|l
  ·dsimp only at h hJ
   obtain⟨rfl,Q,rfl,rfl⟩:=hJ
   refine⟨(by intro hc;cases hc),?_⟩
   refine ai (ab ?_)
   obtain rfl:=sI h
   exact am (.inl O) O (rVt (v:=.bool R.1) O) (fun W2 f=>⟨O,f.none⟩)
  ·dsimp only at h hJ
   obtain⟨rfl,U,rfl,rfl⟩:=hJ
   refine⟨(by intro hc;cases hc),?_⟩
   refine ag (eT (cS (cR (oY O (yMS O) ?_))))
   obtain⟨X,Y,h⟩:=bOs h
   refine oY O (yC [.slice Ac p1.length cc] go_137 O (fun W2 f=>qo p1 X Y W2 Ac p1.length cc O ((RdL.arg o) W2 f)) O) (oY O (yAB O) (oN (eT (ak ?_))))
   obtain rfl:=sI h
   exact am (.inl O) O (rVt (v:=.bool X) O) (fun W2 f=>⟨O,f.none⟩)
end Go.Proofs.YtbblpokfbmekfaaGreat
