import Derived.Test.YtbblpokfbmekfaaGreatF
import Derived.Test.YtbblpokfbmekfaaGreatG8
import Derived.Test.YtbblpokfbmekfaaGreatC1
import Derived.Test.YtbblpokfbmekfaaGreatC3
import Derived.Test.YtbblpokfbmekfaaGreatC20
import Derived.Test.YtbblpokfbmekfaaGreatGv
set_option maxHeartbeats 4000000
set_option maxRecDepth 100000
set_option linter.unusedVariables false
namespace Go.Proofs.YtbblpokfbmekfaaGreat
open Go.RowKit (Below)
attribute [local irreducible] OX QX CX EX OpY Calls CallsIn
theorem mn (p0:TL) (p1:Int) (p2:Int) (res:(Int × Int)) (h:dE p0 p1 p2=some res) (W:World) (Aa:Option Addr) (d ca:Nat) (G:d=p0.fNo.length) (w:Rd W Aa d ca (encL TNode_cells p0.fNo)) (Ab:Option Addr) (D cb:Nat) (f:List (Hd × TC)) (H:D=p0.fC.length) (r:Rd W Ab D cb (encL TClaim_cells2 f)) (o:NestW W (fun z:TC=>z.fO) THop_cells f p0.fC) :
  Calls Tryz.prog 107 [.agg #[.slice Aa d ca,.slice Ab D cb],vI p1,vI p2].toArray W fun e W2=>e=.returned (.tuple #[vI res.1,vI res.2])∧Ext W W2 []:=by
 subst G
 subst H
 unfold dE at h
 refine ae (m:=32) Tryz.func107 O O (nB O) (cS (cR ?_))
 refine aP [.slice Aa p0.fNo.length ca,.slice Ab p0.fC.length cb] O O O (fun Y=>?_)
 refine oY O (yAI O) (oY O (yAI O) (oN (eT (cS (cS (cR (oY O (yN 0 [.slice Aa p0.fNo.length ca,.slice Ab p0.fC.length cb] aF O O O) ?_)))))))
 obtain⟨U,N,h⟩:=bOs h
 refine oY O (yC [.agg #[.slice Aa p0.fNo.length ca,.slice Ab p0.fC.length cb]] sB O (fun W2 g=>dm p0 U N W2 Aa p0.fNo.length ca O ((RdL.arg w) W2 g) Ab p0.fC.length cb f O ((RdL.arg r) W2 g) (NestL.at (NestL.arg o) W2 g)) O) (oY O (yAI O) (oN (eT (cS (cR (oY O (yMI O) (oY O (dD O O) (oN (eT ?_)))))))))
 rcases iOs h with⟨I,h⟩|⟨I,h⟩
 ·refine cT (vB I) (cS (cR (oY O (yMI O) (oY O (yAI O) (oY O (yAI O) (oN (eT (ak (ab ?_)))))))))
  obtain rfl:=sI h
  exact bx (.inl O) O (rVt (v:=vI 0) O) (rVt (v:=vI U) O) (fun W2 g=>⟨O,g.none⟩)
 ·refine cF (vB I) (cK (eT (cS (cR (oY O (yN 0 [.slice Aa p0.fNo.length ca,.slice Ab p0.fC.length cb] aF O O O) (oY O (yMI O) ?_))))))
  obtain⟨E,Q,h⟩:=bOs h
  refine oY O (yC [.agg #[.slice Aa p0.fNo.length ca,.slice Ab p0.fC.length cb],vI p1] go_114 O (fun W2 g=>gU p0 p1 E Q W2 Aa p0.fNo.length ca O ((RdL.arg w) W2 g) Ab p0.fC.length cb f O ((RdL.arg r) W2 g) (NestL.at (NestL.arg o) W2 g)) O) (oY O (yAI O) (oN (eT (cS (cS (cR (oY O (yMI O) (oY O (bA O O) (oN (eT ?_))))))))))
  rcases iOs h with⟨K,h⟩|⟨K,h⟩
  ·refine cT (vB K) (cS (cR (oY O (yAI O) (oY O (yAI O) (oN (eT (ak (ab ?_))))))))
   obtain rfl:=sI h
   exact bx (.inl O) O (rVt (v:=vI 0) O) (rVt (v:=vI 5) O) (fun W2 g=>⟨O,g.none⟩)
  ·refine cF (vB K) (cK (eT (cS (cS (cR (oY O (yMI O) (oY O (yFA aD O) (oY O (yL 0 bT O O O) (oY O (yMI O) ?_)))))))))
   obtain⟨u,h⟩:=gOs h
   refine oY O (yI dY (by decide) u.1 u.2 (RdL.arg r) (eL aa (NestP.hn o.p O)) O O) ?_
   refine oY O (yFR (A:=Ab) (j:=(Int.toNat E*2)) bQ O) (oY O (yR (A:=Ab) (j:=((Int.toNat E*2)+1)) (v:=.slice ((rdL f E).1.1) ((rdL p0.fC E).fO.length) ((rdL f E).1.2.2)) gL (RdL.arg r) O (eG aa u.1 (ao u.2 (NestP.hn o.p O)) (congrArg (fun n:Nat=>some (Value.slice (rdL f E).1.1 n (rdL f E).1.2.2)) (NestP.len o.p u.1 (ao u.2 O))))) (oY O (bd (us:=[]) fZ O) (oY O (nq O O) ?_)))
   obtain⟨X,M,h⟩:=bOs h
   refine oY O (yC [vI p2,vI 0,vI (w64 ((((rdL p0.fC E).fO.length:Nat):Int)-1))] rl O (fun W2 g=>ef p2 0 (w64 ((((rdL p0.fC E).fO.length:Nat):Int)-1)) X M W2 ) O) (oY O (fe O) (oN (eT ?_)))
   rcases iOs h with⟨F,h⟩|⟨F,h⟩
   ·refine cT (vB F) (cS (cR (oY O (yAI O) (oY O (yAI O) (oN (eT (ak (ab ?_))))))))
    obtain rfl:=sI h
    exact bx (.inl O) O (rVt (v:=vI 0) O) (rVt (v:=vI 1) O) (fun W2 g=>⟨O,g.none⟩)
   ·refine cF (vB F) (cK (eT (cS (cR (oY O (yMI O) (oY O (yAI O) (oY O (yAI O) (oN (eT (ak ?_))))))))))
    obtain rfl:=sI h
    exact bx (.inl O) O (rVt (v:=vI E) O) (rVt (v:=vI 0) O) (fun W2 g=>⟨O,g.none⟩)
theorem q5 (p0:TL) (p1:Int) (p2:Int) (res:(TL × Int)) (h:kH p0 p1 p2=some res) (W:World) (Aa:Option Addr) (D ca:Nat) (K:D=p0.fNo.length) (E:Rd W Aa D ca (encL TNode_cells p0.fNo)) (Ab:Option Addr) (F cb:Nat) (f:List (Hd × TC)) (M:F=p0.fC.length) (d:Rd W Ab F cb (encL TClaim_cells2 f)) (g:NestW W (fun z:TC=>z.fO) THop_cells f p0.fC) (wb:World) (Hb:World→Prop) (hB:∀W3,Below W.heap.size W W3→Below wb.heap.size wb W3∧Hb W3) (N:PvL (fun z:TC=>z.fO) THop_cells wb Hb f) :
  Calls Tryz.prog 50 [.agg #[.slice Aa D ca,.slice Ab F cb],vI p1,vI p2].toArray W fun e W2=>∃x:((Option Addr × Nat × Nat) × (Option Addr × Nat × Nat) × (List (Hd × TC)) × Res),(x.1.2.1=res.1.fNo.length∧x.2.1.2.1=res.1.fC.length∧NestP (fun z:TC=>z.fO) x.2.2.1 res.1.fC∧PvL (fun z:TC=>z.fO) THop_cells wb (fun W4=>Hb W4∧Res.holds x.2.2.2 W4) x.2.2.1)∧e=.returned (.tuple #[.agg #[.slice x.1.1 x.1.2.1 x.1.2.2,.slice x.2.1.1 x.2.1.2.1 x.2.1.2.2],vI res.2])∧Ext W W2 [aO x.1.1 x.1.2.2 97 3 x.1.2.1 (encL TNode_cells res.1.fNo),aO x.2.1.1 x.2.1.2.2 90 2 x.2.1.2.1 (encL TClaim_cells2 x.2.2.1),x.2.2.2]:=by
 subst K
 subst M
 unfold kH at h
 refine ae (m:=34) Tryz.func50 O O (nB O) (cS (cR ?_))
 refine aP [.slice Aa p0.fNo.length ca,.slice Ab p0.fC.length cb] O O O (fun a=>?_)
 refine aC ft O (fun i=>?_)
 refine oY O (yAI O) (oN (eT (cS (cR (oY O (yN 0 [.slice Aa p0.fNo.length ca,.slice Ab p0.fC.length cb] aF O O O) (oY O (yMI O) (oY O (yMI O) ?_)))))))
 obtain⟨u,R,h⟩:=bOs h
 refine oY O (yC [.agg #[.slice Aa p0.fNo.length ca,.slice Ab p0.fC.length cb],vI p1,vI p2] go_107 O (fun W2 o=>mn p0 p1 p2 u R W2 Aa p0.fNo.length ca O ((RdL.arg E) W2 o) Ab p0.fC.length cb f O ((RdL.arg d) W2 o) (NestL.at (NestL.arg g) W2 o)) O) (oY O (aZ O) (oY O (yE O O) (oY O (yE O O) (oY O (yAI O) (oY O (yAI O) (oN (eT (cS (cS (cR (oY O (yMI O) (oY O (dD O O) (oN (eT ?_))))))))))))))
 rcases iOs h with⟨Q,h⟩|⟨Q,h⟩
 ·refine cT (vB Q) (cS (cR ?_))
  refine oY O (aI [.slice none 0 0,.slice none 0 0] [(0,1),(1,1)] kg ft (by kernel_rfl)) ?_
  refine oY O (yMI O) (cr O (yS 1 [.slice none 0 0,.slice none 0 0] gN O (nB O) O O O) (oY O (yAI O) (oN (eT (ak (ab ?_))))))
  obtain rfl:=sI h
  exact bx (.inl O) O (aH 1 [.slice none 0 0,.slice none 0 0] aF O O O) (rVt (v:=vI u.2) O) (fun W2 o=>⟨((none,0,0),(none,0,0),[],noR),⟨O,O,NestP.nil,PvL.nil⟩,O,((o.nilrow 97 3).nilrow 90 2).addNo.pickL [2,3,4] (by decide) O⟩)
 ·refine cF (vB Q) (cK (eT (cS ?_)))
  refine aU 12 cD (by kernel_rfl) (by kernel_rfl) ?_
  refine qY O (yN 0 [.slice Aa p0.fNo.length ca,.slice Ab p0.fC.length cb] aF O O O) (qY O (yMI O) (qY O (yFA aD O) (qY O (yL 0 bT O O O) (qY O (yMI O) ?_))))
  obtain⟨r,h⟩:=gOs h
  refine qY O (yI dY (by decide) r.1 r.2 (RdL.arg d) (eL aa (NestP.hn g.p O)) O O) ?_
  refine qY O (yFR (A:=Ab) (j:=(Int.toNat u.1*2)) bQ O) (qY O (yR (A:=Ab) (j:=((Int.toNat u.1*2)+1)) (v:=.slice ((rdL f u.1).1.1) ((rdL p0.fC u.1).fO.length) ((rdL f u.1).1.2.2)) gL (RdL.arg d) O (eG aa r.1 (ao r.2 (NestP.hn g.p O)) (congrArg (fun n:Nat=>some (Value.slice (rdL f u.1).1.1 n (rdL f u.1).1.2.2)) (NestP.len g.p r.1 (ao r.2 O))))) (qY O (yMI O) (qY O (yMI O) (qY O (bc O O) ?_))))
  obtain⟨w,h⟩:=gOs h
  refine qY O (y_cut lw w.1 w.2.1 w.2.2 (NestL.rd (NestL.arg g) r.1 (ao r.2 O)) O O O) (ck ?_)
  obtain⟨I,q,h⟩:=bOs h
  refine oC [.agg #[.slice Aa p0.fNo.length ca,.slice Ab p0.fC.length cb],vI u.1,.slice (if(rdL f u.1).1.2.2=Int.toNat p2 then((rdL f u.1).1.1)else Option.map (fun x=>x.add (Int.toNat p2*2)) ((rdL f u.1).1.1)) (Int.toNat (w64 (p2+1))-Int.toNat p2) ((rdL f u.1).1.2.2-Int.toNat p2)] _ _ _ O go_91 O (fun W2 o=>lH p0 u.1 ((((rdL p0.fC u.1).fO).drop (Int.toNat p2)).take (Int.toNat (w64 (p2+1))-Int.toNat p2)) I q W2 Aa p0.fNo.length ca O ((RdL.arg E) W2 o) Ab p0.fC.length cb f O ((RdL.arg d) W2 o) (NestL.at (NestL.arg g) W2 o) (if(rdL f u.1).1.2.2=Int.toNat p2 then((rdL f u.1).1.1)else Option.map (fun x=>x.add (Int.toNat p2*2)) ((rdL f u.1).1.1)) (Int.toNat (w64 (p2+1))-Int.toNat p2) ((rdL f u.1).1.2.2-Int.toNat p2) (cut_len w.1 w.2.1 w.2.2 O) ((RdL.cut au (NestL.rd (NestL.arg g) r.1 (ao r.2 O)) w.1 w.2.1 w.2.2 O) W2 o) wb Hb (fun W3 hb=>hB W3 (fy o.below hb)) N) ?_
  rintro⟨⟨U,l,X⟩,⟨Y,t,Z⟩,V,F24⟩ ⟨G,H,T,S⟩
  replace G:l=I.fNo.length:=G;subst G
  replace H:t=I.fC.length:=H;subst H
  refine cr O (yS 1 [.slice U I.fNo.length X,.slice Y I.fC.length Z] gN O (nB O) O O O) (oY O (yAI O) (oN (eT (ak ?_))))
  obtain rfl:=sI h
  exact bx (.inl O) O (aH 1 [.slice U I.fNo.length X,.slice Y I.fC.length Z] aF O O O) (rVt (v:=vI 0) O) (fun W2 o=>⟨((U,I.fNo.length,X),(Y,I.fC.length,Z),V,F24),⟨O,O,T,S⟩,O,o.pickL [2,3,4] (by decide) O⟩)
theorem mK (p0:TL) (p1:Int) (p2:Int) (res:(Int × Int)) (h:g9 p0 p1 p2=some res) (W:World) (Aa:Option Addr) (d ca:Nat) (G:d=p0.fNo.length) (w:Rd W Aa d ca (encL TNode_cells p0.fNo)) (Ab:Option Addr) (D cb:Nat) (f:List (Hd × TC)) (H:D=p0.fC.length) (r:Rd W Ab D cb (encL TClaim_cells2 f)) (o:NestW W (fun z:TC=>z.fO) THop_cells f p0.fC) :
  Calls Tryz.prog 108 [.agg #[.slice Aa d ca,.slice Ab D cb],vI p1,vI p2].toArray W fun e W2=>e=.returned (.tuple #[vI res.1,vI res.2])∧Ext W W2 []:=by
 subst G
 subst H
 unfold g9 at h
 refine ae (m:=32) Tryz.func108 O O (nB O) (cS (cR ?_))
 refine aP [.slice Aa p0.fNo.length ca,.slice Ab p0.fC.length cb] O O O (fun Y=>?_)
 refine oY O (yAI O) (oY O (yAI O) (oN (eT (cS (cR (oY O (yN 0 [.slice Aa p0.fNo.length ca,.slice Ab p0.fC.length cb] aF O O O) ?_))))))
 obtain⟨U,N,h⟩:=bOs h
 refine oY O (yC [.agg #[.slice Aa p0.fNo.length ca,.slice Ab p0.fC.length cb]] go_66 O (fun W2 g=>fF p0 U N W2 Aa p0.fNo.length ca O ((RdL.arg w) W2 g) Ab p0.fC.length cb f O ((RdL.arg r) W2 g) (NestL.at (NestL.arg o) W2 g)) O) (oY O (yAI O) (oN (eT (cS (cS (cR (oY O (yMI O) (oY O (dD O O) (oN (eT ?_))))))))))
 rcases iOs h with⟨I,h⟩|⟨I,h⟩
 ·refine cT (vB I) (cS (cR (oY O (yMI O) (oY O (yAI O) (oY O (yAI O) (oN (eT (ak (ab ?_)))))))))
  obtain rfl:=sI h
  exact bx (.inl O) O (rVt (v:=vI 0) O) (rVt (v:=vI U) O) (fun W2 g=>⟨O,g.none⟩)
 ·refine cF (vB I) (cK (eT (cS (cR (oY O (yN 0 [.slice Aa p0.fNo.length ca,.slice Ab p0.fC.length cb] aF O O O) (oY O (yMI O) ?_))))))
  obtain⟨E,Q,h⟩:=bOs h
  refine oY O (yC [.agg #[.slice Aa p0.fNo.length ca,.slice Ab p0.fC.length cb],vI p1] sN O (fun W2 g=>gF p0 p1 E Q W2 Aa p0.fNo.length ca O ((RdL.arg w) W2 g) Ab p0.fC.length cb f O ((RdL.arg r) W2 g) (NestL.at (NestL.arg o) W2 g)) O) (oY O (yAI O) (oN (eT (cS (cS (cR (oY O (yMI O) (oY O (bA O O) (oN (eT ?_))))))))))
  rcases iOs h with⟨K,h⟩|⟨K,h⟩
  ·refine cT (vB K) (cS (cR (oY O (yAI O) (oY O (yAI O) (oN (eT (ak (ab ?_))))))))
   obtain rfl:=sI h
   exact bx (.inl O) O (rVt (v:=vI 0) O) (rVt (v:=vI 5) O) (fun W2 g=>⟨O,g.none⟩)
  ·refine cF (vB K) (cK (eT (cS (cS (cR (oY O (yMI O) (oY O (yFA aD O) (oY O (yL 0 bT O O O) (oY O (yMI O) ?_)))))))))
   obtain⟨u,h⟩:=gOs h
   refine oY O (yI dY (by decide) u.1 u.2 (RdL.arg r) (eL aa (NestP.hn o.p O)) O O) ?_
   refine oY O (yFR (A:=Ab) (j:=(Int.toNat E*2)) bQ O) (oY O (yR (A:=Ab) (j:=((Int.toNat E*2)+1)) (v:=.slice ((rdL f E).1.1) ((rdL p0.fC E).fO.length) ((rdL f E).1.2.2)) gL (RdL.arg r) O (eG aa u.1 (ao u.2 (NestP.hn o.p O)) (congrArg (fun n:Nat=>some (Value.slice (rdL f E).1.1 n (rdL f E).1.2.2)) (NestP.len o.p u.1 (ao u.2 O))))) (oY O (bd (us:=[]) fZ O) (oY O (nq O O) ?_)))
   obtain⟨X,M,h⟩:=bOs h
   refine oY O (yC [vI p2,vI 0,vI (w64 ((((rdL p0.fC E).fO.length:Nat):Int)-1))] rp O (fun W2 g=>js p2 0 (w64 ((((rdL p0.fC E).fO.length:Nat):Int)-1)) X M W2 ) O) (oY O (fe O) (oN (eT ?_)))
   rcases iOs h with⟨F,h⟩|⟨F,h⟩
   ·refine cT (vB F) (cS (cR (oY O (yAI O) (oY O (yAI O) (oN (eT (ak (ab ?_))))))))
    obtain rfl:=sI h
    exact bx (.inl O) O (rVt (v:=vI 0) O) (rVt (v:=vI 1) O) (fun W2 g=>⟨O,g.none⟩)
   ·refine cF (vB F) (cK (eT (cS (cR (oY O (yMI O) (oY O (yAI O) (oY O (yAI O) (oN (eT (ak ?_))))))))))
    obtain rfl:=sI h
    exact bx (.inl O) O (rVt (v:=vI E) O) (rVt (v:=vI 0) O) (fun W2 g=>⟨O,g.none⟩)
theorem r7 (p0:TL) (p1:Int) (p2:Int) (res:TMade) (h:lM p0 p1 p2=some res) (W:World) (Aa:Option Addr) (D ca:Nat) (N:D=p0.fNo.length) (E:Rd W Aa D ca (encL TNode_cells p0.fNo)) (Ab:Option Addr) (F cb:Nat) (f:List (Hd × TC)) (Q:F=p0.fC.length) (w:Rd W Ab F cb (encL TClaim_cells2 f)) (g:NestW W (fun z:TC=>z.fO) THop_cells f p0.fC) (wb:World) (Hb:World→Prop) (hB:∀W3,Below W.heap.size W W3→Below wb.heap.size wb W3∧Hb W3) (U:Pv TNode_cells wb Hb (Aa,D,ca) p0.fNo) (G:PvL (fun z:TC=>z.fO) THop_cells wb Hb f) :
  Calls Tryz.prog 51 [.agg #[.slice Aa D ca,.slice Ab F cb],vI p1,vI p2].toArray W fun e W2=>∃x:((Hd × Res) × (Hd × Res × Res × List (Hd × TC))),(x.1.1.2.1=res.fL.fNo.length∧Pv TNode_cells wb (fun W4=>Hb W4∧Res.holds x.1.2 W4) x.1.1 res.fL.fNo∧x.2.1.2.1=res.fL.fC.length∧Pv TClaim_cells2 wb (fun W4=>Hb W4∧Res.holds x.2.2.1 W4) x.2.1 x.2.2.2.2∧NestP (fun z:TC=>z.fO) x.2.2.2.2 res.fL.fC∧PvL (fun z:TC=>z.fO) THop_cells wb (fun W4=>Hb W4∧Res.holds x.2.2.2.1 W4) x.2.2.2.2)∧e=.returned (.agg #[.slice x.1.1.1 x.1.1.2.1 x.1.1.2.2,.slice x.2.1.1 x.2.1.2.1 x.2.1.2.2,vI res.fE])∧Ext W W2 [x.1.2,x.2.2.1,x.2.2.2.1]:=by
 subst N
 subst Q
 unfold lM at h
 refine ae (m:=34) Tryz.func51 O O (nB O) (cS (cR ?_))
 refine aP [.slice Aa p0.fNo.length ca,.slice Ab p0.fC.length cb] O O O (fun q=>?_)
 refine aC jk O (fun l=>?_)
 refine oN (eT (cS (cR (oY O (yN 0 [.slice Aa p0.fNo.length ca,.slice Ab p0.fC.length cb] aF O O O) (oY O (yMI O) (oY O (yMI O) ?_))))))
 obtain⟨d,T,h⟩:=bOs h
 refine oY O (yC [.agg #[.slice Aa p0.fNo.length ca,.slice Ab p0.fC.length cb],vI p1,vI p2] go_108 O (fun W2 o=>mK p0 p1 p2 d T W2 Aa p0.fNo.length ca O ((RdL.arg E) W2 o) Ab p0.fC.length cb f O ((RdL.arg w) W2 o) (NestL.at (NestL.arg g) W2 o)) O) (oY O (aZ O) (oY O (yE O O) (oY O (yE O O) (oY O (yAI O) (oY O (yAI O) (oN (eT (cS (cS (cR (oY O (yMI O) (oY O (dD O O) (oN (eT ?_))))))))))))))
 rcases iOs h with⟨X,h⟩|⟨X,h⟩
 ·refine cT (vB X) (cS (cR (oY O (yMI O) ?_)))
  refine oY O (aI [.slice none 0 0,.slice none 0 0,vI d.2] [(0,2),(2,1)] iJ jk (by kernel_rfl)) ?_
  refine cr O (yS 1 [.slice none 0 0,.slice none 0 0,vI d.2] kZ O (nB O) O O O) (oN (eT (ak (ab ?_))))
  obtain rfl:=sI h
  exact am (.inl O) O (aH 1 [.slice none 0 0,.slice none 0 0,vI d.2] mg O O O) (fun W2 o=>⟨(((none,0,0),noR),((none,0,0),noR,noR,[])),⟨O,(Pv.mono (Hb:=Hb) (Pv.nil O) (fun _ _ h=>h.1)),O,(Pv.mono (Hb:=Hb) (Pv.nil O) (fun _ _ h=>h.1)),NestP.nil,(PvL.mono (Hb:=Hb) PvL.nil (fun _ _ h=>h.1))⟩,O,o.addNo.addNo.addNo.pickL [2,3,4] (by decide) O⟩)
 ·refine cF (vB X) (cK (eT (cS ?_)))
  refine aU 12 cD (by kernel_rfl) (by kernel_rfl) ?_
  refine qY O (yN 0 [.slice Aa p0.fNo.length ca,.slice Ab p0.fC.length cb] aF O O O) (qY O (yMI O) (qY O (yFA aD O) (qY O (yL 0 bT O O O) (qY O (yMI O) ?_))))
  obtain⟨r,h⟩:=gOs h
  refine qY O (yI dY (by decide) r.1 r.2 (RdL.arg w) (eL aa (NestP.hn g.p O)) O O) ?_
  refine qY O (yFR (A:=Ab) (j:=(Int.toNat d.1*2)) bQ O) (qY O (yR (A:=Ab) (j:=((Int.toNat d.1*2)+1)) (v:=.slice ((rdL f d.1).1.1) ((rdL p0.fC d.1).fO.length) ((rdL f d.1).1.2.2)) gL (RdL.arg w) O (eG aa r.1 (ao r.2 (NestP.hn g.p O)) (congrArg (fun n:Nat=>some (Value.slice (rdL f d.1).1.1 n (rdL f d.1).1.2.2)) (NestP.len g.p r.1 (ao r.2 O))))) (qY O (yMI O) (qY O (yMI O) (qY O (bc O O) ?_))))
  obtain⟨u,h⟩:=gOs h
  refine qY O (y_cut lw u.1 u.2.1 u.2.2 (NestL.rd (NestL.arg g) r.1 (ao r.2 O)) O O O) (ck ?_)
  obtain⟨Y,S,h⟩:=bOs h
  refine oC [.agg #[.slice Aa p0.fNo.length ca,.slice Ab p0.fC.length cb],vI d.1,.slice (if(rdL f d.1).1.2.2=Int.toNat p2 then((rdL f d.1).1.1)else Option.map (fun x=>x.add (Int.toNat p2*2)) ((rdL f d.1).1.1)) (Int.toNat (w64 (p2+1))-Int.toNat p2) ((rdL f d.1).1.2.2-Int.toNat p2)] _ _ _ O go_95 O (fun W2 o=>nH p0 d.1 ((((rdL p0.fC d.1).fO).drop (Int.toNat p2)).take (Int.toNat (w64 (p2+1))-Int.toNat p2)) Y S W2 Aa p0.fNo.length ca O ((RdL.arg E) W2 o) Ab p0.fC.length cb f O ((RdL.arg w) W2 o) (NestL.at (NestL.arg g) W2 o) (if(rdL f d.1).1.2.2=Int.toNat p2 then((rdL f d.1).1.1)else Option.map (fun x=>x.add (Int.toNat p2*2)) ((rdL f d.1).1.1)) (Int.toNat (w64 (p2+1))-Int.toNat p2) ((rdL f d.1).1.2.2-Int.toNat p2) (cut_len u.1 u.2.1 u.2.2 O) ((RdL.cut au (NestL.rd (NestL.arg g) r.1 (ao r.2 O)) u.1 u.2.1 u.2.2 O) W2 o) wb Hb (fun W3 hb=>hB W3 (fy o.below hb)) G (Pv.cut au u.1 u.2.1 u.2.2 O (PvL.get G g.p r.1 (ao r.2 O)))) ?_
  rintro⟨⟨H,R,I⟩,M,F20⟩ ⟨K,Z,V⟩
  replace K:R=Y.fC.length:=K;subst K
  refine oY O (aI [.slice Aa p0.fNo.length ca,.slice H Y.fC.length I,vI 0] [(0,2),(2,1)] iJ jk (by kernel_rfl)) ?_
  refine cr O (yS 1 [.slice Aa p0.fNo.length ca,.slice H Y.fC.length I,vI 0] kZ O (nB O) O O O) (oN (eT (ak ?_)))
  obtain rfl:=sI h
  exact am (.inl O) O (aH 1 [.slice Aa p0.fNo.length ca,.slice H Y.fC.length I,vI 0] mg O O O) (fun W2 o=>⟨(((Aa,p0.fNo.length,ca),noR),((H,Y.fC.length,I),aO H I 90 2 Y.fC.length (encL TClaim_cells2 M),F20,M)),⟨O,(Pv.mono (Hb:=Hb) U (fun _ _ h=>h.1)),O,(fun _ _ h=>eU h.2),Z,V⟩,O,o.addNo.pickL [4,2,3] (by decide) O⟩)
theorem lT (p0:(List TH)) (p1:Int) (p2:Int) (res:(List TH)) (h:dg p0 p1 p2=some res) (W:World) (E:World) (R:Res) (Aa:Option Addr) (o ca:Nat) (d:o=p0.length) (hW:Ext E W [R,aO Aa ca 111 2 o (encL THop_cells p0)]) :
  Calls Tryz.prog 109 [.slice Aa o ca,vI p1,vI p2].toArray W fun e W2=>∃k:Nat,k=res.length∧e=.returned (.slice Aa k ca)∧Ext E W2 [R,aO Aa ca 111 2 k (encL THop_cells res)]:=by
 subst d
 unfold dg at h
 refine ff (m:=33) Tryz.func109 O O (nB O) hW (cS (cR (oY O (yAS O) (oN (eT (cS (cR (oY O (yMS O) (oY O (yMI O) (oY O (yMI O) (oY O (yMS O) (oY O (bd (us:=[]) fZ O) ?_))))))))))))
 obtain⟨r,h⟩:=gOs h
 refine oY O (y_cut3 lw r.1 r.2.1 r.2.2.1 r.2.2.2 (RdL.row 1 O) O O O O) (oN (eT (cS (cS (cR (oY O (yMI O) (oY O (yMI O) (oY O (ig O O) (oN (eT ?_))))))))))
 rcases iOs h with⟨w,h⟩|⟨w,h⟩
 ·refine cT (vB w) (cS (cR (oY O (yMS O) (oY O (yAS O) (oN (eT (ak (ab ?_))))))))
  obtain rfl:=sI h
  exact am (.inl O) O (rVt (v:=.slice Aa p0.length ca) O) (fun W2 D=>⟨p0.length,O,O,D.take 2⟩)
 ·refine cF (vB w) (cK (eT (cS (cR (oY O (yMS O) (oY O (bd (us:=[]) fZ O) (oY O (yAI O) (oN (eT (cS ?_))))))))))
  refine aU 6 cD (by kernel_rfl) (by kernel_rfl) ?_
  refine qY O (yMS O) (qY O (yMI O) ?_)
  obtain⟨f,h⟩:=gOs h
  refine qY O (y_cutH lw f.1 f.2 (RdL.row 1 O) O O) (qY O (yMS O) (qY O (yMI O) ?_))
  obtain⟨g,h⟩:=gOs h
  refine qY O (y_cutL lw g.1 g.2 (RdL.row 1 O) O O) (ck ?_)
  obtain⟨u,h⟩:=gOs h
  refine sy 1 au lG fZ i8 nC O O f.1 u g.2 O O O (oY O (yAS O) (oN (eT (cS (cR (oY O (yMS O) (oY O (yMS O) (oY O (bd (us:=[]) fZ O) (oY O (yMI O) ?_)))))))))
  refine oY O (y_cutO lw (by omega) (by have h8:=(sV f.1 u g.2);omega) (by have h9:=(eU (hW.mem (i:=1) O)).cap;omega) O O O) ?_
  refine cr O (y_clearT 1 fZ i8 O (by decide) O O (by have h8:=(sV f.1 u g.2);have h9:=(eU (hW.mem (i:=1) O)).cap;simp only[Int.toNat_natCast];omega) O) ?_
  refine oN (eT (cS (cR (oY O (yMS O) (oY O (yAS O) (oN (eT (ak ?_))))))))
  obtain rfl:=sI h
  exact am (.inl O) O (rVt (v:=.slice Aa (Int.toNat p1+(p0.length-Int.toNat p2)) ca) O) (fun W2 D=>⟨(Int.toNat p1+(p0.length-Int.toNat p2)),(cutOut_len f.1 u g.2 O),O,D.take 2⟩)
theorem py (p0:TL) (p1:Int) (p2:Int) (res:(TL × Int)) (h:iN p0 p1 p2=some res) (W:World) (Aa:Option Addr) (F ca:Nat) (Q:F=p0.fNo.length) (G:Rd W Aa F ca (encL TNode_cells p0.fNo)) (Ab:Option Addr) (H cb:Nat) (f:List (Hd × TC)) (U:H=p0.fC.length) (r:Rd W Ab H cb (encL TClaim_cells2 f)) (o:NestW W (fun z:TC=>z.fO) THop_cells f p0.fC) (wb:World) (Hb:World→Prop) (hB:∀W3,Below W.heap.size W W3→Below wb.heap.size wb W3∧Hb W3) (X:PvL (fun z:TC=>z.fO) THop_cells wb Hb f) :
  Calls Tryz.prog 52 [.agg #[.slice Aa F ca,.slice Ab H cb],vI p1,vI p2].toArray W fun e W2=>∃x:((Option Addr × Nat × Nat) × (Option Addr × Nat × Nat) × (List (Hd × TC)) × Res),(x.1.2.1=res.1.fNo.length∧x.2.1.2.1=res.1.fC.length∧NestP (fun z:TC=>z.fO) x.2.2.1 res.1.fC∧PvL (fun z:TC=>z.fO) THop_cells wb (fun W4=>Hb W4∧Res.holds x.2.2.2 W4) x.2.2.1)∧e=.returned (.tuple #[.agg #[.slice x.1.1 x.1.2.1 x.1.2.2,.slice x.2.1.1 x.2.1.2.1 x.2.1.2.2],vI res.2])∧Ext W W2 [aO x.1.1 x.1.2.2 97 3 x.1.2.1 (encL TNode_cells res.1.fNo),aO x.2.1.1 x.2.1.2.2 90 2 x.2.1.2.1 (encL TClaim_cells2 x.2.2.1),x.2.2.2]:=by
 subst Q
 subst U
 unfold iN at h
 refine ae (m:=41) Tryz.func52 O O (nB O) (cS (cR ?_))
 refine aP [.slice Aa p0.fNo.length ca,.slice Ab p0.fC.length cb] O O O (fun b1=>?_)
 refine aC ft O (fun b2=>?_)
 refine oY O (yAI O) (oN (eT (cS (cR (oY O (yN 0 [.slice Aa p0.fNo.length ca,.slice Ab p0.fC.length cb] aF O O O) (oY O (yMI O) (oY O (yMI O) ?_)))))))
 obtain⟨d,c,h⟩:=bOs h
 refine oY O (yC [.agg #[.slice Aa p0.fNo.length ca,.slice Ab p0.fC.length cb],vI p1,vI p2] go_107 O (fun W2 g=>mn p0 p1 p2 d c W2 Aa p0.fNo.length ca O ((RdL.arg G) W2 g) Ab p0.fC.length cb f O ((RdL.arg r) W2 g) (NestL.at (NestL.arg o) W2 g)) O) (oY O (aZ O) (oY O (yE O O) (oY O (yE O O) (oY O (yAI O) (oY O (yAI O) (oN (eT (cS (cS (cR (oY O (yMI O) (oY O (dD O O) (oN (eT ?_))))))))))))))
 rcases iOs h with⟨Y,h⟩|⟨Y,h⟩
 ·refine cT (vB Y) (cS (cR ?_))
  refine oY O (aI [.slice none 0 0,.slice none 0 0] [(0,1),(1,1)] kg ft (by kernel_rfl)) ?_
  refine oY O (yMI O) (cr O (yS 1 [.slice none 0 0,.slice none 0 0] gN O (nB O) O O O) (oY O (yAI O) (oN (eT (ak (ab ?_))))))
  obtain rfl:=sI h
  exact bx (.inl O) O (aH 1 [.slice none 0 0,.slice none 0 0] aF O O O) (rVt (v:=vI d.2) O) (fun W2 g=>⟨((none,0,0),(none,0,0),[],noR),⟨O,O,NestP.nil,PvL.nil⟩,O,((g.nilrow 97 3).nilrow 90 2).addNo.pickL [2,3,4] (by decide) O⟩)
 ·refine cF (vB Y) (cK (eT (cS (cR (oY O (yFA aD O) (oY O (yL 0 bT O O O) (oY O (yMI O) ?_)))))))
  obtain⟨w,h⟩:=gOs h
  refine oY O (yI dY (by decide) w.1 w.2 (RdL.arg r) (eL aa (NestP.hn o.p O)) O O) ?_
  refine oY O (yFR (A:=Ab) (j:=(Int.toNat d.1*2)) bQ O) (oY O (yR (A:=Ab) (j:=((Int.toNat d.1*2)+1)) (v:=.slice ((rdL f d.1).1.1) ((rdL p0.fC d.1).fO.length) ((rdL f d.1).1.2.2)) gL (RdL.arg r) O (eG aa w.1 (ao w.2 (NestP.hn o.p O)) (congrArg (fun n:Nat=>some (Value.slice (rdL f d.1).1.1 n (rdL f d.1).1.2.2)) (NestP.len o.p w.1 (ao w.2 O))))) ?_)
  obtain⟨Z,f0,h⟩:=bOs h
  refine oC [.slice ((rdL f d.1).1.1) ((rdL p0.fC d.1).fO.length) ((rdL f d.1).1.2.2)] _ _ _ O go_110 O (fun W2 g=>fj ((rdL p0.fC d.1).fO) Z f0 W2 ((rdL f d.1).1.1) ((rdL p0.fC d.1).fO.length) ((rdL f d.1).1.2.2) O ((NestL.rd (NestL.arg o) w.1 (ao w.2 O)) W2 g)) ?_
  rintro⟨V,f1,D⟩ I
  replace I:f1=Z.length:=I;subst I
  refine oY O (yMI O) (oY O (yMI O) (oY O (bc O O) ?_))
  obtain⟨E,l,h⟩:=bOs h
  refine jG 2 [.slice V Z.length D,vI p2,vI (w64 (p2+1))] (fun k:Nat=>k=E.length) (fun k=>.slice V k D) (fun k=>aO V D 111 2 k (encL THop_cells E)) (fun _=>[]) O O go_109 O (fun W2 g=>(lT Z p2 (w64 (p2+1)) E l W2 _ (mw [aj b1 25 [.slice Aa p0.fNo.length ca,.slice Ab p0.fC.length cb],aj b2 25 [.slice none 0 0,.slice none 0 0],aO V D 111 2 Z.length (encL THop_cells Z)] [2]) V Z.length D O g).mono (fun e W3 h3=>h3)) ?_
  rintro k15 t
  subst t
  try dsimp only[lsz,lss,List.append_nil]
  refine oY O (yAS O) (oN (eT (cS (cS (cR (oY O (yMS O) (oY O (bd (us:=[]) fZ O) (oY O (ig O O) (oN (eT ?_))))))))))
  rcases iOs h with⟨K,h⟩|⟨K,h⟩
  ·refine cT (vB K) (cS (cR ?_))
   refine oY O (aI [.slice none 0 0,.slice none 0 0] [(0,1),(1,1)] kg ft (by kernel_rfl)) ?_
   refine cr O (yS 1 [.slice none 0 0,.slice none 0 0] gN O (nB O) O O O) (oY O (yAI O) (oN (eT (ak (ab ?_)))))
   obtain rfl:=sI h
   exact bx (.inl O) O (aH 1 [.slice none 0 0,.slice none 0 0] aF O O O) (rVt (v:=vI 9) O) (fun W2 g=>⟨((none,0,0),(none,0,0),[],noR),⟨O,O,NestP.nil,PvL.nil⟩,O,((g.nilrow 97 3).nilrow 90 2).addNo.pickL [3,4,5] (by decide) O⟩)
  ·refine cF (vB K) (cK (eT (cS (cR (oY O (yN 0 [.slice Aa p0.fNo.length ca,.slice Ab p0.fC.length cb] aF O O O) (oY O (yMI O) (oY O (yMS O) ?_)))))))
   obtain⟨u,a,h⟩:=bOs h
   refine oC [.agg #[.slice Aa p0.fNo.length ca,.slice Ab p0.fC.length cb],vI d.1,.slice V E.length D] _ _ _ O go_91 O (fun W2 g=>lH p0 d.1 E u a W2 Aa p0.fNo.length ca O ((RdL.arg G) W2 g) Ab p0.fC.length cb f O ((RdL.arg r) W2 g) (NestL.at (NestL.arg o) W2 g) V E.length D O ((RdL.row 2 O) W2 g) wb Hb (fun W3 hb=>hB W3 (fy g.below hb)) X) ?_
   rintro⟨⟨T,f2,S⟩,⟨R,f3,q⟩,i,F34⟩ ⟨M,N,y,b⟩
   replace M:f2=u.fNo.length:=M;subst M
   replace N:f3=u.fC.length:=N;subst N
   try dsimp only[lna,lca,lsz,lss]
   refine cr O (yS 1 [.slice T u.fNo.length S,.slice R u.fC.length q] gN O (nB O) O O O) (oY O (yAI O) (oN (eT (ak ?_))))
   obtain rfl:=sI h
   exact bx (.inl O) O (aH 1 [.slice T u.fNo.length S,.slice R u.fC.length q] aF O O O) (rVt (v:=vI 0) O) (fun W2 g=>⟨((T,u.fNo.length,S),(R,u.fC.length,q),i,F34),⟨O,O,y,b⟩,O,g.pickL [3,4,5] (by decide) O⟩)
theorem qE (p0:TL) (p1:Int) (p2:Int) (res:TMade) (h:jV p0 p1 p2=some res) (W:World) (Aa:Option Addr) (G ca:Nat) (a:G=p0.fNo.length) (I:Rd W Aa G ca (encL TNode_cells p0.fNo)) (Ab:Option Addr) (K cb:Nat) (f:List (Hd × TC)) (k:K=p0.fC.length) (u:Rd W Ab K cb (encL TClaim_cells2 f)) (g:NestW W (fun z:TC=>z.fO) THop_cells f p0.fC) (wb:World) (Hb:World→Prop) (hB:∀W3,Below W.heap.size W W3→Below wb.heap.size wb W3∧Hb W3) (y:Pv TNode_cells wb Hb (Aa,G,ca) p0.fNo) (b:PvL (fun z:TC=>z.fO) THop_cells wb Hb f) :
  Calls Tryz.prog 53 [.agg #[.slice Aa G ca,.slice Ab K cb],vI p1,vI p2].toArray W fun e W2=>∃x:((Hd × Res) × (Hd × Res × Res × List (Hd × TC))),(x.1.1.2.1=res.fL.fNo.length∧Pv TNode_cells wb (fun W4=>Hb W4∧Res.holds x.1.2 W4) x.1.1 res.fL.fNo∧x.2.1.2.1=res.fL.fC.length∧Pv TClaim_cells2 wb (fun W4=>Hb W4∧Res.holds x.2.2.1 W4) x.2.1 x.2.2.2.2∧NestP (fun z:TC=>z.fO) x.2.2.2.2 res.fL.fC∧PvL (fun z:TC=>z.fO) THop_cells wb (fun W4=>Hb W4∧Res.holds x.2.2.2.1 W4) x.2.2.2.2)∧e=.returned (.agg #[.slice x.1.1.1 x.1.1.2.1 x.1.1.2.2,.slice x.2.1.1 x.2.1.2.1 x.2.1.2.2,vI res.fE])∧Ext W W2 [x.1.2,x.2.2.1,x.2.2.2.1]:=by
 subst a
 subst k
 unfold jV at h
 refine ae (m:=57) Tryz.func53 O O (nB O) (cS (cR ?_))
 refine aP [.slice Aa p0.fNo.length ca,.slice Ab p0.fC.length cb] O O O (fun b1=>?_)
 refine aC jk O (fun b2=>?_)
 refine oN (eT (cS (cR (oY O (yN 0 [.slice Aa p0.fNo.length ca,.slice Ab p0.fC.length cb] aF O O O) (oY O (yMI O) (oY O (yMI O) ?_))))))
 obtain⟨d,fN,h⟩:=bOs h
 refine oY O (yC [.agg #[.slice Aa p0.fNo.length ca,.slice Ab p0.fC.length cb],vI p1,vI p2] go_108 O (fun W2 o=>mK p0 p1 p2 d fN W2 Aa p0.fNo.length ca O ((RdL.arg I) W2 o) Ab p0.fC.length cb f O ((RdL.arg u) W2 o) (NestL.at (NestL.arg g) W2 o)) O) (oY O (aZ O) (oY O (yE O O) (oY O (yE O O) (oY O (yAI O) (oY O (yAI O) (oN (eT (cS (cS (cR (oY O (yMI O) (oY O (dD O O) (oN (eT ?_))))))))))))))
 rcases iOs h with⟨c,h⟩|⟨c,h⟩
 ·refine cT (vB c) (cS (cR (oY O (yMI O) ?_)))
  refine oY O (aI [.slice none 0 0,.slice none 0 0,vI d.2] [(0,2),(2,1)] iJ jk (by kernel_rfl)) ?_
  refine cr O (yS 1 [.slice none 0 0,.slice none 0 0,vI d.2] kZ O (nB O) O O O) (oN (eT (ak (ab ?_))))
  obtain rfl:=sI h
  exact am (.inl O) O (aH 1 [.slice none 0 0,.slice none 0 0,vI d.2] mg O O O) (fun W2 o=>⟨(((none,0,0),noR),((none,0,0),noR,noR,[])),⟨O,(Pv.mono (Hb:=Hb) (Pv.nil O) (fun _ _ h=>h.1)),O,(Pv.mono (Hb:=Hb) (Pv.nil O) (fun _ _ h=>h.1)),NestP.nil,(PvL.mono (Hb:=Hb) PvL.nil (fun _ _ h=>h.1))⟩,O,o.addNo.addNo.addNo.pickL [2,3,4] (by decide) O⟩)
 ·refine cF (vB c) (cK (eT (cS (cR (oY O (yAS O) (oN (eT (cS (cS (cR (oY O (yAI O) (oN (eT (cB ?_))))))))))))))
  obtain⟨S,f0,h⟩:=bOs h
  refine cN 111 2 ?_
  refine bF (fun(s:(Int × (List TH))) L tm=>∃(fn:Nat→Value) (R:Option Addr) (q:Nat) (M:Nat),M=s.2.length∧L=[aj b1 25 [.slice Aa p0.fNo.length ca,.slice Ab p0.fC.length cb],aj b2 77 [.slice none 0 0,.slice none 0 0,vI 0],aO R q 111 2 M (encL THop_cells s.2)]∧tm=(upd (upd (upd (upd (upd (upd fn 2 (vI p2)) 3 (.pointer (some ⟨b1,0,none⟩))) 6 (.pointer (some ⟨b2,0,none⟩))) 7 (vI d.1)) 9 (.slice R M q)) 10 (vI s.1))) 0 f0 ⟨_,none,0,0,O,O,(kp4 (kp (kp O)))⟩ ?_ ?_
  ·rintro l L tm st ⟨fr,N,Q,fl,rfl,rfl,rfl⟩ h
   unfold fc at h
   refine cS (cS (cR (oY O (yMI O) (oY O (yFA aD O) (oY O (yL 0 bT O O O) (oY O (yMI O) ?_))))))
   obtain⟨E,h⟩:=gOs h
   refine oY O (yI dY (by decide) E.1 E.2 (RdL.arg u) (eL aa (NestP.hn g.p O)) O O) ?_
   refine oY O (yFR (A:=Ab) (j:=(Int.toNat d.1*2)) bQ O) (oY O (yR (A:=Ab) (j:=((Int.toNat d.1*2)+1)) (v:=.slice ((rdL f d.1).1.1) ((rdL p0.fC d.1).fO.length) ((rdL f d.1).1.2.2)) gL (RdL.arg u) O (eG aa E.1 (ao E.2 (NestP.hn g.p O)) (congrArg (fun n:Nat=>some (Value.slice (rdL f d.1).1.1 n (rdL f d.1).1.2.2)) (NestP.len g.p E.1 (ao E.2 O))))) (oY O (bd (us:=[]) fZ O) (oY O (bA O O) (oN (eT ?_)))))
   rcases iOs h with⟨U,h⟩|⟨U,h⟩
   ·refine cT (vB U) (cK (eT (cS (cB (cS (cR (oY O (yMI O) (oY O (yMI O) (oY O (dD O O) (oN (eT ?_)))))))))))
    rcases iOs h with⟨X,h⟩|⟨X,h⟩
    ·refine cT (vB X) (cR (oY O (yMS O) (oY O (yFA aD O) (oY O (yL 0 bT O O O) (oY O (yMI O) ?_)))))
     obtain⟨r,h⟩:=gOs h
     refine oY O (yI dY (by decide) r.1 r.2 (RdL.arg u) (eL aa (NestP.hn g.p O)) O O) ?_
     refine oY O (yFR (A:=Ab) (j:=(Int.toNat d.1*2)) bQ O) (oY O (yR (A:=Ab) (j:=((Int.toNat d.1*2)+1)) (v:=.slice ((rdL f d.1).1.1) ((rdL p0.fC d.1).fO.length) ((rdL f d.1).1.2.2)) gL (RdL.arg u) O (eG aa r.1 (ao r.2 (NestP.hn g.p O)) (congrArg (fun n:Nat=>some (Value.slice (rdL f d.1).1.1 n (rdL f d.1).1.2.2)) (NestP.len g.p r.1 (ao r.2 O))))) (oY O (yMI O) ?_))
     obtain⟨H,h⟩:=gOs h
     refine oY O (yI lw (by decide) H.1 H.2 (NestL.rd (NestL.arg g) r.1 (ao r.2 O)) (eL au O) O O) ?_
     refine oY O (yM (A:=((rdL f d.1).1.1)) (j:=(Int.toNat l.1*2)) [vI ((rdL ((rdL p0.fC d.1).fO) l.1).fFrom),vI ((rdL ((rdL p0.fC d.1).fO) l.1).fTo)] lW (Nat.succ_pos _) (NestL.rd (NestL.arg g) r.1 (ao r.2 O)) O (aM au H.1 (ao H.2 O))) ?_
     refine ap 1 (encL THop_cells [(TH.mk ((rdL ((rdL p0.fC d.1).fO) l.1).fFrom) ((rdL ((rdL p0.fC d.1).fO) l.1).fTo))]) _ rT fZ i8 nC (by decide) (by decide) (by kernel_rfl) (eL au O) O (fun o2=>?_)
     obtain⟨f1,h⟩:=gOs h
     refine bg 2 fZ i8 nC O O O (RdL.row 3 O) (eL au O) (cg lG _) (cp f1 (by decide)) O (fun g1 g2=>?_)
     refine oY O (yAS O) (oN (aq (eT (cR (oY O (yMI O) (oY O (bc O O) (oY O (yAI O) (oN (aS 3 ?_)))))))))
     obtain rfl:=sI h
     exact eN ⟨_,g1,g2,(l.2.length+1),(fD O O),O,(kp4 (kp (kp O)))⟩
    ·refine cF (vB X) (cK (aq (eT (cR (oY O (yMI O) (oY O (bc O O) (oY O (yAI O) (oN ?_))))))))
     obtain rfl:=sI h
     exact eN ⟨_,N,Q,l.2.length,O,O,(kp4 (kp (kp O)))⟩
   ·refine cF (vB U) (aK (ah ?_))
    obtain rfl:=sI h
    exact ay ⟨O,_,N,Q,l.2.length,O,O,(kp4 (kp (kp O)))⟩
  ·intro e L tm hJ
   obtain⟨rfl,fd,w,D,g3,rfl,rfl,rfl⟩:=hJ
   refine⟨(by intro hc;cases hc),?_⟩
   refine ag (eT (cS (cS (cR (oY O (yMS O) (oY O (bd (us:=[]) fZ O) (oY O (ig O O) (oN (eT ?_)))))))))
   rcases iOs h with⟨Y,h⟩|⟨Y,h⟩
   ·refine cT (vB Y) (cS (cR ?_))
    refine oY O (aI [.slice none 0 0,.slice none 0 0,vI 9] [(0,2),(2,1)] iJ jk (by kernel_rfl)) ?_
    refine cr O (yS 1 [.slice none 0 0,.slice none 0 0,vI 9] kZ O (nB O) O O O) (oN (eT (ak (ab ?_))))
    obtain rfl:=sI h
    exact am (.inl O) O (aH 1 [.slice none 0 0,.slice none 0 0,vI 9] mg O O O) (fun W2 o=>⟨(((none,0,0),noR),((none,0,0),noR,noR,[])),⟨O,(Pv.mono (Hb:=Hb) (Pv.nil O) (fun _ _ h=>h.1)),O,(Pv.mono (Hb:=Hb) (Pv.nil O) (fun _ _ h=>h.1)),NestP.nil,(PvL.mono (Hb:=Hb) PvL.nil (fun _ _ h=>h.1))⟩,O,o.addNo.addNo.addNo.pickL [3,4,5] (by decide) O⟩)
   ·refine cF (vB Y) (cK (eT (cS (cR (oY O (yN 0 [.slice Aa p0.fNo.length ca,.slice Ab p0.fC.length cb] aF O O O) (oY O (yMI O) (oY O (yMS O) ?_)))))))
    obtain⟨F,f2,h⟩:=bOs h
    refine oC [.agg #[.slice Aa p0.fNo.length ca,.slice Ab p0.fC.length cb],vI d.1,.slice w S.2.length D] _ _ _ O go_95 O (fun W2 o=>nH p0 d.1 S.2 F f2 W2 Aa p0.fNo.length ca O ((RdL.arg I) W2 o) Ab p0.fC.length cb f O ((RdL.arg u) W2 o) (NestL.at (NestL.arg g) W2 o) w S.2.length D O ((RdL.row 2 O) W2 o) wb (fun W4=>Hb W4∧Res.holds (aO w D 111 2 S.2.length (encL THop_cells S.2)) W4) (fun W3 hb=>⟨(hB W3 (fy o.below hb)).1,(hB W3 (fy o.below hb)).2,(o.below' hb).mem (i:=2) O⟩) (PvL.mono b (fun _ _ h=>h.1)) (fun _ _ h=>eU h.2)) ?_
    rintro⟨⟨Z,gf,V⟩,t,F33⟩ ⟨T,f3,f4⟩
    replace T:gf=F.fC.length:=T;subst T
    refine mb 4 2 (by decide) O O ?_
    refine oY O (aI [.slice Aa p0.fNo.length ca,.slice Z F.fC.length V,vI 0] [(0,2),(2,1)] iJ jk (by kernel_rfl)) ?_
    refine cr O (yS 1 [.slice Aa p0.fNo.length ca,.slice Z F.fC.length V,vI 0] kZ O (nB O) O O O) (oN (eT (ak ?_)))
    obtain rfl:=sI h
    exact am (.inl O) O (aH 1 [.slice Aa p0.fNo.length ca,.slice Z F.fC.length V,vI 0] mg O O O) (fun W2 o=>⟨(((Aa,p0.fNo.length,ca),noR),((Z,F.fC.length,V),aO Z V 90 2 F.fC.length (encL TClaim_cells2 t),pL F33 (aO w D 111 2 S.2.length (encL THop_cells S.2)),t)),⟨O,(Pv.mono (Hb:=Hb) y (fun _ _ h=>h.1)),O,(fun _ _ h=>eU h.2),f3,(PvL.mono (Hb:=fun W5=>(fun W4=>Hb W4∧Res.holds (aO w D 111 2 S.2.length (encL THop_cells S.2)) W4) W5∧Res.holds F33 W5) f4 (fun _ _ h=>⟨⟨h.1,h.2.2.1⟩,h.2.1⟩))⟩,O,o.addNo.pickL [5,3,4] (by decide) O⟩)
theorem iW (p0:(List TC)) (p1:TC→Option Bool) (res:(List TC)) (h:bJ p0 p1=some res) (W:World) (S:World) (R:Res) (Aa:Option Addr) (H ca:Nat) (d:List (Hd × TC)) (Z:H=p0.length) (D:NestP (fun z:TC=>z.fO) d p0) (I:PvL (fun z:TC=>z.fO) THop_cells S (fun W4=>Res.holds R W4) d) (fid1:Nat) (fst1 caps1:List Value) (U:cE Tryz.prog fid1=true) (X:∀W2,Below S.heap.size S W2→R.holds W2→∀x,∀(hx:Hd),Rd W2 hx.1 x.fO.length hx.2.2 (encL THop_cells x.fO)→∀y,p1 x=some y→Calls Tryz.prog fid1 (fst1++(([.agg #[vI x.fID,.slice hx.1 x.fO.length hx.2.2]]:List Value)++caps1)).toArray W2 fun e W3=>e=.returned (.bool y)∧Ext W2 W3 []) (hW:Ext S W [R,aO Aa ca 90 2 H (encL TClaim_cells2 d)]) :
  Calls Tryz.prog 112 [.slice Aa H ca,.func (.func fid1) fst1.toArray caps1.toArray].toArray W fun e W2=>∃x:Nat × List (Hd × TC),(x.1=res.length∧NestP (fun z:TC=>z.fO) x.2 res∧∀y∈x.2,y∈d)∧e=.returned (.slice Aa x.1 ca)∧Ext S W2 [R,aO Aa ca 90 2 x.1 (encL TClaim_cells2 x.2)]:=by
 subst Z
 unfold bJ at h
 refine ff (m:=42) Tryz.func112 O O (nB O) hW (cS (cR (oY O (yAS O) (oN (eT (cS (cR (oY O (yMS O) (oY O (iO (v:=.func (.func fid1) fst1.toArray caps1.toArray) O) ?_)))))))))
 obtain⟨c,t,h⟩:=bOs h
 refine oY O (yC [.slice Aa p0.length ca,.func (.func fid1) fst1.toArray caps1.toArray] go_139 O (fun W2 u=>fb p0 p1 c t W2 Aa p0.length ca d O ((RdL.row 1 O) W2 u) (NestL.at (PvL.nestL D (PvL.sub I (fun y hy=>hy)) (fun W2 u=>⟨u.below,u.mem (i:=0) O⟩)) W2 u) fid1 fst1 caps1 U (fun W3 hb=>X W3 (fy u.below hb) ((u.below' hb).mem (i:=0) O))) O) (oY O (yAI O) (oN (eT (cS (cS (cR (oY O (yMI O) (oY O (ig O O) (oN (eT ?_))))))))))
 rcases iOs h with⟨V,h⟩|⟨V,h⟩
 ·refine cT (vB V) (cS (cR (oY O (yMS O) (oY O (yAS O) (oN (eT (ak (ab ?_))))))))
  obtain rfl:=sI h
  exact am (.inl O) O (rVt (v:=.slice Aa p0.length ca) O) (fun W2 u=>⟨(p0.length,d),⟨O,D,(fun y hy=>hy)⟩,O,u.take 2⟩)
 ·refine cF (vB V) (cK (eT (cS (cS (cR (oY O (yMI O) (oY O (bc O O) (oY O (yAI O) (oN (eT (cB ?_)))))))))))
  obtain⟨a,q,h⟩:=bOs h
  refine bF (fun(s:(Int × Int × (List TC))) L tm=>∃(k:Nat→Value) (E:List (Hd × TC)),p0.length=s.2.2.length∧NestP (fun z:TC=>z.fO) E s.2.2∧(∀y∈E,y∈d)∧L=[R,aO Aa ca 90 2 p0.length (encL TClaim_cells2 E)]∧tm=(upd (upd (upd (upd (upd k 0 (.slice Aa p0.length ca)) 1 (.func (.func fid1) fst1.toArray caps1.toArray)) 4 (.slice none 0 0)) 5 (vI s.1)) 6 (vI s.2.1))) 0 q ⟨_,d,O,D,(fun y hy=>hy),O,(kp4 (kp O))⟩ ?_ ?_
  ·rintro g L tm st ⟨n,f,r,o,hS1_s6,rfl,rfl⟩ h
   unfold bn at h
   refine cS (cS (cR (oY O (yMI O) (oY O (yMS O) (oY O (bd (us:=[]) dQ O) (oY O (bA O O) (oN (eT ?_))))))))
   rcases iOs h with⟨T,h⟩|⟨T,h⟩
   ·refine cT (vB T) (cK (eT (cS (cB (cS (cR (oY O (yMS O) (oY O (yMI O) ?_))))))))
    obtain⟨w,h⟩:=gOs h
    refine oY O (yI dY (by decide) w.1 w.2 (RdL.row 1 O) (eL aa (NestP.hn o r)) O O) ?_
    refine oY O (yM (A:=Aa) (j:=(Int.toNat g.2.1*2)) [vI ((rdL g.2.2 g.2.1).fID),.slice ((rdL f g.2.1).1.1) ((rdL g.2.2 g.2.1).fO.length) ((rdL f g.2.1).1.2.2)] lX (Nat.succ_pos _) (RdL.row 1 O) O (iL (a6 (NestP.snd o g.2.1) (NestP.len o w.1 (ao w.2 r))).symm (aM aa w.1 (ao w.2 (NestP.hn o r))))) ?_
    refine aC gR O (fun f0=>?_)
    refine cr O (yS 2 [vI ((rdL g.2.2 g.2.1).fID),.slice ((rdL f g.2.1).1.1) ((rdL g.2.2 g.2.1).fO.length) ((rdL f g.2.1).1.2.2)] rY O (nB O) O O O) (oN (eT (cS (cR (oY O (iO (v:=.func (.func fid1) fst1.toArray caps1.toArray) O) (oY O (yN 2 [vI ((rdL g.2.2 g.2.1).fID),.slice ((rdL f g.2.1).1.1) ((rdL g.2.2 g.2.1).fO.length) ((rdL f g.2.1).1.2.2)] lX O O O) ?_))))))
    obtain⟨b,p,h⟩:=bOs h
    refine oY O (iH [.agg #[vI ((rdL g.2.2 g.2.1).fID),.slice ((rdL f g.2.1).1.1) ((rdL g.2.2 g.2.1).fO.length) ((rdL f g.2.1).1.2.2)]] U O O (fun W2 u=>X W2 u.below (u.mem (i:=0) O) (TC.mk ((rdL g.2.2 g.2.1).fID) ((rdL g.2.2 g.2.1).fO)) ((rdL f g.2.1).1.1,0,(rdL f g.2.1).1.2.2) ((NestL.rd (PvL.nestL o (PvL.sub I hS1_s6) (fun W2 u=>⟨u.below,u.mem (i:=0) O⟩)) w.1 (ao w.2 r)) W2 u) b p)) (oY O (fe O) (oN (eT ?_)))
    rcases iOs h with⟨K,h⟩|⟨K,h⟩
    ·refine cT (vB K) (cS (cR (oY O (yMS O) (oY O (yMI O) (oY O (yN 2 [vI ((rdL g.2.2 g.2.1).fID),.slice ((rdL f g.2.1).1.1) ((rdL g.2.2 g.2.1).fO.length) ((rdL f g.2.1).1.2.2)] lX O O O) ?_)))))
     obtain⟨F,h⟩:=gOs h
     refine oY O (yI dY (by decide) F.1 F.2 (RdL.row 1 O) (eL aa (NestP.hn o r)) O O) ?_
     refine cr O (y_storeRN 1 (xs:=f) [vI ((rdL g.2.2 g.2.1).fID),.slice ((rdL f g.2.1).1.1) ((rdL g.2.2 g.2.1).fO.length) ((rdL f g.2.1).1.2.2)] aa (Nat.succ_pos _) (((rdL f g.2.1).1.1,(rdL g.2.2 g.2.1).fO.length,(rdL f g.2.1).1.2.2),(TC.mk ((rdL g.2.2 g.2.1).fID) ((rdL g.2.2 g.2.1).fO))) rY O F.1 (ao F.2 (NestP.hn o r)) O O O O) (oN (eT (cR (oY O (yMI O) (oY O (bc O O) (oY O (yAI O) (oN (aq (eT (cR (oY O (yMI O) (oY O (bc O O) (oY O (yAI O) (oN (aS 2 ?_)))))))))))))))
     obtain rfl:=sI h
     exact eN ⟨_,(f.set (Int.toNat g.1) (((rdL f g.2.1).1.1,(rdL g.2.2 g.2.1).fO.length,(rdL f g.2.1).1.2.2),(TC.mk ((rdL g.2.2 g.2.1).fID) ((rdL g.2.2 g.2.1).fO)))),(lL r),(NestP.set _ o O O),(mem_setS hS1_s6 (NestP.memS o hS1_s6 w.1 (ao w.2 r))),O,(kp4 (kp O))⟩
    ·refine cF (vB K) (cK (aq (eT (cR (oY O (yMI O) (oY O (bc O O) (oY O (yAI O) (oN (aS 2 ?_)))))))))
     obtain rfl:=sI h
     exact eN ⟨_,f,r,o,hS1_s6,O,(kp4 (kp O))⟩
   ·refine cF (vB T) (aK (ah ?_))
    obtain rfl:=sI h
    exact ay ⟨O,_,f,r,o,hS1_s6,O,(kp4 (kp O))⟩
  ·intro e L tm hJ
   obtain⟨rfl,l,M,N,Q,hS1_u7,rfl,rfl⟩:=hJ
   refine⟨(by intro hc;cases hc),?_⟩
   refine ag (eT (cS (cR (oY O (yMS O) (oY O (yMI O) ?_)))))
   obtain⟨Y,h⟩:=gOs h
   refine oY O (y_cutL dY Y.1 Y.2 (RdL.row 1 O) O O) ?_
   obtain⟨G,h⟩:=gOs h
   refine cr O (y_clearH 1 dQ gR O (by decide) O aa O G.1 G.2 O) ?_
   refine oN (eT (cS (cR (oY O (yMS O) (oY O (yMI O) (oY O (y_cutHc dY G.1 (fun W2 u=>(eU (u.mem (i:=1) O)).cap) O O) (oY O (yAS O) (oN (eT (ak ?_))))))))))
   obtain rfl:=sI h
   exact am (.inl O) O (rVt (v:=.slice Aa (Int.toNat a.1) ca) O) (fun W2 u=>⟨(Int.toNat a.1,(M.take (Int.toNat a.1))),⟨(cutH_len G.2 N),(NestP.take _ Q),(mem_takeS hS1_u7)⟩,O,u.take 2⟩)
theorem ni (p0:TC) (o:(List Int)) (res:Bool) (h:fx p0 o=some res) (W:World) (Ab:Option Addr) (u cb:Nat) (D:u=p0.fO.length) (H:Rd W Ab u cb (encL THop_cells p0.fO)) (E:Nat) (f:Option Addr) (r g:Nat) (d:r=o.length) (w:Rd W f r g (encL cI o)) (F:Rd W (some ⟨E,0,none⟩) 1 1 [.slice f r g]) :
  Calls Tryz.prog 113 [.agg #[vI p0.fID,.slice Ab u cb],.pointer (some ⟨E,0,none⟩)].toArray W fun e W2=>e=.returned (.bool res)∧Ext W W2 []:=by
 subst D
 subst d
 unfold fx at h
 refine ae (m:=8) Tryz.func113 O O (nB O) (cS (cR ?_))
 refine aP [vI p0.fID,.slice Ab p0.fO.length cb] O O O (fun M=>?_)
 refine oY O (yAB O) (oN (eT (cS (cR (oY O (yR (A:=(some ⟨E,0,none⟩)) (j:=0) (v:=.slice f o.length g) q8 (RdL.arg F) O O) (oY O (yFA fh O) (oY O (yL 0 bN O O O) ?_)))))))
 obtain⟨K,I,h⟩:=bOs h
 refine oY O (yC [.slice f o.length g,vI p0.fID] go_80 O (fun W2 G=>dX o p0.fID K I W2 f o.length g O ((RdL.arg w) W2 G)) O) (oY O (yAB O) (oN (eT (ak ?_))))
 obtain rfl:=sI h
 exact am (.inl O) O (rVt (v:=.bool K) O) (fun W2 G=>⟨O,G.none⟩)
theorem oM (p0:TL) (p1:(List Int)) (res:(TL × Int)) (h:gK p0 p1=some res) (W:World) (Aa:Option Addr) (H ca:Nat) (Z:H=p0.fNo.length) (w:Rd W Aa H ca (encL TNode_cells p0.fNo)) (Ab:Option Addr) (I cb:Nat) (o:List (Hd × TC)) (V:I=p0.fC.length) (D:Rd W Ab I cb (encL TClaim_cells2 o)) (E:NestW W (fun z:TC=>z.fO) THop_cells o p0.fC) (Ac:Option Addr) (K cc:Nat) (T:K=p1.length) (M:Rd W Ac K cc (encL cI p1)) (wb:World) (Hb:World→Prop) (hB:∀W3,Below W.heap.size W W3→Below wb.heap.size wb W3∧Hb W3) (S:PvL (fun z:TC=>z.fO) THop_cells wb Hb o) :
  Calls Tryz.prog 54 [.agg #[.slice Aa H ca,.slice Ab I cb],.slice Ac K cc].toArray W fun e W2=>∃x:((Option Addr × Nat × Nat) × (Option Addr × Nat × Nat) × (List (Hd × TC)) × Res),(x.1.2.1=res.1.fNo.length∧x.2.1.2.1=res.1.fC.length∧NestP (fun z:TC=>z.fO) x.2.2.1 res.1.fC∧PvL (fun z:TC=>z.fO) THop_cells wb (fun W4=>Hb W4∧Res.holds x.2.2.2 W4) x.2.2.1)∧e=.returned (.tuple #[.agg #[.slice x.1.1 x.1.2.1 x.1.2.2,.slice x.2.1.1 x.2.1.2.1 x.2.1.2.2],vI res.2])∧Ext W W2 [aO x.1.1 x.1.2.2 97 3 x.1.2.1 (encL TNode_cells res.1.fNo),aO x.2.1.1 x.2.1.2.2 90 2 x.2.1.2.1 (encL TClaim_cells2 x.2.2.1),x.2.2.2]:=by
 subst Z
 subst V
 subst T
 unfold gK at h
 refine ae (m:=27) Tryz.func54 O O (nB O) (cS (cR ?_))
 refine aP [.slice Aa p0.fNo.length ca,.slice Ab p0.fC.length cb] O O O (fun b1=>?_)
 refine aP [.slice Ac p1.length cc] O O O (fun p=>?_)
 refine aC ft O (fun b3=>?_)
 refine oY O (yAI O) (oN (eT (cS (cS (cR (oY O (yN 0 [.slice Aa p0.fNo.length ca,.slice Ab p0.fC.length cb] aF O O O) ?_))))))
 obtain⟨y4,j,h⟩:=bOs h
 refine oY O (yC [.agg #[.slice Aa p0.fNo.length ca,.slice Ab p0.fC.length cb]] sB O (fun W2 f=>dm p0 y4 j W2 Aa p0.fNo.length ca O ((RdL.arg w) W2 f) Ab p0.fC.length cb o O ((RdL.arg D) W2 f) (NestL.at (NestL.arg E) W2 f)) O) (oY O (yAI O) (oN (eT (cS (cR (oY O (yMI O) (oY O (dD O O) (oN (eT ?_)))))))))
 rcases iOs h with⟨R,h⟩|⟨R,h⟩
 ·refine cT (vB R) (cS (cR ?_))
  refine oY O (aI [.slice none 0 0,.slice none 0 0] [(0,1),(1,1)] kg ft (by kernel_rfl)) ?_
  refine oY O (yMI O) (cr O (yS 2 [.slice none 0 0,.slice none 0 0] gN O (nB O) O O O) (oY O (yAI O) (oN (eT (ak (ab ?_))))))
  obtain rfl:=sI h
  exact bx (.inl O) O (aH 2 [.slice none 0 0,.slice none 0 0] aF O O O) (rVt (v:=vI y4) O) (fun W2 f=>⟨((none,0,0),(none,0,0),[],noR),⟨O,O,NestP.nil,PvL.nil⟩,O,((f.nilrow 97 3).nilrow 90 2).addNo.pickL [3,4,5] (by decide) O⟩)
 ·refine cF (vB R) (cK (eT (cS (cS (cR (oY O (yN 0 [.slice Aa p0.fNo.length ca,.slice Ab p0.fC.length cb] aF O O O) (oY O (yL 1 q8 O O O) ?_)))))))
  obtain⟨y7,k,h⟩:=bOs h
  refine oY O (yC [.agg #[.slice Aa p0.fNo.length ca,.slice Ab p0.fC.length cb],.slice Ac p1.length cc] go_98 O (fun W2 f=>oX p0 p1 y7 k W2 Aa p0.fNo.length ca O ((RdL.arg w) W2 f) Ab p0.fC.length cb o O ((RdL.arg D) W2 f) (NestL.at (NestL.arg E) W2 f) Ac p1.length cc O ((RdL.arg M) W2 f)) O) (oY O (fe O) (oN (eT ?_)))
  rcases iOs h with⟨q,h⟩|⟨q,h⟩
  ·refine cT (vB q) (cS (cR ?_))
   refine oY O (aI [.slice none 0 0,.slice none 0 0] [(0,1),(1,1)] kg ft (by kernel_rfl)) ?_
   refine cr O (yS 2 [.slice none 0 0,.slice none 0 0] gN O (nB O) O O O) (oY O (yAI O) (oN (eT (ak (ab ?_)))))
   obtain rfl:=sI h
   exact bx (.inl O) O (aH 2 [.slice none 0 0,.slice none 0 0] aF O O O) (rVt (v:=vI 1) O) (fun W2 f=>⟨((none,0,0),(none,0,0),[],noR),⟨O,O,NestP.nil,PvL.nil⟩,O,((f.nilrow 97 3).nilrow 90 2).addNo.pickL [3,4,5] (by decide) O⟩)
  ·refine cF (vB q) (cK (eT (cS (cR (oY O (yN 0 [.slice Aa p0.fNo.length ca,.slice Ab p0.fC.length cb] aF O O O) ?_)))))
   obtain⟨g,n,h⟩:=bOs h
   refine oC [.agg #[.slice Aa p0.fNo.length ca,.slice Ab p0.fC.length cb]] _ _ _ O go_111 O (fun W2 f=>gS p0 g n W2 Aa p0.fNo.length ca O ((RdL.arg w) W2 f) Ab p0.fC.length cb o O ((RdL.arg D) W2 f) (NestL.at (NestL.arg E) W2 f) wb Hb (fun W3 hb=>hB W3 (fy f.below hb)) S) ?_
   rintro⟨⟨F,b,G⟩,⟨r,c,u⟩,N,F26⟩ ⟨Q,U,l,Y⟩
   replace Q:b=g.fNo.length:=Q;subst Q
   replace U:c=g.fC.length:=U;subst U
   try dsimp only[lna,lca,lsz,lss]
   refine aC ft O (fun f0=>?_)
   try dsimp only[lna,lca,lsz,lss]
   refine cr O (yS 6 [.slice F g.fNo.length G,.slice r g.fC.length u] gN O (nB O) O O O) (oN (eT (cS (cR (oY O (yFA aD O) (oY O (yL 6 bT O O O) (oY O (eS [.pointer (some ⟨p,0,none⟩)] O O) ?_)))))))
   obtain⟨d,t,h⟩:=bOs h
   refine jG 4 [.slice r g.fC.length u,.func (.func 113) #[] #[.pointer (some ⟨p,0,none⟩)]] (fun x:Nat × List (Hd × TC)=>x.1=d.length∧NestP (fun z:TC=>z.fO) x.2 d∧∀y∈x.2,y∈N) (fun x=>.slice r x.1 u) (fun x=>aO r u 90 2 x.1 (encL TClaim_cells2 x.2)) (fun _=>[]) O O go_112 O (fun W2 f=>(iW g.fC (fun f1=>fx f1 p1) d t W2 _ (mw [aj b1 25 [.slice Aa p0.fNo.length ca,.slice Ab p0.fC.length cb],aj p 26 [.slice Ac p1.length cc],aj b3 25 [.slice none 0 0,.slice none 0 0],aO F G 97 3 g.fNo.length (encL TNode_cells g.fNo),aO r u 90 2 g.fC.length (encL TClaim_cells2 N),F26,aj f0 25 [.slice F g.fNo.length G,.slice r g.fC.length u]] [4]) r g.fC.length u N O l (fun y hy W3 hb hR=>Y y hy W3 (hB W3 hb).1 ⟨(hB W3 hb).2,hR.1 5 _ (by decide) O⟩) 113 [] [.pointer (some ⟨p,0,none⟩)] go_113 (fun W3 hb hR x hx rx y hxy=>ni  x p1 y hxy W3 hx.1 _ hx.2.2 O rx p Ac p1.length cc O ((RdL.arg M) W3 (f.rest hb hR)) ((RdL.cells 1 O) W3 (f.rest hb hR))) f).mono (fun e W3 h3=>h3)) ?_
   rintro⟨k32,a⟩ ⟨X,i,hS36⟩
   replace X:k32=d.length:=X
   subst X
   try dsimp only[lsz,lss,List.append_nil]
   refine oY O (yFA aD O) (cr O (cn 6 (v:=.slice r d.length u) sz_23 O (Nat.lt_of_lt_of_le (Nat.lt_succ_self _) (nB O)) O O O) (oN (eT (cS (cR (oY O (yN 6 [.slice F g.fNo.length G,.slice r d.length u] aF O O O) (cr O (yS 2 [.slice F g.fNo.length G,.slice r d.length u] gN O (nB O) O O O) (oY O (yAI O) (oN (eT (ak ?_)))))))))))
   obtain rfl:=sI h
   exact bx (.inl O) O (aH 2 [.slice F g.fNo.length G,.slice r d.length u] aF O O O) (rVt (v:=vI 0) O) (fun W2 f=>⟨((F,g.fNo.length,G),(r,d.length,u),a,F26),⟨O,O,i,(PvL.sub Y hS36)⟩,O,f.pickL [3,4,5] (by decide) O⟩)
theorem pB (p0:TL) (p1:(List Int)) (res:TMade) (h:iu p0 p1=some res) (W:World) (Aa:Option Addr) (F ca:Nat) (S:F=p0.fNo.length) (r:Rd W Aa F ca (encL TNode_cells p0.fNo)) (Ab:Option Addr) (G cb:Nat) (g:List (Hd × TC)) (R:G=p0.fC.length) (u:Rd W Ab G cb (encL TClaim_cells2 g)) (d:NestW W (fun z:TC=>z.fO) THop_cells g p0.fC) (Ac:Option Addr) (H cc:Nat) (q:H=p1.length) (w:Rd W Ac H cc (encL cI p1)) (wb:World) (Hb:World→Prop) (hB:∀W3,Below W.heap.size W W3→Below wb.heap.size wb W3∧Hb W3) (I:Pv TNode_cells wb Hb (Aa,F,ca) p0.fNo) (K:PvL (fun z:TC=>z.fO) THop_cells wb Hb g) :
  Calls Tryz.prog 55 [.agg #[.slice Aa F ca,.slice Ab G cb],.slice Ac H cc].toArray W fun e W2=>∃x:((Hd × Res) × (Hd × Res × Res × List (Hd × TC))),(x.1.1.2.1=res.fL.fNo.length∧Pv TNode_cells wb (fun W4=>Hb W4∧Res.holds x.1.2 W4) x.1.1 res.fL.fNo∧x.2.1.2.1=res.fL.fC.length∧Pv TClaim_cells2 wb (fun W4=>Hb W4∧Res.holds x.2.2.1 W4) x.2.1 x.2.2.2.2∧NestP (fun z:TC=>z.fO) x.2.2.2.2 res.fL.fC∧PvL (fun z:TC=>z.fO) THop_cells wb (fun W4=>Hb W4∧Res.holds x.2.2.2.1 W4) x.2.2.2.2)∧e=.returned (.agg #[.slice x.1.1.1 x.1.1.2.1 x.1.1.2.2,.slice x.2.1.1 x.2.1.2.1 x.2.1.2.2,vI res.fE])∧Ext W W2 [x.1.2,x.2.2.1,x.2.2.2.1]:=by
 subst S
 subst R
 subst q
 unfold iu at h
 refine ae (m:=24) Tryz.func55 O O (nB O) (cS (cR ?_))
 refine aP [.slice Aa p0.fNo.length ca,.slice Ab p0.fC.length cb] O O O (fun b1=>?_)
 refine aC jk O (fun b2=>?_)
 refine oN (eT (cS (cR (oY O (yN 0 [.slice Aa p0.fNo.length ca,.slice Ab p0.fC.length cb] aF O O O) ?_))))
 obtain⟨l,f0,h⟩:=bOs h
 refine oY O (yC [.agg #[.slice Aa p0.fNo.length ca,.slice Ab p0.fC.length cb]] go_66 O (fun W2 f=>fF p0 l f0 W2 Aa p0.fNo.length ca O ((RdL.arg r) W2 f) Ab p0.fC.length cb g O ((RdL.arg u) W2 f) (NestL.at (NestL.arg d) W2 f)) O) (oY O (yAI O) (oN (eT (cS (cS (cR (oY O (yMI O) (oY O (ig O O) (oY O (yMB O) ?_)))))))))
 obtain⟨b6,f1,h⟩:=bOs h
 refine oJ 5 (fun t=>(upd (upd (upd (upd (upd t 1 (.slice Ac p1.length cc)) 2 (.pointer (some ⟨b1,0,none⟩))) 4 (.pointer (some ⟨b2,0,none⟩))) 5 (vI l)) 15 (.bool b6))) (fun t=>?_) (fun key=>?_)
 ·refine oN (eT ?_)
  rcases iOs h with⟨p,h⟩|⟨p,h⟩
  ·refine cT (vB p) (cR (oY O (yAI O) (oN (eT (cS (cS (cR (oY O (yMI O) (oY O (dD O O) (oN (eT ?_)))))))))))
   rcases iOs h with⟨n,h⟩|⟨n,h⟩
   ·refine cT (vB n) (cS (cR (oY O (yMI O) ?_)))
    refine oY O (aI [.slice none 0 0,.slice none 0 0,vI 1] [(0,2),(2,1)] iJ jk (by kernel_rfl)) ?_
    refine cr O (yS 1 [.slice none 0 0,.slice none 0 0,vI 1] kZ O (nB O) O O O) (oN (eT (ak (ab ?_))))
    obtain rfl:=sI h
    exact am (.inl O) O (aH 1 [.slice none 0 0,.slice none 0 0,vI 1] mg O O O) (fun W2 f=>⟨(((none,0,0),noR),((none,0,0),noR,noR,[])),⟨O,(Pv.mono (Hb:=Hb) (Pv.nil O) (fun _ _ h=>h.1)),O,(Pv.mono (Hb:=Hb) (Pv.nil O) (fun _ _ h=>h.1)),NestP.nil,(PvL.mono (Hb:=Hb) PvL.nil (fun _ _ h=>h.1))⟩,O,f.addNo.addNo.addNo.pickL [2,3,4] (by decide) O⟩)
   ·refine cF (vB n) (cK (eT (cS (cR (oY O (yN 0 [.slice Aa p0.fNo.length ca,.slice Ab p0.fC.length cb] aF O O O) (oY O (yMS O) ?_))))))
    obtain⟨D,a,h⟩:=bOs h
    refine oC [.agg #[.slice Aa p0.fNo.length ca,.slice Ab p0.fC.length cb],.slice Ac p1.length cc] _ _ _ O go_79 O (fun W2 f=>mm p0 p1 D a W2 Aa p0.fNo.length ca O ((RdL.arg r) W2 f) Ab p0.fC.length cb g O ((RdL.arg u) W2 f) (NestL.at (NestL.arg d) W2 f) Ac p1.length cc O ((RdL.arg w) W2 f) wb Hb (fun W3 hb=>hB W3 (fy f.below hb)) K) ?_
    rintro⟨⟨M,f2,N⟩,V,F22⟩ ⟨Q,i,j⟩
    replace Q:f2=D.fC.length:=Q;subst Q
    refine oY O (aI [.slice Aa p0.fNo.length ca,.slice M D.fC.length N,vI 0] [(0,2),(2,1)] iJ jk (by kernel_rfl)) ?_
    refine cr O (yS 1 [.slice Aa p0.fNo.length ca,.slice M D.fC.length N,vI 0] kZ O (nB O) O O O) (oN (eT (ak ?_)))
    obtain rfl:=sI h
    exact am (.inl O) O (aH 1 [.slice Aa p0.fNo.length ca,.slice M D.fC.length N,vI 0] mg O O O) (fun W2 f=>⟨(((Aa,p0.fNo.length,ca),noR),((M,D.fC.length,N),aO M N 90 2 D.fC.length (encL TClaim_cells2 V),F22,V)),⟨O,(Pv.mono (Hb:=Hb) I (fun _ _ h=>h.1)),O,(fun _ _ h=>eU h.2),i,j⟩,O,f.addNo.pickL [4,2,3] (by decide) O⟩)
  ·refine cF (vB p) (cK (eT (cS (cS (cR (oY O (yMI O) (oY O (dD O O) (oN (eT ?_)))))))))
   rcases iOs h with⟨U,h⟩|⟨U,h⟩
   ·refine cT (vB U) (cS (cR (oY O (yMI O) ?_)))
    refine oY O (aI [.slice none 0 0,.slice none 0 0,vI l] [(0,2),(2,1)] iJ jk (by kernel_rfl)) ?_
    refine cr O (yS 1 [.slice none 0 0,.slice none 0 0,vI l] kZ O (nB O) O O O) (oN (eT (ak (ab ?_))))
    obtain rfl:=sI h
    exact am (.inl O) O (aH 1 [.slice none 0 0,.slice none 0 0,vI l] mg O O O) (fun W2 f=>⟨(((none,0,0),noR),((none,0,0),noR,noR,[])),⟨O,(Pv.mono (Hb:=Hb) (Pv.nil O) (fun _ _ h=>h.1)),O,(Pv.mono (Hb:=Hb) (Pv.nil O) (fun _ _ h=>h.1)),NestP.nil,(PvL.mono (Hb:=Hb) PvL.nil (fun _ _ h=>h.1))⟩,O,f.addNo.addNo.addNo.pickL [2,3,4] (by decide) O⟩)
   ·refine cF (vB U) (cK (eT (cS (cR (oY O (yN 0 [.slice Aa p0.fNo.length ca,.slice Ab p0.fC.length cb] aF O O O) (oY O (yMS O) ?_))))))
    obtain⟨E,k,h⟩:=bOs h
    refine oC [.agg #[.slice Aa p0.fNo.length ca,.slice Ab p0.fC.length cb],.slice Ac p1.length cc] _ _ _ O go_79 O (fun W2 f=>mm p0 p1 E k W2 Aa p0.fNo.length ca O ((RdL.arg r) W2 f) Ab p0.fC.length cb g O ((RdL.arg u) W2 f) (NestL.at (NestL.arg d) W2 f) Ac p1.length cc O ((RdL.arg w) W2 f) wb Hb (fun W3 hb=>hB W3 (fy f.below hb)) K) ?_
    rintro⟨⟨X,f3,Y⟩,T,F37⟩ ⟨Z,y,b⟩
    replace Z:f3=E.fC.length:=Z;subst Z
    refine oY O (aI [.slice Aa p0.fNo.length ca,.slice X E.fC.length Y,vI 0] [(0,2),(2,1)] iJ jk (by kernel_rfl)) ?_
    refine cr O (yS 1 [.slice Aa p0.fNo.length ca,.slice X E.fC.length Y,vI 0] kZ O (nB O) O O O) (oN (eT (ak ?_)))
    obtain rfl:=sI h
    exact am (.inl O) O (aH 1 [.slice Aa p0.fNo.length ca,.slice X E.fC.length Y,vI 0] mg O O O) (fun W2 f=>⟨(((Aa,p0.fNo.length,ca),noR),((X,E.fC.length,Y),aO X Y 90 2 E.fC.length (encL TClaim_cells2 T),F37,T)),⟨O,(Pv.mono (Hb:=Hb) I (fun _ _ h=>h.1)),O,(fun _ _ h=>eU h.2),y,b⟩,O,f.addNo.pickL [4,2,3] (by decide) O⟩)
 ·clear h;rcases iOs f1 with⟨o,h⟩|⟨o,h⟩
  ·refine oY (sT O O O O o) (yN 0 [.slice Aa p0.fNo.length ca,.slice Ab p0.fC.length cb] aF O O O) (oY (sT O O O O o) (yMS O) ?_)
   obtain⟨f4,c,h⟩:=bOs h
   refine oY (sT O O O O o) (yC [.agg #[.slice Aa p0.fNo.length ca,.slice Ab p0.fC.length cb],.slice Ac p1.length cc] go_99 O (fun W2 f=>qL p0 p1 f4 c W2 Aa p0.fNo.length ca O ((RdL.arg r) W2 f) Ab p0.fC.length cb g O ((RdL.arg u) W2 f) (NestL.at (NestL.arg d) W2 f) Ac p1.length cc O ((RdL.arg w) W2 f)) O) (oY (sT O O O O o) (fe O) (oY O (aw (vB o) O) ?_))
   obtain rfl:=sI h
   exact key _ _ (kp4 (kp O))
  ·refine oSk (sF O O O O o) (oSk (sF O O O O o) (oSk (sF O O O O o) (oSk (sF O O O O o) (oY O (av (vB o) O) ?_))))
   obtain rfl:=sI h
   exact key _ _ (kp4 (kp O))
theorem l5 (p0:(List TH)) (p1:(List TH)) (res:Bool) (h:eP p0 p1=some res) (W:World) (Aa:Option Addr) (f ca:Nat) (E:f=p0.length) (g:Rd W Aa f ca (encL THop_cells p0)) (Ac:Option Addr) (o cc:Nat) (F:o=p1.length) (r:Rd W Ac o cc (encL THop_cells p1)) :
  Calls Tryz.prog 145 [.slice Aa f ca,.slice Ac o cc].toArray W fun e W2=>e=.returned (.bool res)∧Ext W W2 []:=by
 subst E
 subst F
 unfold eP at h
 refine ae (m:=26) Tryz.func145 O O (nB O) (cS (cR (oY O (yAB O) (oN (eT (cS (cS (cR (oY O (yMS O) (oY O (bd (us:=[]) fZ O) (oY O (yMS O) (oY O (bd (us:=[]) fZ O) (oY O (dD O O) (oN (eT ?_)))))))))))))))
 rcases iOs h with⟨G,h⟩|⟨G,h⟩
 ·refine cT (vB G) (cS (cR (oY O (yAB O) (oN (eT (ak (ab ?_)))))))
  obtain rfl:=sI h
  exact am (.inl O) O (rVt (v:=.bool false) O) (fun W2 u=>⟨O,u.none⟩)
 ·refine cF (vB G) (cK (eT (cS (cS (cR (oY O (yMS O) (oY O (bd (us:=[]) fZ O) (oY O (yMI O) (oN (eT (cB ?_)))))))))))
  obtain⟨Y,Q,h⟩:=bOs h
  refine bW (fun(s:(Bool × Int)) L tm=>∃(U:Nat→Value),L=[]∧tm=(upd (upd (upd (upd (upd U 0 (.slice Aa p0.length ca)) 1 (.slice Ac p1.length cc)) 4 (.bool s.1)) 12 (vI (p0.length:Int))) 13 (vI s.2))) 0 Q ⟨_,O,(kp4 (kp O))⟩ ?_ ?_
  ·rintro d L tm st ⟨N,rfl,rfl⟩ h
   unfold iv at h
   refine cS (cR (oY O (bA O O) (oN (eT (cS ?_)))))
   rcases iOs h with⟨H,h⟩|⟨H,h⟩
   ·refine cT (vB H) (cK (eT (cS (cB (cS (cR (oY O (yMI O) (oY O (yAI O) (oN (eT (cS ?_)))))))))))
    refine aU 9 cD (by kernel_rfl) (by kernel_rfl) ?_
    refine qY O (yMS O) (qY O (yMI O) ?_)
    obtain⟨w,h⟩:=gOs h
    refine qY O (yI lw (by decide) w.1 w.2 (RdL.arg g) (eL au O) O O) ?_
    refine qY O (yM (A:=Aa) (j:=(Int.toNat d.2*2)) [vI ((rdL p0 d.2).fFrom),vI ((rdL p0 d.2).fTo)] lW (Nat.succ_pos _) (RdL.arg g) O (aM au w.1 (ao w.2 O))) (qY O (yMS O) (qY O (yMI O) ?_))
    obtain⟨D,h⟩:=gOs h
    refine qY O (yI lw (by decide) D.1 D.2 (RdL.arg r) (eL au O) O O) ?_
    refine qY O (yM (A:=Ac) (j:=(Int.toNat d.2*2)) [vI ((rdL p1 d.2).fFrom),vI ((rdL p1 d.2).fTo)] lW (Nat.succ_pos _) (RdL.arg r) O (aM au D.1 (ao D.2 O))) (qY O (ru (b:=(((rdL p0 d.2).fFrom==(rdL p1 d.2).fFrom)&&((rdL p0 d.2).fTo==(rdL p1 d.2).fTo))) eg_111 O O (fun _=>(eqS2 fl_111 (ep bN O) (ep bN O) (ep bN O) (ep bN O) (run_equalIn_int _ _ _ _ _ _ _ pQ) (run_equalIn_int _ _ _ _ _ _ _ pQ)))) (ck (oN (eT ?_))))
    rcases iOs h with⟨I,h⟩|⟨I,h⟩
    ·refine cT (vB I) (cS (cR (oY O (yAB O) (oN (eT (ak (ai (ab ?_))))))))
     obtain rfl:=sI h
     exact ay ⟨O,_,O,(kp4 (kp O))⟩
    ·refine cF (vB I) (cK (aq (eT (cR (oY O (bc O O) (oY O (yMI O) (oN ?_)))))))
     obtain rfl:=sI h
     exact eN ⟨_,O,(kp4 (kp O))⟩
   ·refine cF (vB H) (aK (ah ?_))
    obtain rfl:=sI h
    exact ay ⟨O,_,O,(kp4 (kp O))⟩
  ·intro e L tm hJ
   rcases Y with X|Z
   ·dsimp only at h hJ
    obtain⟨rfl,K,rfl,rfl⟩:=hJ
    refine⟨(by intro hc;cases hc),?_⟩
    refine ai (ab ?_)
    obtain rfl:=sI h
    exact am (.inl O) O (rVt (v:=.bool X.1) O) (fun W2 u=>⟨O,u.none⟩)
   ·dsimp only at h hJ
    obtain⟨rfl,M,rfl,rfl⟩:=hJ
    refine⟨(by intro hc;cases hc),?_⟩
    refine ag (eT (cS (cR (oY O (yAB O) (oN (eT (ak ?_)))))))
    obtain rfl:=sI h
    exact am (.inl O) O (rVt (v:=.bool true) O) (fun W2 u=>⟨O,u.none⟩)
theorem q6 (p0:TC) (p1:TC) (res:Bool) (h:kJ p0 p1=some res) (W:World) (Ab:Option Addr) (r cb:Nat) (w:r=p0.fO.length) (D:Rd W Ab r cb (encL THop_cells p0.fO)) (g:Option Addr) (u o:Nat) (E:u=p1.fO.length) (F:Rd W g u o (encL THop_cells p1.fO)) :
  Calls Tryz.prog 115 [.agg #[vI p0.fID,.slice Ab r cb],.agg #[vI p1.fID,.slice g u o]].toArray W fun e W2=>e=.returned (.bool res)∧Ext W W2 []:=by
 subst w
 subst E
 unfold kJ at h
 refine ae (m:=17) Tryz.func115 O O (nB O) (cS (cR ?_))
 refine aP [vI p0.fID,.slice Ab p0.fO.length cb] O O O (fun N=>?_)
 refine aP [vI p1.fID,.slice g p1.fO.length o] O O O (fun Q=>?_)
 refine oY O (yAB O) (oN (eT (cS (cR (oY O (yFA fh O) (oY O (yL 0 bN O O O) (oY O (yFA fh O) (oY O (yL 1 bN O O O) (oY O (ig O O) (oY O (yMB O) ?_))))))))))
 obtain⟨K,H,h⟩:=bOs h
 refine oJ 6 (fun G=>(upd (upd G 4 (.bool false)) 16 (.bool K))) (fun G=>?_) (fun key=>?_)
 ·refine oY O (yAB O) (oN (eT (ak ?_)))
  obtain rfl:=sI h
  exact am (.inl O) O (rVt (v:=.bool K) O) (fun W2 d=>⟨O,d.none⟩)
 ·clear h;rcases iOs H with⟨f,h⟩|⟨f,h⟩
  ·refine oY (sT O O O O f) (yFA bQ O) (oY (sT O O O O f) (yL 0 gL O O O) (oY (sT O O O O f) (yFA bQ O) (oY (sT O O O O f) (yL 1 gL O O O) ?_)))
   obtain⟨M,I,h⟩:=bOs h
   refine oY (sT O O O O f) (yC [.slice Ab p0.fO.length cb,.slice g p1.fO.length o] go_145 O (fun W2 d=>l5 p0.fO p1.fO M I W2 Ab p0.fO.length cb O ((RdL.arg D) W2 d) g p1.fO.length o O ((RdL.arg F) W2 d)) O) (oY O (aw (vB f) O) ?_)
   obtain rfl:=sI h
   exact key _ _ (kp (kp O))
  ·refine oSk (sF O O O O f) (oSk (sF O O O O f) (oSk (sF O O O O f) (oSk (sF O O O O f) (oSk (sF O O O O f) (oY O (av (vB f) O) ?_)))))
   obtain rfl:=sI h
   exact key _ _ (kp (kp O))
end Go.Proofs.YtbblpokfbmekfaaGreat
set_option maxHeartbeats 4000000
set_option maxRecDepth 100000
namespace Go.Proofs.YtbblpokfbmekfaaGreat
open Go.RowKit (Below)
attribute [local irreducible] OX QX CX EX OpY Calls CallsIn
theorem qV (p0:TL) (p1:TL) (res:(TL × Int)) (h:kD p0 p1=some res) (W:World) (Aa:Option Addr) (g1 ca:Nat) (u3:g1=p0.fNo.length) (X:Rd W Aa g1 ca (encL TNode_cells p0.fNo)) (Ab:Option Addr) (g2 cb:Nat) (w:List (Hd × TC)) (u4:g2=p0.fC.length) (Y:Rd W Ab g2 cb (encL TClaim_cells2 w)) (G:NestW W (fun z:TC=>z.fO) THop_cells w p0.fC) (Ac:Option Addr) (g3 cc:Nat) (u5:g3=p1.fNo.length) (gf:Rd W Ac g3 cc (encL TNode_cells p1.fNo)) (K:Option Addr) (o0 M:Nat) (V:List (Hd × TC)) (u6:o0=p1.fC.length) (o1:Rd W K o0 M (encL TClaim_cells2 V)) (o2:NestW W (fun z:TC=>z.fO) THop_cells V p1.fC) (wb:World) (Hb:World→Prop) (hB:∀W3,Below W.heap.size W W3→Below wb.heap.size wb W3∧Hb W3) (u7:PvL (fun z:TC=>z.fO) THop_cells wb Hb w) (u8:PvL (fun z:TC=>z.fO) THop_cells wb Hb V) :
  Calls Tryz.prog 56 [.agg #[.slice Aa g1 ca,.slice Ab g2 cb],.agg #[.slice Ac g3 cc,.slice K o0 M]].toArray W fun e W2=>∃x:((Option Addr × Nat × Nat) × (Option Addr × Nat × Nat) × (List (Hd × TC)) × Res),(x.1.2.1=res.1.fNo.length∧x.2.1.2.1=res.1.fC.length∧NestP (fun z:TC=>z.fO) x.2.2.1 res.1.fC∧PvL (fun z:TC=>z.fO) THop_cells wb (fun W4=>Hb W4∧Res.holds x.2.2.2 W4) x.2.2.1)∧e=.returned (.tuple #[.agg #[.slice x.1.1 x.1.2.1 x.1.2.2,.slice x.2.1.1 x.2.1.2.1 x.2.1.2.2],vI res.2])∧Ext W W2 [aO x.1.1 x.1.2.2 97 3 x.1.2.1 (encL TNode_cells res.1.fNo),aO x.2.1.1 x.2.1.2.2 90 2 x.2.1.2.1 (encL TClaim_cells2 x.2.2.1),x.2.2.2]:=by
 subst u3
 subst u4
 subst u5
 subst u6
 unfold kD at h
 refine ae (m:=110) Tryz.func56 O O (nB O) (cS (cR ?_))
 refine aP [.slice Aa p0.fNo.length ca,.slice Ab p0.fC.length cb] O O O (fun b1=>?_)
 refine aP [.slice Ac p1.fNo.length cc,.slice K p1.fC.length M] O O O (fun b2=>?_)
 refine aC ft O (fun b3=>?_)
 refine oY O (yAI O) (oN (eT (cS (cS (cR (oY O (yN 0 [.slice Aa p0.fNo.length ca,.slice Ab p0.fC.length cb] aF O O O) ?_))))))
 obtain⟨y4,ul,h⟩:=bOs h
 refine oY O (yC [.agg #[.slice Aa p0.fNo.length ca,.slice Ab p0.fC.length cb]] sB O (fun W2 g=>dm p0 y4 ul W2 Aa p0.fNo.length ca O ((RdL.arg X) W2 g) Ab p0.fC.length cb w O ((RdL.arg Y) W2 g) (NestL.at (NestL.arg G) W2 g)) O) (oY O (yAI O) (oN (eT (cS (cR (oY O (yMI O) (oY O (dD O O) (oN (eT ?_)))))))))
 rcases iOs h with⟨u9,h⟩|⟨u9,h⟩
 ·refine cT (vB u9) (cS (cR ?_))
  refine oY O (aI [.slice none 0 0,.slice none 0 0] [(0,1),(1,1)] kg ft (by kernel_rfl)) ?_
  refine oY O (yMI O) (cr O (yS 2 [.slice none 0 0,.slice none 0 0] gN O (nB O) O O O) (oY O (yAI O) (oN (eT (ak (ab ?_))))))
  obtain rfl:=sI h
  exact bx (.inl O) O (aH 2 [.slice none 0 0,.slice none 0 0] aF O O O) (rVt (v:=vI y4) O) (fun W2 g=>⟨((none,0,0),(none,0,0),[],noR),⟨O,O,NestP.nil,PvL.nil⟩,O,((g.nilrow 97 3).nilrow 90 2).addNo.pickL [3,4,5] (by decide) O⟩)
 ·refine cF (vB u9) (cK (eT (cS (cS (cR (oY O (yN 1 [.slice Ac p1.fNo.length cc,.slice K p1.fC.length M] aF O O O) ?_))))))
  obtain⟨y7,ut,h⟩:=bOs h
  refine oY O (yC [.agg #[.slice Ac p1.fNo.length cc,.slice K p1.fC.length M]] sB O (fun W2 g=>dm p1 y7 ut W2 Ac p1.fNo.length cc O ((RdL.arg gf) W2 g) K p1.fC.length M V O ((RdL.arg o1) W2 g) (NestL.at (NestL.arg o2) W2 g)) O) (oY O (yAI O) (oN (eT (cS (cR (oY O (yMI O) (oY O (dD O O) (oN (eT ?_)))))))))
  rcases iOs h with⟨uf,h⟩|⟨uf,h⟩
  ·refine cT (vB uf) (cS (cR ?_))
   refine oY O (aI [.slice none 0 0,.slice none 0 0] [(0,1),(1,1)] kg ft (by kernel_rfl)) ?_
   refine oY O (yMI O) (cr O (yS 2 [.slice none 0 0,.slice none 0 0] gN O (nB O) O O O) (oY O (yAI O) (oN (eT (ak (ab ?_))))))
   obtain rfl:=sI h
   exact bx (.inl O) O (aH 2 [.slice none 0 0,.slice none 0 0] aF O O O) (rVt (v:=vI y7) O) (fun W2 g=>⟨((none,0,0),(none,0,0),[],noR),⟨O,O,NestP.nil,PvL.nil⟩,O,((g.nilrow 97 3).nilrow 90 2).addNo.pickL [3,4,5] (by decide) O⟩)
  ·refine cF (vB uf) (cK (eT (cS ?_)))
   obtain⟨r,ur,h⟩:=bOs h
   obtain⟨f,uu,h⟩:=bOs h
   refine eV [[],[0],[],[0,1,2],[],[],[0,1,2,3,4,5],[0,1,2,3,4,5,6]] [(none,0,[true,true,true]),(none,4,[true,true,true]),(none,0,[true,true,true,false,false,false,false]),(none,4,[true,true,true,true,true,true,true]),(none,1,[true,true,true,false,false,false,false,false,false,false,false]),(none,1,[true,true,true,false,false,false,false,false,false,false,false,false]),(some 11,0,[true,true,true,true,true,true,true,true,true,true,true,true,true]),(some 12,0,[true,true,true,true,true,true,true,true,true,true,true,true,true])] [⟨fun _=>.agg #[.slice Aa p0.fNo.length ca,.slice Ab p0.fC.length cb],fun _=>noR,fun _=>[]⟩,⟨fun ξ10=>.agg #[.slice (ξ10 1 0).1 r.fNo.length (ξ10 1 0).2.2.1,.slice (ξ10 1 1).1 r.fC.length (ξ10 1 1).2.2.1],fun _=>noR,fun ξ10=>[aO (ξ10 1 0).1 (ξ10 1 0).2.2.1 97 3 r.fNo.length (encL TNode_cells r.fNo),aO (ξ10 1 1).1 (ξ10 1 1).2.2.1 90 2 r.fC.length (encL TClaim_cells2 (List.zip (ξ10 1 1).2.2.2.1 r.fC)),(ξ10 1 1).2.2.2.2,ra (NestP (fun z:TC=>z.fO) (List.zip (ξ10 1 1).2.2.2.1 r.fC) r.fC∧PvL (fun z:TC=>z.fO) THop_cells wb (fun W4=>Hb W4∧Res.holds (ξ10 1 1).2.2.2.2 W4) (List.zip (ξ10 1 1).2.2.2.1 r.fC))]⟩,⟨fun _=>.agg #[.slice Ac p1.fNo.length cc,.slice K p1.fC.length M],fun _=>noR,fun _=>[]⟩,⟨fun ξ10=>.agg #[.slice (ξ10 3 0).1 f.fNo.length (ξ10 3 0).2.2.1,.slice (ξ10 3 1).1 f.fC.length (ξ10 3 1).2.2.1],fun _=>noR,fun ξ10=>[aO (ξ10 3 0).1 (ξ10 3 0).2.2.1 97 3 f.fNo.length (encL TNode_cells f.fNo),aO (ξ10 3 1).1 (ξ10 3 1).2.2.1 90 2 f.fC.length (encL TClaim_cells2 (List.zip (ξ10 3 1).2.2.2.1 f.fC)),(ξ10 3 1).2.2.2.2,ra (NestP (fun z:TC=>z.fO) (List.zip (ξ10 3 1).2.2.2.1 f.fC) f.fC∧PvL (fun z:TC=>z.fO) THop_cells wb (fun W4=>Hb W4∧Res.holds (ξ10 3 1).2.2.2.2 W4) (List.zip (ξ10 3 1).2.2.2.1 f.fC))]⟩,⟨fun ξ10=>.pointer (some ⟨(ξ10 4 0).2.1,0,none⟩),fun _=>noR,fun ξ10=>[aj (ξ10 4 0).2.1 25 [.slice none 0 0,.slice none 0 0]]⟩,⟨fun ξ10=>.pointer (some ⟨(ξ10 5 0).2.1,0,none⟩),fun _=>noR,fun ξ10=>[aj (ξ10 5 0).2.1 25 [.slice none 0 0,.slice none 0 0]]⟩,⟨fun _=>undef,fun ξ10=>aj (ξ10 4 0).2.1 25 [.slice (ξ10 1 0).1 r.fNo.length (ξ10 1 0).2.2.1,.slice (ξ10 1 1).1 r.fC.length (ξ10 1 1).2.2.1],fun _=>[]⟩,⟨fun _=>undef,fun ξ10=>aj (ξ10 5 0).2.1 25 [.slice (ξ10 3 0).1 f.fNo.length (ξ10 3 0).2.2.1,.slice (ξ10 3 1).1 f.fC.length (ξ10 3 1).2.2.1],fun _=>[]⟩] 3 cD (by kernel_rfl) (by kernel_rfl) ⟨⟨fun ξ10 ξ10' h=>⟨O,O,O⟩,fun _=>O⟩,⟨fun ξ10 ξ10' h=>⟨by simp only[h 1 (.inl O)],O,by simp only[h 1 (.inl O)]⟩,fun _=>O⟩,⟨fun ξ10 ξ10' h=>⟨O,O,O⟩,fun _=>O⟩,⟨fun ξ10 ξ10' h=>⟨by simp only[h 3 (.inl O)],O,by simp only[h 3 (.inl O)]⟩,fun _=>O⟩,⟨fun ξ10 ξ10' h=>⟨by simp only[h 4 (.inl O)],O,by simp only[h 4 (.inl O)]⟩,fun _=>O⟩,⟨fun ξ10 ξ10' h=>⟨by simp only[h 5 (.inl O)],O,by simp only[h 5 (.inl O)]⟩,fun _=>O⟩,⟨fun ξ10 ξ10' h=>⟨O,by simp only[h 1 (.inr O),h 4 (.inr O)],O⟩,fun _=>O⟩,⟨fun ξ10 ξ10' h=>⟨O,by simp only[h 3 (.inr O),h 5 (.inr O)],O⟩,fun _=>O⟩,trivial⟩ O (fun ξ10=>?_)
   refine cf O (fun L2=>?_) ?_
   ·dsimp only[aA,lca,lna]
    refine oY O (yN 0 [.slice Aa p0.fNo.length ca,.slice Ab p0.fC.length cb] aF O O O) (oN ?_)
    exact al (fun _=>(none,0,0,[],noR)) O (List.append_nil _)
   dsimp only[bG,lsz,lss,lna,lca,List.append_nil]
   refine cf O (fun L2=>?_) ?_
   ·dsimp only[aA,lca,lna]
    refine oC [.agg #[.slice Aa p0.fNo.length ca,.slice Ab p0.fC.length cb]] _ _ _ O go_111 O (fun W2 g=>gS p0 r ur W2 Aa p0.fNo.length ca O ((RdL.arg X) W2 g) Ab p0.fC.length cb w O ((RdL.arg Y) W2 g) (NestL.at (NestL.arg G) W2 g) wb Hb (fun W3 hb=>hB W3 (fy g.below hb)) u7) ?_
    rintro⟨⟨ua,uz,ui⟩,⟨uj,uk,ux⟩,ud,F27⟩ ⟨oq,op,f3,om⟩
    replace oq:uz=r.fNo.length:=oq;subst oq
    replace op:uk=r.fC.length:=op;subst op
    obtain⟨a,rfl⟩:∃a:List Hd,ud=List.zip a r.fC:=⟨_,NestP.zip f3⟩
    refine rg (p:=(NestP (fun z:TC=>z.fO) (List.zip a r.fC) r.fC∧PvL (fun z:TC=>z.fO) THop_cells wb (fun W4=>Hb W4∧Res.holds F27 W4) (List.zip a r.fC))) ⟨f3,om⟩ ?_
    try dsimp only[lna,lca]
    rw[List.append_assoc L2]
    dsimp only[lna,lca]
    refine oN ?_
    exact al (fun q=>if q=0 then(ua,0,ui,[],noR)else(uj,0,ux,a,F27)) O O
   dsimp only[bG,lsz,lss,lna,lca,List.append_nil]
   refine cf O (fun L2=>?_) ?_
   ·dsimp only[aA,lca,lna]
    refine oY O (yN 1 [.slice Ac p1.fNo.length cc,.slice K p1.fC.length M] aF O O O) (oN ?_)
    exact al (fun _=>(none,0,0,[],noR)) O (List.append_nil _)
   dsimp only[bG,lsz,lss,lna,lca,List.append_nil]
   refine cf O (fun L2=>?_) ?_
   ·dsimp only[aA,lca,lna]
    refine oC [.agg #[.slice Ac p1.fNo.length cc,.slice K p1.fC.length M]] _ _ _ O go_111 O (fun W2 g=>gS p1 f uu W2 Ac p1.fNo.length cc O ((RdL.arg gf) W2 g) K p1.fC.length M V O ((RdL.arg o1) W2 g) (NestL.at (NestL.arg o2) W2 g) wb Hb (fun W3 hb=>hB W3 (fy g.below hb)) u8) ?_
    rintro⟨⟨uy,ub,uc⟩,⟨d0,d1,d2⟩,uw,F46⟩ ⟨ot,oa,U,f4⟩
    replace ot:ub=f.fNo.length:=ot;subst ot
    replace oa:d1=f.fC.length:=oa;subst oa
    obtain⟨k,rfl⟩:∃k:List Hd,uw=List.zip k f.fC:=⟨_,NestP.zip U⟩
    refine rg (p:=(NestP (fun z:TC=>z.fO) (List.zip k f.fC) f.fC∧PvL (fun z:TC=>z.fO) THop_cells wb (fun W4=>Hb W4∧Res.holds F46 W4) (List.zip k f.fC))) ⟨U,f4⟩ ?_
    try dsimp only[lna,lca]
    rw[List.append_assoc L2]
    dsimp only[lna,lca]
    refine oN ?_
    exact al (fun q=>if q=0 then(uy,0,uc,[],noR)else(d0,0,d2,k,F46)) O O
   dsimp only[bG,lsz,lss,lna,lca,List.append_nil]
   refine cf O (fun L2=>?_) ?_
   ·dsimp only[aA,lca,lna]
    refine aC ft O (fun d3=>?_)
    refine oN ?_
    exact al (fun _=>(none,d3,0,[],noR)) O O
   dsimp only[bG,lsz,lss,lna,lca,List.append_nil]
   refine cf O (fun L2=>?_) ?_
   ·dsimp only[aA,lca,lna]
    refine aC ft O (fun d4=>?_)
    refine oN ?_
    exact al (fun _=>(none,d4,0,[],noR)) O O
   dsimp only[bG,lsz,lss,lna,lca,List.append_nil]
   refine gx_n O (fun L2=>?_) ?_
   ·dsimp only[aA,lca,lna]
    refine cr O (yS 11 [.slice (ξ10 1 0).1 r.fNo.length (ξ10 1 0).2.2.1,.slice (ξ10 1 1).1 r.fC.length (ξ10 1 1).2.2.1] gN O (nB O) O O O) (oN ?_)
    first|exact bK (fun _=>(none,0,0,[],noR)) O|exact bK (fun _=>(none,0,0,[],noR)) (List.append_nil _)
   dsimp only[bG,lsz,lss,lna,lca,List.append_nil]
   refine gx_n O (fun L2=>?_) ?_
   ·dsimp only[aA,lca,lna]
    refine cr O (yS 12 [.slice (ξ10 3 0).1 f.fNo.length (ξ10 3 0).2.2.1,.slice (ξ10 3 1).1 f.fC.length (ξ10 3 1).2.2.1] gN O (nB O) O O O) (oN ?_)
    first|exact bK (fun _=>(none,0,0,[],noR)) O|exact bK (fun _=>(none,0,0,[],noR)) (List.append_nil _)
   dsimp only[bG,lsz,lss,lna,lca,List.append_nil]
   refine lK ?_
   refine ex_fact 6 O (fun hF=>?_)
   obtain⟨f3,om⟩:=hF
   refine ex_fact 10 O (fun hF=>?_)
   obtain⟨U,f4⟩:=hF
   refine eT (cS (cR ?_))
   try dsimp only[lna,lca,lsz,lss]
   refine oY O (yAB O) (oN (eT (cS (cS (cR (oY O (yFA aY O) (oY O (yL 12 dK O O O) (oY O (bd (us:=[]) gE O) (oY O (yMI O) (oN (eT (cB ?_))))))))))))
   obtain⟨T,uD,h⟩:=bOs h
   refine cN 97 3 (cN 90 2 (jC ?_))
   refine cx_joinF 5 9 (by decide) O O ?_
   try dsimp only[lsz,lss]
   refine bF (fun(s:(Bool × Int × (List TN))) L tm=>∃(t:Nat→Value) (rx:Option Addr) (u0:Nat) (oi:Nat),oi=s.2.2.length∧L=[aj b1 25 [.slice Aa p0.fNo.length ca,.slice Ab p0.fC.length cb],aj b2 25 [.slice Ac p1.fNo.length cc,.slice K p1.fC.length M],aj b3 25 [.slice none 0 0,.slice none 0 0],aO rx u0 97 3 oi (encL TNode_cells s.2.2),aO (ξ10 1 1).1 (ξ10 1 1).2.2.1 90 2 r.fC.length (encL TClaim_cells2 (List.zip (ξ10 1 1).2.2.2.1 r.fC)),pL (ξ10 1 1).2.2.2.2 (ξ10 3 1).2.2.2.2,ra (NestP (fun z:TC=>z.fO) (List.zip (ξ10 1 1).2.2.2.1 r.fC) r.fC∧PvL (fun z:TC=>z.fO) THop_cells wb (fun W4=>Hb W4∧Res.holds (ξ10 1 1).2.2.2.2 W4) (List.zip (ξ10 1 1).2.2.2.1 r.fC)),aO (ξ10 3 0).1 (ξ10 3 0).2.2.1 97 3 f.fNo.length (encL TNode_cells f.fNo),aO (ξ10 3 1).1 (ξ10 3 1).2.2.1 90 2 f.fC.length (encL TClaim_cells2 (List.zip (ξ10 3 1).2.2.2.1 f.fC)),noR,ra (NestP (fun z:TC=>z.fO) (List.zip (ξ10 3 1).2.2.2.1 f.fC) f.fC∧PvL (fun z:TC=>z.fO) THop_cells wb (fun W4=>Hb W4∧Res.holds (ξ10 3 1).2.2.2.2 W4) (List.zip (ξ10 3 1).2.2.2.1 f.fC)),aj (ξ10 4 0).2.1 25 [.slice rx oi u0,.slice (ξ10 1 1).1 r.fC.length (ξ10 1 1).2.2.1],aj (ξ10 5 0).2.1 25 [.slice (ξ10 3 0).1 f.fNo.length (ξ10 3 0).2.2.1,.slice (ξ10 3 1).1 f.fC.length (ξ10 3 1).2.2.1],aO none 0 97 3 0 (encL TNode_cells ([]:List TN)),aO none 0 90 2 0 (encL TClaim_cells2 ([]:List (Hd × TC))),noR]∧tm=(upd (upd (upd (upd (upd (upd (upd (upd (upd t 2 (.pointer (some ⟨b1,0,none⟩))) 4 (.pointer (some ⟨b3,0,none⟩))) 5 (vI 0)) 8 (.pointer (some ⟨(ξ10 4 0).2.1,0,none⟩))) 9 (.pointer (some ⟨(ξ10 5 0).2.1,0,none⟩))) 10 (.bool s.1)) 36 (.slice (ξ10 3 0).1 f.fNo.length (ξ10 3 0).2.2.1)) 37 (vI (f.fNo.length:Int))) 38 (vI s.2.1))) 0 uD ⟨_,(ξ10 1 0).1,(ξ10 1 0).2.2.1,r.fNo.length,O,O,(kp4 (kp4 (kp O)))⟩ ?_ ?_
   ·rintro d L tm st ⟨uE,fr,fd,uq,rfl,rfl,rfl⟩ h
    unfold fS at h
    refine cS (cR ?_)
    try dsimp only[lna,lca,lsz,lss]
    refine oY O (bA O O) (oN (eT (cS ?_)))
    rcases iOs h with⟨oj,h⟩|⟨oj,h⟩
    ·refine cT (vB oj) (cK (eT (cS (cB (cS (cR ?_))))))
     obtain⟨fE,h⟩:=gOs h
     refine oY O (yI jL (by decide) fE.1 fE.2 (RdL.row 7 O) (eL ad O) O O) ?_
     refine oY O (yM (A:=(ξ10 3 0).1) (j:=(Int.toNat d.2.1*3)) [vI ((rdL f.fNo d.2.1).fID),vI ((rdL f.fNo d.2.1).fLevel),vI ((rdL f.fNo d.2.1).fCost)] mr (Nat.succ_pos _) (RdL.row 7 O) O (aM ad fE.1 (ao fE.2 O))) ?_
     refine aC j7 O (fun dd=>?_)
     try dsimp only[lna,lca,lsz,lss]
     refine cr O (yS 16 [vI ((rdL f.fNo d.2.1).fID),vI ((rdL f.fNo d.2.1).fLevel),vI ((rdL f.fNo d.2.1).fCost)] sz_97 O (nB O) O O O) (oN (eT (cS (cR (oY O (yN 0 [.slice Aa p0.fNo.length ca,.slice Ab p0.fC.length cb] aF O O O) (oY O (yFA gd O) (oY O (yL 16 bN O O O) ?_)))))))
     obtain⟨l,uF,h⟩:=bOs h
     refine oY O (yC [.agg #[.slice Aa p0.fNo.length ca,.slice Ab p0.fC.length cb],vI ((rdL f.fNo d.2.1).fID)] s4 O (fun W2 g=>dA p0 ((rdL f.fNo d.2.1).fID) l uF W2 Aa p0.fNo.length ca O ((RdL.arg X) W2 g) Ab p0.fC.length cb w O ((RdL.arg Y) W2 g) (NestL.at (NestL.arg G) W2 g)) O) (oY O (yAI O) (oN (eT (cS (cR (oY O (yMI O) (oY O (bA O O) (oN (eT ?_)))))))))
     rcases iOs h with⟨ok,h⟩|⟨ok,h⟩
     ·refine cT (vB ok) (cR (oY O (yFA aY O) (oY O (yL 11 dK O O O) (oY O (yN 16 [vI ((rdL f.fNo d.2.1).fID),vI ((rdL f.fNo d.2.1).fLevel),vI ((rdL f.fNo d.2.1).fCost)] mr O O O) ?_))))
      refine ap 1 (encL TNode_cells [(TN.mk ((rdL f.fNo d.2.1).fID) ((rdL f.fNo d.2.1).fLevel) ((rdL f.fNo d.2.1).fCost))]) _ sY gE j7 o9 (by decide) (by decide) (by kernel_rfl) (eL ad O) O (fun w6=>?_)
      try dsimp only[lna,lca,lsz,lss]
      obtain⟨uG,h⟩:=gOs h
      refine bg 3 gE j7 o9 O O O (RdL.row 17 O) (eL ad O) (cg eY _) (cp uG (by decide)) O (fun uH uI=>?_)
      refine oY O (yFA aY O) (cr O (cn 11 (v:=.slice uH (d.2.2.length+1) uI) sz_22 O (Nat.lt_of_lt_of_le (Nat.lt_succ_self _) (nB O)) O O O) (oN (aq (eT (cR (oY O (bc O O) (oY O (yMI O) (oN (aS 16 ?_)))))))))
      obtain rfl:=sI h
      exact eN ⟨_,uH,uI,(d.2.2.length+1),(fD O O),O,(kp4 (kp4 (kp O)))⟩
     ·refine cF (vB ok) ?_
      refine aU 11 cD (by kernel_rfl) (by kernel_rfl) ?_
      refine qY O (yMB O) (qY O (yMB O) ?_)
      obtain⟨dy,uK,h⟩:=bOs h
      refine qJ 8 (fun t=>(upd (upd (upd (upd (upd (upd (upd (upd (upd (upd (upd (upd (upd (upd t 2 (.pointer (some ⟨b1,0,none⟩))) 4 (.pointer (some ⟨b3,0,none⟩))) 5 (vI 0)) 8 (.pointer (some ⟨(ξ10 4 0).2.1,0,none⟩))) 9 (.pointer (some ⟨(ξ10 5 0).2.1,0,none⟩))) 10 (.bool d.1)) 36 (.slice (ξ10 3 0).1 f.fNo.length (ξ10 3 0).2.2.1)) 37 (vI (f.fNo.length:Int))) 38 (vI d.2.1)) 39 (.bool (decide (d.2.1<(f.fNo.length:Int))))) 12 (.pointer (some ⟨dd,0,none⟩))) 13 (vI l)) 47 (.bool (decide (l<0)))) 63 (.bool dy))) (fun t=>?_) (fun key=>?_)
      ·refine qY O (yAB O) (ck (oN (aq (eT (cR (oY O (bc O O) (oY O (yMI O) (oN (aS 16 ?_)))))))))
       obtain rfl:=sI h
       exact eN ⟨_,fr,fd,d.2.2.length,O,O,(kp4 (kp4 (kp O)))⟩
      ·clear h;rcases iOs uK with⟨D,h⟩|⟨D,h⟩
       ·refine ar (sF O O O O D) (ar (sF O O O O D) (ar (sF O O O O D) (ar (sF O O O O D) (ar (sF O O O O D) (ar (sF O O O O D) (ar (sF O O O O D) (qY O (aw (vB D) O) ?_)))))))
        obtain rfl:=sI h
        exact key _ _ (kp4 (kp4 (kp4 (kp (kp O)))))
       ·refine qY (sT O O O O D) (yFA aY O) (qY (sT O O O O D) (yL 0 dK O O O) (qY (sT O O O O D) (yMI O) ?_))
        obtain⟨fN,h⟩:=gOs h
        refine qY (sT O O O O D) (yI jL (by decide) fN.1 fN.2 (RdL.arg X) (eL ad O) O O) ?_
        refine qY (sT O O O O D) (yM (A:=Aa) (j:=(Int.toNat l*3)) [vI ((rdL p0.fNo l).fID),vI ((rdL p0.fNo l).fLevel),vI ((rdL p0.fNo l).fCost)] mr (Nat.succ_pos _) (RdL.arg X) O (aM ad fN.1 (ao fN.2 O))) (qY (sT O O O O D) (yN 16 [vI ((rdL f.fNo d.2.1).fID),vI ((rdL f.fNo d.2.1).fLevel),vI ((rdL f.fNo d.2.1).fCost)] mr O O O) (qY (sT O O O O D) (ru (b:=(((rdL p0.fNo l).fID==(rdL f.fNo d.2.1).fID)&&(((rdL p0.fNo l).fLevel==(rdL f.fNo d.2.1).fLevel)&&((rdL p0.fNo l).fCost==(rdL f.fNo d.2.1).fCost)))) eg_97 O O (fun _=>(eqS3 fl_97 (ep bN O) (ep bN O) (ep bN O) (ep bN O) (ep bN O) (ep bN O) (run_equalIn_int _ _ _ _ _ _ _ pQ) (run_equalIn_int _ _ _ _ _ _ _ pQ) (run_equalIn_int _ _ _ _ _ _ _ pQ)))) (qY O (av (vB D) O) ?_)))
        obtain rfl:=sI h
        exact key _ _ (kp4 (kp4 (kp4 (kp (kp O)))))
    ·refine cF (vB oj) (aK (ah ?_))
     obtain rfl:=sI h
     exact ay ⟨O,_,fr,fd,d.2.2.length,O,O,(kp4 (kp4 (kp O)))⟩
   ·intro e L tm hJ
    obtain⟨rfl,uM,E,F,up,rfl,rfl,rfl⟩:=hJ
    refine⟨(by intro hc;cases hc),?_⟩
    refine ag (eT (cS (cS (cR ?_))))
    try dsimp only[lna,lca,lsz,lss]
    refine oY O (yFA aD O) (oY O (yL 12 bT O O O) (oY O (bd (us:=[]) dQ O) (oY O (yMI O) (oN (eT (cB ?_))))))
    obtain⟨y,uN,h⟩:=bOs h
    refine bF (fun(s:(Bool × Int × (List TC))) L tm=>∃(t:Nat→Value) (u1:Option Addr) (u2:Nat) (r0:Nat) (f2:List (Hd × TC)),r0=s.2.2.length∧NestP (fun z:TC=>z.fO) f2 s.2.2∧PvL (fun z:TC=>z.fO) THop_cells wb (fun W4=>Hb W4∧Res.holds (pL (ξ10 1 1).2.2.2.2 (ξ10 3 1).2.2.2.2) W4) f2∧L=[aj b1 25 [.slice Aa p0.fNo.length ca,.slice Ab p0.fC.length cb],aj b2 25 [.slice Ac p1.fNo.length cc,.slice K p1.fC.length M],aj b3 25 [.slice none 0 0,.slice none 0 0],aO E F 97 3 T.2.2.length (encL TNode_cells T.2.2),aO u1 u2 90 2 r0 (encL TClaim_cells2 f2),pL (ξ10 1 1).2.2.2.2 (ξ10 3 1).2.2.2.2,ra (NestP (fun z:TC=>z.fO) (List.zip (ξ10 1 1).2.2.2.1 r.fC) r.fC∧PvL (fun z:TC=>z.fO) THop_cells wb (fun W4=>Hb W4∧Res.holds (ξ10 1 1).2.2.2.2 W4) (List.zip (ξ10 1 1).2.2.2.1 r.fC)),aO (ξ10 3 0).1 (ξ10 3 0).2.2.1 97 3 f.fNo.length (encL TNode_cells f.fNo),aO (ξ10 3 1).1 (ξ10 3 1).2.2.1 90 2 f.fC.length (encL TClaim_cells2 (List.zip (ξ10 3 1).2.2.2.1 f.fC)),noR,ra (NestP (fun z:TC=>z.fO) (List.zip (ξ10 3 1).2.2.2.1 f.fC) f.fC∧PvL (fun z:TC=>z.fO) THop_cells wb (fun W4=>Hb W4∧Res.holds (ξ10 3 1).2.2.2.2 W4) (List.zip (ξ10 3 1).2.2.2.1 f.fC)),aj (ξ10 4 0).2.1 25 [.slice E T.2.2.length F,.slice u1 r0 u2],aj (ξ10 5 0).2.1 25 [.slice (ξ10 3 0).1 f.fNo.length (ξ10 3 0).2.2.1,.slice (ξ10 3 1).1 f.fC.length (ξ10 3 1).2.2.1],aO none 0 97 3 0 (encL TNode_cells ([]:List TN)),aO none 0 90 2 0 (encL TClaim_cells2 ([]:List (Hd × TC))),noR]∧tm=(upd (upd (upd (upd (upd (upd (upd (upd t 2 (.pointer (some ⟨b1,0,none⟩))) 4 (.pointer (some ⟨b3,0,none⟩))) 5 (vI 0)) 8 (.pointer (some ⟨(ξ10 4 0).2.1,0,none⟩))) 10 (.bool s.1)) 66 (.slice (ξ10 3 1).1 f.fC.length (ξ10 3 1).2.2.1)) 67 (vI (f.fC.length:Int))) 68 (vI s.2.1))) 2 uN ⟨_,(ξ10 1 1).1,(ξ10 1 1).2.2.1,r.fC.length,(List.zip (ξ10 1 1).2.2.2.1 r.fC),O,f3,(PvL.mono (Hb:=(fun W4=>Hb W4∧Res.holds (ξ10 1 1).2.2.2.2 W4)) (Hb':=(fun W4=>Hb W4∧Res.holds (pL (ξ10 1 1).2.2.2.2 (ξ10 3 1).2.2.2.2) W4)) om (fun _ _ h=>⟨h.1,h.2.1⟩)),O,(kp4 (kp4 O))⟩ ?_ ?_
    ·rintro o L tm st ⟨uO,fn,fl,un,S,rfl,R,n,rfl,rfl⟩ h
     unfold fI at h
     refine cS (cR (oY O (bA O O) (oN (eT (cS ?_)))))
     rcases iOs h with⟨r1,h⟩|⟨r1,h⟩
     ·refine cT (vB r1) (cK (eT (cS (cB (cS (cR ?_))))))
      obtain⟨Q,h⟩:=gOs h
      refine oY O (yI dY (by decide) Q.1 Q.2 (RdL.row 8 O) (eL aa (NestP.hn U O)) O O) ?_
      refine oY O (yM (A:=(ξ10 3 1).1) (j:=(Int.toNat o.2.1*2)) [vI ((rdL f.fC o.2.1).fID),.slice ((rdL (List.zip (ξ10 3 1).2.2.2.1 f.fC) o.2.1).1.1) ((rdL f.fC o.2.1).fO.length) ((rdL (List.zip (ξ10 3 1).2.2.2.1 f.fC) o.2.1).1.2.2)] lX (Nat.succ_pos _) (RdL.row 8 O) O (iL (a6 (NestP.snd U o.2.1) (NestP.len U Q.1 (ao Q.2 O))).symm (aM aa Q.1 (ao Q.2 (NestP.hn U O))))) ?_
      refine aC gR O (fun w0=>?_)
      try dsimp only[lna,lca,lsz,lss]
      refine cr O (yS 16 [vI ((rdL f.fC o.2.1).fID),.slice ((rdL (List.zip (ξ10 3 1).2.2.2.1 f.fC) o.2.1).1.1) ((rdL f.fC o.2.1).fO.length) ((rdL (List.zip (ξ10 3 1).2.2.2.1 f.fC) o.2.1).1.2.2)] rY O (nB O) O O O) (oN (eT (cS (cR (oY O (yN 0 [.slice Aa p0.fNo.length ca,.slice Ab p0.fC.length cb] aF O O O) (oY O (yFA fh O) (oY O (yL 16 bN O O O) ?_)))))))
      obtain⟨N,uQ,h⟩:=bOs h
      refine oY O (yC [.agg #[.slice Aa p0.fNo.length ca,.slice Ab p0.fC.length cb],vI ((rdL f.fC o.2.1).fID)] go_114 O (fun W2 g=>gU p0 ((rdL f.fC o.2.1).fID) N uQ W2 Aa p0.fNo.length ca O ((RdL.arg X) W2 g) Ab p0.fC.length cb w O ((RdL.arg Y) W2 g) (NestL.at (NestL.arg G) W2 g)) O) (oY O (yAI O) (oN (eT (cS (cR (oY O (yMI O) (oY O (bA O O) (oN (eT ?_)))))))))
      rcases iOs h with⟨r2,h⟩|⟨r2,h⟩
      ·refine cT (vB r2) (cR (oY O (yFA aD O) (oY O (yL 11 bT O O O) (oY O (yN 16 [vI ((rdL f.fC o.2.1).fID),.slice ((rdL (List.zip (ξ10 3 1).2.2.2.1 f.fC) o.2.1).1.1) ((rdL f.fC o.2.1).fO.length) ((rdL (List.zip (ξ10 3 1).2.2.2.1 f.fC) o.2.1).1.2.2)] lX O O O) ?_))))
       refine ap 1 (encL TClaim_cells2 [(((rdL (List.zip (ξ10 3 1).2.2.2.1 f.fC) o.2.1).1.1,(rdL f.fC o.2.1).fO.length,(rdL (List.zip (ξ10 3 1).2.2.2.1 f.fC) o.2.1).1.2.2),(TC.mk ((rdL f.fC o.2.1).fID) ((rdL f.fC o.2.1).fO)))]) _ oW dQ gR l8 (by decide) (by decide) (by kernel_rfl) (eL aa O) O (fun w7=>?_)
       try dsimp only[lna,lca,lsz,lss]
       obtain⟨uU,h⟩:=gOs h
       refine bg 4 dQ gR l8 O O O (RdL.row 17 O) (eL aa (NestP.hn (NestP.cons (sel:=(fun z:TC=>z.fO)) O NestP.nil) O)) (cg bU _) (cp uU (by decide)) O (fun uX uY=>?_)
       refine oY O (yFA aD O) (cr O (cn 11 (v:=.slice uX (o.2.2.length+1) uY) sz_23 O (Nat.lt_of_lt_of_le (Nat.lt_succ_self _) (nB O)) O O O) (oN (aq (eT (cR (oY O (bc O O) (oY O (yMI O) (oN (aS 16 ?_)))))))))
       obtain rfl:=sI h
       exact eN ⟨_,uX,uY,(o.2.2.length+1),(S++[(((rdL (List.zip (ξ10 3 1).2.2.2.1 f.fC) o.2.1).1.1,(rdL f.fC o.2.1).fO.length,(rdL (List.zip (ξ10 3 1).2.2.2.1 f.fC) o.2.1).1.2.2),(TC.mk ((rdL f.fC o.2.1).fID) ((rdL f.fC o.2.1).fO)))]),(fD O O),(NestP.app R (NestP.cons (sel:=(fun z:TC=>z.fO)) O NestP.nil)),(PvL.app n (PvL.cons (PvL.get (PvL.mono (Hb:=(fun W4=>Hb W4∧Res.holds (ξ10 3 1).2.2.2.2 W4)) (Hb':=(fun W4=>Hb W4∧Res.holds (pL (ξ10 1 1).2.2.2.2 (ξ10 3 1).2.2.2.2) W4)) f4 (fun _ _ h=>⟨h.1,h.2.2.1⟩)) U Q.1 (ao Q.2 O)) PvL.nil)),O,(kp4 (kp4 O))⟩
      ·refine cF (vB r2) ?_
       refine aU 12 cD (by kernel_rfl) (by kernel_rfl) ?_
       refine qY O (yMB O) (qY O (yMB O) ?_)
       obtain⟨w1,uZ,h⟩:=bOs h
       refine qJ 9 (fun t=>(upd (upd (upd (upd (upd (upd (upd (upd (upd (upd (upd (upd (upd t 2 (.pointer (some ⟨b1,0,none⟩))) 4 (.pointer (some ⟨b3,0,none⟩))) 5 (vI 0)) 8 (.pointer (some ⟨(ξ10 4 0).2.1,0,none⟩))) 10 (.bool o.1)) 66 (.slice (ξ10 3 1).1 f.fC.length (ξ10 3 1).2.2.1)) 67 (vI (f.fC.length:Int))) 68 (vI o.2.1)) 69 (.bool (decide (o.2.1<(f.fC.length:Int))))) 15 (.pointer (some ⟨w0,0,none⟩))) 16 (vI N)) 77 (.bool (decide (N<0)))) 94 (.bool w1))) (fun t=>?_) (fun key=>?_)
       ·refine qY O (yAB O) (ck (oN (aq (eT (cR (oY O (bc O O) (oY O (yMI O) (oN (aS 16 ?_)))))))))
        obtain rfl:=sI h
        exact eN ⟨_,fn,fl,o.2.2.length,S,O,R,n,O,(kp4 (kp4 O))⟩
       ·clear h;rcases iOs uZ with⟨u,h⟩|⟨u,h⟩
        ·refine ar (sF O O O O u) (ar (sF O O O O u) (ar (sF O O O O u) (ar (sF O O O O u) (ar (sF O O O O u) (ar (sF O O O O u) (ar (sF O O O O u) (ar (sF O O O O u) (qY O (aw (vB u) O) ?_))))))))
         obtain rfl:=sI h
         exact key _ _ (kp4 (kp4 (kp4 (kp O))))
        ·refine qY (sT O O O O u) (yFA aD O) (qY (sT O O O O u) (yL 0 bT O O O) (qY (sT O O O O u) (yMI O) ?_))
         obtain⟨Z,h⟩:=gOs h
         refine qY (sT O O O O u) (yI dY (by decide) Z.1 Z.2 (RdL.arg Y) (eL aa (NestP.hn G.p O)) O O) ?_
         refine qY (sT O O O O u) (yM (A:=Ab) (j:=(Int.toNat N*2)) [vI ((rdL p0.fC N).fID),.slice ((rdL w N).1.1) ((rdL p0.fC N).fO.length) ((rdL w N).1.2.2)] lX (Nat.succ_pos _) (RdL.arg Y) O (iL (a6 (NestP.snd G.p N) (NestP.len G.p Z.1 (ao Z.2 O))).symm (aM aa Z.1 (ao Z.2 (NestP.hn G.p O))))) (qY (sT O O O O u) (yN 16 [vI ((rdL f.fC o.2.1).fID),.slice ((rdL (List.zip (ξ10 3 1).2.2.2.1 f.fC) o.2.1).1.1) ((rdL f.fC o.2.1).fO.length) ((rdL (List.zip (ξ10 3 1).2.2.2.1 f.fC) o.2.1).1.2.2)] lX O O O) ?_)
         obtain⟨w2,uV,h⟩:=bOs h
         refine qY (sT O O O O u) (yC [.agg #[vI ((rdL p0.fC N).fID),.slice ((rdL w N).1.1) ((rdL p0.fC N).fO.length) ((rdL w N).1.2.2)],.agg #[vI ((rdL f.fC o.2.1).fID),.slice ((rdL (List.zip (ξ10 3 1).2.2.2.1 f.fC) o.2.1).1.1) ((rdL f.fC o.2.1).fO.length) ((rdL (List.zip (ξ10 3 1).2.2.2.1 f.fC) o.2.1).1.2.2)]] go_115 O (fun W2 g=>q6 (TC.mk ((rdL p0.fC N).fID) ((rdL p0.fC N).fO)) (TC.mk ((rdL f.fC o.2.1).fID) ((rdL f.fC o.2.1).fO)) w2 uV W2 ((rdL w N).1.1) ((rdL p0.fC N).fO.length) ((rdL w N).1.2.2) O ((NestL.rd (NestL.arg G) Z.1 (ao Z.2 O)) W2 g) ((rdL (List.zip (ξ10 3 1).2.2.2.1 f.fC) o.2.1).1.1) ((rdL f.fC o.2.1).fO.length) ((rdL (List.zip (ξ10 3 1).2.2.2.1 f.fC) o.2.1).1.2.2) O ((NestL.rd (PvL.nestL U (PvL.mono (Hb:=(fun W4=>Hb W4∧Res.holds (ξ10 3 1).2.2.2.2 W4)) (Hb':=(fun W4=>Hb W4∧Res.holds (pL (ξ10 1 1).2.2.2.2 (ξ10 3 1).2.2.2.2) W4)) f4 (fun _ _ h=>⟨h.1,h.2.2.1⟩)) (fun W2 g=>⟨(hB W2 g.below).1,(hB W2 g.below).2,g.mem (i:=5) O⟩)) Q.1 (ao Q.2 O)) W2 g)) O) (qY (sT O O O O u) (fe O) (qY O (av (vB u) O) ?_))
         obtain rfl:=sI h
         exact key _ _ (kp4 (kp4 (kp4 (kp O))))
     ·refine cF (vB r1) (aK (ah ?_))
      obtain rfl:=sI h
      exact ay ⟨O,_,fn,fl,o.2.2.length,S,O,R,n,O,(kp4 (kp4 O))⟩
    ·intro e L tm hJ
     obtain⟨rfl,uT,H,I,um,c,rfl,f0,f1,rfl,rfl⟩:=hJ
     refine⟨(by intro hc;cases hc),?_⟩
     refine ag (eT (cS (cS (cR (oY O (yMB O) (oN (eT ?_)))))))
     rcases iOs h with⟨r3,h⟩|⟨r3,h⟩
     ·refine cT (vB r3) (cS (cR ?_))
      refine oY O (aI [.slice none 0 0,.slice none 0 0] [(0,1),(1,1)] kg ft (by kernel_rfl)) ?_
      refine cr O (yS 2 [.slice none 0 0,.slice none 0 0] gN O (nB O) O O O) (oY O (yAI O) (oN (eT (ak (ab ?_)))))
      obtain rfl:=sI h
      exact bx (.inl O) O (aH 2 [.slice none 0 0,.slice none 0 0] aF O O O) (rVt (v:=vI 9) O) (fun W2 g=>⟨((none,0,0),(none,0,0),[],noR),⟨O,O,NestP.nil,PvL.nil⟩,O,((g.nilrow 97 3).nilrow 90 2).addNo.pickL [16,17,18] (by decide) O⟩)
     ·refine cF (vB r3) (cK (eT (cS (cR (oY O (yFA aY O) (oY O (yL 11 dK O O O) (oY O (yAS O) (oN (eT (cS (cS (cR (oY O (yMS O) (oY O (yFA aD O) (oY O (yL 11 bT O O O) ?_)))))))))))))))
      refine oY O (aI [.slice E T.2.2.length F,.slice H y.2.2.length I] [(0,1),(1,1)] kg ft (by kernel_rfl)) ?_
      obtain⟨uS,uR,h⟩:=bOs h
      refine oY O (yC [.agg #[.slice E T.2.2.length F,.slice H y.2.2.length I]] sB O (fun W2 g=>dm (TL.mk T.2.2 y.2.2) uS uR W2 E T.2.2.length F O ((RdL.row 3 O) W2 g) H y.2.2.length I c O ((RdL.row 4 O) W2 g) (NestL.at (PvL.nestL f0 f1 (fun W2 g=>⟨(hB W2 g.below).1,(hB W2 g.below).2,g.mem (i:=5) O⟩)) W2 g)) O) (oY O (yAI O) (oN (eT (cS (cR (oY O (yMI O) (oY O (dD O O) (oN (eT ?_)))))))))
      rcases iOs h with⟨r4,h⟩|⟨r4,h⟩
      ·refine cT (vB r4) (cS (cR ?_))
       refine oY O (aI [.slice none 0 0,.slice none 0 0] [(0,1),(1,1)] kg ft (by kernel_rfl)) ?_
       refine oY O (yMI O) (cr O (yS 2 [.slice none 0 0,.slice none 0 0] gN O (nB O) O O O) (oY O (yAI O) (oN (eT (ak (ab ?_))))))
       obtain rfl:=sI h
       exact bx (.inl O) O (aH 2 [.slice none 0 0,.slice none 0 0] aF O O O) (rVt (v:=vI uS) O) (fun W2 g=>⟨((none,0,0),(none,0,0),[],noR),⟨O,O,NestP.nil,PvL.nil⟩,O,((g.nilrow 97 3).nilrow 90 2).addNo.pickL [16,17,18] (by decide) O⟩)
      ·refine cF (vB r4) (cK (eT (cS (cR (oY O (yN 11 [.slice E T.2.2.length F,.slice H y.2.2.length I] aF O O O) (cr O (yS 2 [.slice E T.2.2.length F,.slice H y.2.2.length I] gN O (nB O) O O O) (oY O (yAI O) (oN (eT (ak ?_))))))))))
       obtain rfl:=sI h
       exact bx (.inl O) O (aH 2 [.slice E T.2.2.length F,.slice H y.2.2.length I] aF O O O) (rVt (v:=vI 0) O) (fun W2 g=>⟨((E,T.2.2.length,F),(H,y.2.2.length,I),c,pL (ξ10 1 1).2.2.2.2 (ξ10 3 1).2.2.2.2),⟨O,O,f0,f1⟩,O,g.pickL [3,4,5] (by decide) O⟩)
theorem jj (p0:(List TH)) (p1:(List TH)) (res:Bool) (h:dH p0 p1=some res) (W:World) (Aa:Option Addr) (f ca:Nat) (E:f=p0.length) (g:Rd W Aa f ca (encL THop_cells p0)) (Ac:Option Addr) (o cc:Nat) (F:o=p1.length) (r:Rd W Ac o cc (encL THop_cells p1)) :
  Calls Tryz.prog 116 [.slice Aa f ca,.slice Ac o cc].toArray W fun e W2=>e=.returned (.bool res)∧Ext W W2 []:=by
 subst E
 subst F
 unfold dH at h
 refine ae (m:=26) Tryz.func116 O O (nB O) (cS (cR (oY O (yAB O) (oN (eT (cS (cS (cR (oY O (yMS O) (oY O (bd (us:=[]) fZ O) (oY O (yMS O) (oY O (bd (us:=[]) fZ O) (oY O (dD O O) (oN (eT ?_)))))))))))))))
 rcases iOs h with⟨G,h⟩|⟨G,h⟩
 ·refine cT (vB G) (cS (cR (oY O (yAB O) (oN (eT (ak (ab ?_)))))))
  obtain rfl:=sI h
  exact am (.inl O) O (rVt (v:=.bool false) O) (fun W2 u=>⟨O,u.none⟩)
 ·refine cF (vB G) (cK (eT (cS (cS (cR (oY O (yAI O) (oN (eT (cB ?_)))))))))
  obtain⟨Y,Q,h⟩:=bOs h
  refine bW (fun(s:(Bool × Int)) L tm=>∃(U:Nat→Value),L=[]∧tm=(upd (upd (upd (upd U 0 (.slice Aa p0.length ca)) 1 (.slice Ac p1.length cc)) 4 (.bool s.1)) 5 (vI s.2))) 0 Q ⟨_,O,(kp4 O)⟩ ?_ ?_
  ·rintro d L tm st ⟨N,rfl,rfl⟩ h
   unfold gq at h
   refine cS (cS (cR (oY O (yMI O) (oY O (yMS O) (oY O (bd (us:=[]) fZ O) (oY O (bA O O) (oN (eT ?_))))))))
   rcases iOs h with⟨H,h⟩|⟨H,h⟩
   ·refine cT (vB H) (cK (eT (cS (cB (cS ?_)))))
    refine aU 9 cD (by kernel_rfl) (by kernel_rfl) ?_
    refine qY O (yMS O) (qY O (yMI O) ?_)
    obtain⟨w,h⟩:=gOs h
    refine qY O (yI lw (by decide) w.1 w.2 (RdL.arg g) (eL au O) O O) ?_
    refine qY O (yM (A:=Aa) (j:=(Int.toNat d.2*2)) [vI ((rdL p0 d.2).fFrom),vI ((rdL p0 d.2).fTo)] lW (Nat.succ_pos _) (RdL.arg g) O (aM au w.1 (ao w.2 O))) (qY O (yMS O) (qY O (yMI O) ?_))
    obtain⟨D,h⟩:=gOs h
    refine qY O (yI lw (by decide) D.1 D.2 (RdL.arg r) (eL au O) O O) ?_
    refine qY O (yM (A:=Ac) (j:=(Int.toNat d.2*2)) [vI ((rdL p1 d.2).fFrom),vI ((rdL p1 d.2).fTo)] lW (Nat.succ_pos _) (RdL.arg r) O (aM au D.1 (ao D.2 O))) (qY O (ru (b:=(((rdL p0 d.2).fFrom==(rdL p1 d.2).fFrom)&&((rdL p0 d.2).fTo==(rdL p1 d.2).fTo))) eg_111 O O (fun _=>(eqS2 fl_111 (ep bN O) (ep bN O) (ep bN O) (ep bN O) (run_equalIn_int _ _ _ _ _ _ _ pQ) (run_equalIn_int _ _ _ _ _ _ _ pQ)))) (ck (oN (eT ?_))))
    rcases iOs h with⟨I,h⟩|⟨I,h⟩
    ·refine cT (vB I) (cS (cR (oY O (yAB O) (oN (eT (ak (ai (ab ?_))))))))
     obtain rfl:=sI h
     exact ay ⟨O,_,O,(kp4 O)⟩
    ·refine cF (vB I) (cK (aq (eT (cR (oY O (yMI O) (oY O (bc O O) (oY O (yAI O) (oN ?_))))))))
     obtain rfl:=sI h
     exact eN ⟨_,O,(kp4 O)⟩
   ·refine cF (vB H) (aK (ah ?_))
    obtain rfl:=sI h
    exact ay ⟨O,_,O,(kp4 O)⟩
  ·intro e L tm hJ
   rcases Y with X|Z
   ·dsimp only at h hJ
    obtain⟨rfl,K,rfl,rfl⟩:=hJ
    refine⟨(by intro hc;cases hc),?_⟩
    refine ai (ab ?_)
    obtain rfl:=sI h
    exact am (.inl O) O (rVt (v:=.bool X.1) O) (fun W2 u=>⟨O,u.none⟩)
   ·dsimp only at h hJ
    obtain⟨rfl,M,rfl,rfl⟩:=hJ
    refine⟨(by intro hc;cases hc),?_⟩
    refine ag (eT (cS (cR (oY O (yAB O) (oN (eT (ak ?_)))))))
    obtain rfl:=sI h
    exact am (.inl O) O (rVt (v:=.bool true) O) (fun W2 u=>⟨O,u.none⟩)
end Go.Proofs.YtbblpokfbmekfaaGreat
