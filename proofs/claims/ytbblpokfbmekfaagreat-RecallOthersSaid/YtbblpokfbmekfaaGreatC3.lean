import Derived.Test.YtbblpokfbmekfaaGreatF
import Derived.Test.YtbblpokfbmekfaaGreatGv
import Derived.Test.YtbblpokfbmekfaaGreatG8
import Derived.Test.YtbblpokfbmekfaaGreatC1
set_option maxHeartbeats 4000000
set_option maxRecDepth 100000
set_option linter.unusedVariables false
namespace Go.Proofs.YtbblpokfbmekfaaGreat
open Go.RowKit (Below)
attribute [local irreducible] OX QX CX EX OpY Calls CallsIn
theorem jE (p0:TL) (p1:(List Int)) (res:(List (Int × Bool))) (h:eD p0 p1=some res) (W:World) (Aa:Option Addr) (I ca:Nat) (Y:I=p0.fNo.length) (E:Rd W Aa I ca (encL TNode_cells p0.fNo)) (Ab:Option Addr) (K cb:Nat) (g:List (Hd × TC)) (Z:K=p0.fC.length) (u:Rd W Ab K cb (encL TClaim_cells2 g)) (d:NestW W (fun z:TC=>z.fO) THop_cells g p0.fC) (Ac:Option Addr) (M cc:Nat) (V:M=p1.length) (N:Rd W Ac M cc (encL cI p1)) :
  Calls Tryz.prog 64 [.agg #[.slice Aa I ca,.slice Ab K cb],.slice Ac M cc].toArray W fun e W2=>∃x:Nat,e=.returned (.map (some x))∧Ext W W2 [mapV Tryz.prog 3 kI dx kB false x res]:=by
 subst Y
 subst Z
 subst V
 unfold eD at h
 refine jR (m:=33) Tryz.func64 O O (nB O) (cS (cR ?_))
 refine aP [.slice Aa p0.fNo.length ca,.slice Ab p0.fC.length cb] O O O (fun b=>?_)
 refine aP [.slice Ac p1.length cc] O O O (fun c=>?_)
 refine oY O (bC O) (oN (eT (cS (cR (oY O (yN 0 [.slice Aa p0.fNo.length ca,.slice Ab p0.fC.length cb] aF O O O) (oY O (yL 1 q8 O O O) ?_))))))
 obtain⟨y3,f1,h⟩:=bOs h
 refine db [.agg #[.slice Aa p0.fNo.length ca,.slice Ab p0.fC.length cb],.slice Ac p1.length cc] _ _ O go_65 O (fun W2 f=>dw p0 p1 y3 f1 W2 Aa p0.fNo.length ca O ((RdL.arg E) W2 f) Ab p0.fC.length cb g O ((RdL.arg u) W2 f) (NestL.at (NestL.arg d) W2 f) Ac p1.length cc O ((RdL.arg N) W2 f)) ?_
 rintro U
 refine aC ze_94 O (fun b6=>?_)
 refine cr O (cn 3 (v:=.map (some U)) sz_94 O (Nat.lt_of_lt_of_le (Nat.lt_succ_self _) (nB O)) O O O) (oN (eT (cS (cS (cR (oY O (yN 0 [.slice Aa p0.fNo.length ca,.slice Ab p0.fC.length cb] aF O O O) ?_))))))
 obtain⟨y7,f2,h⟩:=bOs h
 refine db [.agg #[.slice Aa p0.fNo.length ca,.slice Ab p0.fC.length cb]] _ _ O go_86 O (fun W2 f=>gg p0 y7 f2 W2 Aa p0.fNo.length ca O ((RdL.arg E) W2 f) Ab p0.fC.length cb g O ((RdL.arg u) W2 f) (NestL.at (NestL.arg d) W2 f)) ?_
 rintro T
 refine oN (eT (cB ?_))
 obtain⟨hok47,h⟩:=gOs h
 obtain⟨fN,S,h⟩:=bOs h
 refine mH (caps:=[.pointer (some ⟨T,0,none⟩)]) (fun(s:(List (Int × Bool))) L=>L=[aj b 25 [.slice Aa p0.fNo.length ca,.slice Ab p0.fC.length cb],aj c 26 [.slice Ac p1.length cc],mapV Tryz.prog 3 kI dx kB false U s,aj b6 94 [.map (some U)],aj T 25 [.slice Aa p0.fNo.length ca,.slice Ab p0.fC.length cb]]) (fun(_:Unit) _ _=>False) S O si (en p0 hok47 T Aa p0.fNo.length ca Ab p0.fC.length cb O g d.p) (fun W2 s L hI f=>by obtain rfl:=hI;exact⟨(RdL.cells 4 O) W2 f,(RdL.arg u) W2 f⟩) O (fun _ _ _ h=>h.elim) ?_ ?_ ?_
 ·rintro D10 l11 rec12 F G Q r L st hrec13 rfl h
  unfold fG at h
  refine cR ?_
  try dsimp only[lna,lca,lsz,lss]
  refine oY O (yAS O) (oN (nO 6 O hrec13 (cB (cS ?_))))
  refine aU 4 cD (by kernel_rfl) (by kernel_rfl) ?_
  refine qY O (yN 0 [.slice Aa p0.fNo.length ca,.slice Ab p0.fC.length cb] aF O O O) (qY O (yL 1 q8 O O O) (qY O (yMS O) ?_))
  obtain⟨f3,R,h⟩:=bOs h
  refine qY O (yC [.slice F r.length G] go_88 O (fun W2 f=>j6 r f3 R W2 F r.length G O ((RdL.row 7 O) W2 f)) O) (ck ?_)
  obtain⟨H,n,h⟩:=bOs h
  refine db [.agg #[.slice Aa p0.fNo.length ca,.slice Ab p0.fC.length cb],.slice Ac p1.length cc,.func (.func 132) #[.slice F r.length G] #[]] _ _ O go_87 O (fun W2 f=>f9 p0 p1 (fun f4 fr=>bf r f4 fr) H n W2 Aa p0.fNo.length ca O ((RdL.arg E) W2 f) Ab p0.fC.length cb g O ((RdL.arg u) W2 f) (NestL.at (NestL.arg d) W2 f) Ac p1.length cc O ((RdL.arg N) W2 f) 132 [.slice F r.length G] [] go_132 (fun W3 hb x0 x1 y hxy=>gZ r x0 x1  y hxy W3 F r.length G O (((RdL.row 7 O) W2 f).later hb))) ?_
  rintro l
  try dsimp only[lna,lca,lsz,lss]
  refine oY O (bC O) (oN (eT (cS (cR (oY O (yL 3 sc_94 O O O) (ql 2 O mR ku O O (fun a k31 hk32=>(oN (eT (cB (n7 (fun(w:Nat × (Int→Bool) × (List (Int × Bool))) L tm=>DropI dx false (fun o=>(!(ax false H o))) Q w∧∃(i:Nat→Value),L=[aj b 25 [.slice Aa p0.fNo.length ca,.slice Ab p0.fC.length cb],aj c 26 [.slice Ac p1.length cc],rc Tryz.prog 3 kI dx kB false U a w.2.2 w.2.1 w.1 none,aj b6 94 [.map (some U)],aj T 25 [.slice Aa p0.fNo.length ca,.slice Ab p0.fC.length cb],dfR D10,lpR l11 { rec12 with state:=.busy },aO F G 3 1 r.length (encL cI r),mapV Tryz.prog 3 kI dx kB false l H]∧tm=(upd (upd (upd (upd (upd (upd (upd (upd (upd (upd i 0 (.agg #[.slice Aa p0.fNo.length ca,.slice Ab p0.fC.length cb])) 1 (.slice Ac p1.length cc)) 2 (.pointer (some ⟨b,0,none⟩))) 3 (.pointer (some ⟨c,0,none⟩))) 4 (.map none)) 5 (.pointer (some ⟨b6,0,none⟩))) 13 (.func (.func 130) #[] #[.pointer (some ⟨T,0,none⟩)])) 6 (.slice F r.length G)) 7 (.map (some l))) 21 (.pointer (some ⟨a,0,none⟩)))) (fun s=>s.1) (k31,(fun y=>bH Q y),Q) ⟨DropI.start,_,O,(kp4 (kp4 (kp (kp O))))⟩ ?_)))))))))))
  rintro w L tm ⟨hI43,i,rfl,rfl⟩
  refine cS (cR ?_)
  refine rQ 2 O mR O O (fun hno39=>?_) (fun o k34 X hly36 hM37 hk38=>?_)
  ·refine oY O (yE O O) (oN (eT (cS (cF O (aK (ah ?_))))))
   refine pk (by intro h;cases h) ?_
   refine qF 2 O (qb 2 (Q.filter (fun p => !(fun o=>(!(ax false H o))) p.1)) mR O (hI43.done hno39) ?_)
   try dsimp only[lsz,lss]
   refine ag (aq (aS 8 ?_))
   obtain rfl:=sI h
   exact mX [aj b 25 [.slice Aa p0.fNo.length ca,.slice Ab p0.fC.length cb],aj c 26 [.slice Ac p1.length cc],mapV Tryz.prog 3 kI dx kB false U (Q.filter (fun p => !(fun o=>(!(ax false H o))) p.1)),aj b6 94 [.map (some U)],aj T 25 [.slice Aa p0.fNo.length ca,.slice Ab p0.fC.length cb]] O
  ·refine oY O (yE O O) (oN (eT (cS (cT O (cK (eT (cB (cS (cR (oY O (rK 2 O O) (oY O (yE O O) (oY O (yAI O) (oN (eT (cS (cR (oY O (bm O) (oY O (yMI O) (oY O (ga (k:=o) (MpL.own 8 O) mR ku ze_4 O O X) (oY O (fe O) (oN (eT ?_))))))))))))))))))))))
   rcases aB (!(ax false H o))with D|D
   ·refine cT (vB D) (cR (oY O (yL 3 sc_94 O O O) (oY O (yMI O) ?_)))
    refine ox_deleteR 2 (k:=o) O mR ku O O X (by simp) O (fun j hc241=>?_)
    refine oN (aq (mQ 2 O ?_))
    exact l3 (j,(fun q=>w.2.1 q && !decide (q=o)),(nx w.2.2 o)) ⟨hI43.del D hM37,_,O,(kp4 (kp4 (kp (kp O))))⟩ (Nat.lt_of_le_of_lt hc241 hk38)
   ·refine cF (vB D) (cK (aq (mQ 2 O ?_)))
    exact l3 (k34,(fun q=>w.2.1 q && !decide (q=o)),w.2.2) ⟨hI43.keep D,_,O,(kp4 (kp4 (kp (kp O))))⟩ hk38
 ·rintro D10 g1 L hst rfl
  subst hst
  dsimp only at h
  refine aq (eT (cS (cR ?_)))
  try dsimp only[lna,lca,lsz,lss]
  refine oY O (yL 3 sc_94 O O O) (oY O (bC O) (oN (eT (ak (ex_M1 5 O (.inl O) ?_)))))
  obtain rfl:=sI h
  exact am (.inl O) O (rVt (v:=.map (some U)) O) (fun W2 f=>⟨U,O,(f.pick 2 O)⟩)
 ·intro D10 t e L _ hh
  exact hh.elim
theorem pb (p0:TL) (p1:Int) (res:((List Int) × (List Int) × Int)) (h:gQ p0 p1=some res) (W:World) (Aa:Option Addr) (Q ca:Nat) (a:Q=p0.fNo.length) (r:Rd W Aa Q ca (encL TNode_cells p0.fNo)) (Ab:Option Addr) (U cb:Nat) (o:List (Hd × TC)) (i:U=p0.fC.length) (u:Rd W Ab U cb (encL TClaim_cells2 o)) (d:NestW W (fun z:TC=>z.fO) THop_cells o p0.fC) :
  Calls Tryz.prog 15 [.agg #[.slice Aa Q ca,.slice Ab U cb],vI p1].toArray W fun e W2=>∃x:((Option Addr × Nat × Nat) × (Option Addr × Nat × Nat)),(x.1.2.1=res.1.length∧x.2.2.1=res.2.1.length)∧e=.returned (.tuple #[.slice x.1.1 x.1.2.1 x.1.2.2,.slice x.2.1 x.2.2.1 x.2.2.2,vI res.2.2])∧Ext W W2 [aO x.1.1 x.1.2.2 3 1 x.1.2.1 (encL cI res.1),aO x.2.1 x.2.2.2 3 1 x.2.2.1 (encL cI res.2.1)]:=by
 subst a
 subst i
 unfold gQ at h
 refine ae (m:=51) Tryz.func15 O O (nB O) (cS (cR ?_))
 refine aP [.slice Aa p0.fNo.length ca,.slice Ab p0.fC.length cb] O O O (fun b1=>?_)
 refine oY O (yAS O) (oY O (yAS O) (oY O (yAI O) (oN (eT (cS (cS (cR (oY O (yN 0 [.slice Aa p0.fNo.length ca,.slice Ab p0.fC.length cb] aF O O O) ?_))))))))
 obtain⟨y2,oa,h⟩:=bOs h
 refine oY O (yC [.agg #[.slice Aa p0.fNo.length ca,.slice Ab p0.fC.length cb]] sB O (fun W2 f=>dm p0 y2 oa W2 Aa p0.fNo.length ca O ((RdL.arg r) W2 f) Ab p0.fC.length cb o O ((RdL.arg u) W2 f) (NestL.at (NestL.arg d) W2 f)) O) (oY O (yAI O) (oN (eT (cS (cR (oY O (yMI O) (oY O (dD O O) (oN (eT ?_)))))))))
 rcases iOs h with⟨y,h⟩|⟨y,h⟩
 ·refine cT (vB y) (cS (cR (oY O (yMI O) (oY O (yAS O) (oY O (yAS O) (oY O (yAI O) (oN (eT (ak (ab ?_))))))))))
  obtain rfl:=sI h
  exact lZ (.inl O) O (rVt (v:=.slice none 0 0) O) (rVt (v:=.slice none 0 0) O) (rVt (v:=vI y2) O) (fun W2 f=>⟨((none,0,0),(none,0,0)),⟨O,O⟩,O,((f.nilrow 3 1).nilrow 3 1).pickL [1,2] (by decide) O⟩)
 ·refine cF (vB y) (cK (eT (cS (cS (cR (oY O (yN 0 [.slice Aa p0.fNo.length ca,.slice Ab p0.fC.length cb] aF O O O) (oY O (yMI O) ?_)))))))
  obtain⟨y5,oi,h⟩:=bOs h
  refine oY O (yC [.agg #[.slice Aa p0.fNo.length ca,.slice Ab p0.fC.length cb],vI p1] s4 O (fun W2 f=>dA p0 p1 y5 oi W2 Aa p0.fNo.length ca O ((RdL.arg r) W2 f) Ab p0.fC.length cb o O ((RdL.arg u) W2 f) (NestL.at (NestL.arg d) W2 f)) O) (oY O (bA O O) (oN (eT ?_)))
  rcases iOs h with⟨b,h⟩|⟨b,h⟩
  ·refine cT (vB b) (cS (cR (oY O (yAS O) (oY O (yAS O) (oY O (yAI O) (oN (eT (ak (ab ?_)))))))))
   obtain rfl:=sI h
   exact lZ (.inl O) O (rVt (v:=.slice none 0 0) O) (rVt (v:=.slice none 0 0) O) (rVt (v:=vI 5) O) (fun W2 f=>⟨((none,0,0),(none,0,0)),⟨O,O⟩,O,((f.nilrow 3 1).nilrow 3 1).pickL [1,2] (by decide) O⟩)
  ·refine cF (vB b) (cK (eT (cS (cR (oY O (yAS O) (oY O (yAS O) (oN (eT (cS (cS (cR (oY O (yN 0 [.slice Aa p0.fNo.length ca,.slice Ab p0.fC.length cb] aF O O O) ?_))))))))))))
   obtain⟨G,oj,h⟩:=bOs h
   refine oC [.agg #[.slice Aa p0.fNo.length ca,.slice Ab p0.fC.length cb]] _ _ _ O go_63 O (fun W2 f=>pq p0 G oj W2 Aa p0.fNo.length ca O ((RdL.arg r) W2 f) Ab p0.fC.length cb o O ((RdL.arg u) W2 f) (NestL.at (NestL.arg d) W2 f)) ?_
   rintro⟨c,ok,f0⟩ X
   replace X:ok=G.length:=X;subst X
   refine oY O (bd (us:=[]) c6 O) (oY O (yMI O) (oN (eT (cB ?_))))
   obtain⟨q,f1,h⟩:=bOs h
   refine cN 3 1 (cN 3 1 ?_)
   refine bF (fun(s:(Int × (List Int) × (List Int))) L tm=>∃(r0:Nat→Value) (p:Option Addr) (n:Nat) (Y:Nat) (l:Option Addr) (t:Nat) (Z:Nat),Y=s.2.1.length∧Z=s.2.2.length∧L=[aj b1 25 [.slice Aa p0.fNo.length ca,.slice Ab p0.fC.length cb],aO c f0 3 1 G.length (encL cI G),aO p n 3 1 Y (encL cI s.2.1),aO l t 3 1 Z (encL cI s.2.2)]∧tm=(upd (upd (upd (upd (upd (upd (upd (upd (upd (upd r0 1 (vI p1)) 2 (.pointer (some ⟨b1,0,none⟩))) 4 (.slice none 0 0)) 5 (.slice none 0 0)) 6 (vI 0)) 8 (.slice p Y n)) 9 (.slice l Z t)) 22 (.slice c G.length f0)) 23 (vI (G.length:Int))) 24 (vI s.1))) 0 f1 ⟨_,none,0,0,none,0,0,O,O,O,(kp4 (kp4 (kp (kp O))))⟩ ?_ ?_
   ·rintro g L tm st ⟨f2,w,D,oq,E,F,op,rfl,rfl,rfl,rfl⟩ h
    unfold gl at h
    refine cS (cR (oY O (bA O O) (oN (eT (cS ?_)))))
    rcases iOs h with⟨V,h⟩|⟨V,h⟩
    ·refine cT (vB V) (cK (eT (cS (cB (cS (cR ?_))))))
     obtain⟨H,h⟩:=gOs h
     refine oY O (yI gM (by decide) H.1 H.2 (RdL.row 1 O) (eL aG O) O O) ?_
     refine oY O (yR (A:=c) (j:=(Int.toNat g.1*1)) (v:=vI (rdL G g.1)) bN (RdL.row 1 O) O (bB aG H.1 (ao H.2 O) O)) (oY O (yAI O) (oN (eT (cS (cS (cR (oY O (yN 0 [.slice Aa p0.fNo.length ca,.slice Ab p0.fC.length cb] aF O O O) (oY O (yMI O) ?_))))))))
     refine ap 1 (encL cI [(rdL G g.1)]) _ ib c6 mf mC (by decide) (by decide) (by kernel_rfl) (eL aG O) O (fun f3=>?_)
     obtain⟨r1,f4,h⟩:=bOs h
     refine db [.agg #[.slice Aa p0.fNo.length ca,.slice Ab p0.fC.length cb],.slice (some ⟨f3,0,none⟩) 1 1] _ _ O go_64 O (fun W2 f=>jE p0 [(rdL G g.1)] r1 f4 W2 Aa p0.fNo.length ca O ((RdL.arg r) W2 f) Ab p0.fC.length cb o O ((RdL.arg u) W2 f) (NestL.at (NestL.arg d) W2 f) (some ⟨f3,0,none⟩) 1 1 O ((RdL.row 4 O) W2 f)) ?_
     rintro u4
     try dsimp only[lna,lca,lsz,lss]
     refine oY O (yMI O) ?_
     obtain⟨fr,h⟩:=gOs h
     refine oY O (ga (k:=p1) (MpL.own 5 O) mR ku ze_4 O O fr) (oN (eT ?_))
     rcases iOs h with⟨T,h⟩|⟨T,h⟩
     ·refine cT (vB T) (cR (oY O (yMS O) (oY O (yMI O) ?_)))
      refine ap 1 (encL cI [(rdL G g.1)]) _ ib c6 mf mC (by decide) (by decide) (by kernel_rfl) (eL aG O) O (fun u5=>?_)
      try dsimp only[lna,lca,lsz,lss]
      obtain⟨fd,h⟩:=gOs h
      refine bg 2 c6 mf mC O O O (RdL.row 6 O) (eL aG O) (cg qg _) (cp fd (by decide)) O (fun fE fN=>?_)
      refine oY O (yAS O) (oN (eT (cS (cR (oY O (yN 0 [.slice Aa p0.fNo.length ca,.slice Ab p0.fC.length cb] aF O O O) (oY O (yMI O) ?_))))))
      refine ap 1 (encL cI [(rdL G g.1)]) _ ib c6 mf mC (by decide) (by decide) (by kernel_rfl) (eL aG O) O (fun fn=>?_)
      try dsimp only[lna,lca,lsz,lss]
      obtain⟨r2,fl,h⟩:=bOs h
      refine db [.agg #[.slice Aa p0.fNo.length ca,.slice Ab p0.fC.length cb],.slice (some ⟨fn,0,none⟩) 1 1] _ _ O go_65 O (fun W2 f=>dw p0 [(rdL G g.1)] r2 fl W2 Aa p0.fNo.length ca O ((RdL.arg r) W2 f) Ab p0.fC.length cb o O ((RdL.arg u) W2 f) (NestL.at (NestL.arg d) W2 f) (some ⟨fn,0,none⟩) 1 1 O ((RdL.row 7 O) W2 f)) ?_
      rintro u6
      try dsimp only[lna,lca,lsz,lss]
      refine oY O (yMI O) ?_
      obtain⟨g1,h⟩:=gOs h
      refine oY O (ga (k:=p1) (MpL.own 8 O) mR ku ze_4 O O g1) (oN (eT ?_))
      rcases iOs h with⟨S,h⟩|⟨S,h⟩
      ·refine cT (vB S) (cR (oY O (yMS O) (oY O (yMI O) ?_)))
       refine ap 1 (encL cI [(rdL G g.1)]) _ ib c6 mf mC (by decide) (by decide) (by kernel_rfl) (eL aG O) O (fun u7=>?_)
       try dsimp only[lna,lca,lsz,lss]
       obtain⟨g2,h⟩:=gOs h
       refine bg 3 c6 mf mC O O O (RdL.row 9 O) (eL aG O) (cg qg _) (cp g2 (by decide)) O (fun r3 r4=>?_)
       refine oY O (yAS O) (oN (aq (eT (cR (oY O (bc O O) (oY O (yMI O) (oN (aS 4 ?_))))))))
       obtain rfl:=sI h
       exact eN ⟨_,fE,fN,(g.2.1.length+1),r3,r4,(g.2.2.length+1),(fD O O),(fD O O),O,(kp4 (kp4 (kp (kp O))))⟩
      ·refine cF (vB S) (cK (aq (eT (cR (oY O (bc O O) (oY O (yMI O) (oN (aS 4 ?_))))))))
       obtain rfl:=sI h
       exact eN ⟨_,fE,fN,(g.2.1.length+1),E,F,g.2.2.length,(fD O O),O,O,(kp4 (kp4 (kp (kp O))))⟩
     ·refine cF (vB T) (cK (eT (cS (cR (oY O (yN 0 [.slice Aa p0.fNo.length ca,.slice Ab p0.fC.length cb] aF O O O) (oY O (yMI O) ?_))))))
      refine ap 1 (encL cI [(rdL G g.1)]) _ ib c6 mf mC (by decide) (by decide) (by kernel_rfl) (eL aG O) O (fun g3=>?_)
      try dsimp only[lna,lca,lsz,lss]
      obtain⟨rd,gf,h⟩:=bOs h
      refine db [.agg #[.slice Aa p0.fNo.length ca,.slice Ab p0.fC.length cb],.slice (some ⟨g3,0,none⟩) 1 1] _ _ O go_65 O (fun W2 f=>dw p0 [(rdL G g.1)] rd gf W2 Aa p0.fNo.length ca O ((RdL.arg r) W2 f) Ab p0.fC.length cb o O ((RdL.arg u) W2 f) (NestL.at (NestL.arg d) W2 f) (some ⟨g3,0,none⟩) 1 1 O ((RdL.row 6 O) W2 f)) ?_
      rintro u8
      try dsimp only[lna,lca,lsz,lss]
      refine oY O (yMI O) ?_
      obtain⟨o0,h⟩:=gOs h
      refine oY O (ga (k:=p1) (MpL.own 7 O) mR ku ze_4 O O o0) (oN (eT ?_))
      rcases iOs h with⟨R,h⟩|⟨R,h⟩
      ·refine cT (vB R) (cR (oY O (yMS O) (oY O (yMI O) ?_)))
       refine ap 1 (encL cI [(rdL G g.1)]) _ ib c6 mf mC (by decide) (by decide) (by kernel_rfl) (eL aG O) O (fun u9=>?_)
       try dsimp only[lna,lca,lsz,lss]
       obtain⟨o1,h⟩:=gOs h
       refine bg 3 c6 mf mC O O O (RdL.row 8 O) (eL aG O) (cg qg _) (cp o1 (by decide)) O (fun rx u0=>?_)
       refine oY O (yAS O) (oN (aq (eT (cR (oY O (bc O O) (oY O (yMI O) (oN (aS 4 ?_))))))))
       obtain rfl:=sI h
       exact eN ⟨_,w,D,g.2.1.length,rx,u0,(g.2.2.length+1),O,(fD O O),O,(kp4 (kp4 (kp (kp O))))⟩
      ·refine cF (vB R) (cK (aq (eT (cR (oY O (bc O O) (oY O (yMI O) (oN (aS 4 ?_))))))))
       obtain rfl:=sI h
       exact eN ⟨_,w,D,g.2.1.length,E,F,g.2.2.length,O,O,O,(kp4 (kp4 (kp (kp O))))⟩
    ·refine cF (vB V) (aK (ah ?_))
     obtain rfl:=sI h
     exact ay ⟨O,_,w,D,g.2.1.length,E,F,g.2.2.length,O,O,O,(kp4 (kp4 (kp (kp O))))⟩
   ·intro e L tm hJ
    obtain⟨rfl,o2,I,K,om,M,N,ot,rfl,rfl,rfl,rfl⟩:=hJ
    refine⟨(by intro hc;cases hc),?_⟩
    refine ag (eT (cS (cR (oY O (yMS O) (oY O (yMS O) (oY O (yAS O) (oY O (yAS O) (oY O (yAI O) (oN (eT (ak ?_)))))))))))
    obtain rfl:=sI h
    exact lZ (.inl O) O (rVt (v:=.slice I q.2.1.length K) O) (rVt (v:=.slice M q.2.2.length N) O) (rVt (v:=vI 0) O) (fun W2 f=>⟨((I,q.2.1.length,K),(M,q.2.2.length,N)),⟨O,O⟩,O,f.pickL [2,3] (by decide) O⟩)
theorem hU (p0:(List Int)) (p1:Int→Option Int) (p2:Int→Option Bool) (res:Bool) (h:bz p0 p1 p2=some res) (W:World) (Aa:Option Addr) (D ca:Nat) (I:D=p0.length) (u:Rd W Aa D ca (encL cI p0)) (fid1:Nat) (fst1 caps1:List Value) (E:cE Tryz.prog fid1=true) (F:∀W2,Below W.heap.size W W2→∀x,∀y,p1 x=some y→Calls Tryz.prog fid1 (fst1++(([vI x]:List Value)++caps1)).toArray W2 fun e W3=>e=.returned (vI y)∧Ext W2 W3 []) (fid2:Nat) (fst2 caps2:List Value) (M:cE Tryz.prog fid2=true) (N:∀W2,Below W.heap.size W W2→∀x,∀y,p2 x=some y→Calls Tryz.prog fid2 (fst2++(([vI x]:List Value)++caps2)).toArray W2 fun e W3=>e=.returned (.bool y)∧Ext W2 W3 []) :
  Calls Tryz.prog 134 [.slice Aa D ca,.func (.func fid1) fst1.toArray caps1.toArray,.func (.func fid2) fst2.toArray caps2.toArray].toArray W fun e W2=>e=.returned (.bool res)∧Ext W W2 []:=by
 subst I
 unfold bz at h
 refine ae (m:=40) Tryz.func134 O O (nB O) (cS (cR (oY O (yAB O) (oN (eT (cS (cS (cR (oY O (yMS O) (oY O (bd (us:=[]) c6 O) (oY O (yMI O) (oN (eT (cB ?_))))))))))))))
 obtain⟨k,Q,h⟩:=bOs h
 refine bW (fun(s:(Bool × Int)) L tm=>∃(d:Nat→Value),L=[]∧tm=(upd (upd (upd (upd (upd (upd (upd d 0 (.slice Aa p0.length ca)) 1 (.func (.func fid1) fst1.toArray caps1.toArray)) 2 (.func (.func fid2) fst2.toArray caps2.toArray)) 6 (.bool s.1)) 9 (.slice Aa p0.length ca)) 10 (vI (p0.length:Int))) 11 (vI s.2))) 0 Q ⟨_,O,(kp4 (kp (kp (kp O))))⟩ ?_ ?_
 ·rintro r L tm st ⟨S,rfl,rfl⟩ h
  unfold a8 at h
  refine cS (cR (oY O (bA O O) (oN (eT (cS ?_)))))
  rcases iOs h with⟨K,h⟩|⟨K,h⟩
  ·refine cT (vB K) (cK (eT (cS (cB (cS (cR (oY O (yMI O) ?_)))))))
   obtain⟨H,h⟩:=gOs h
   refine oY O (yI gM (by decide) H.1 H.2 (RdL.arg u) (eL aG O) O O) ?_
   refine oY O (yR (A:=Aa) (j:=(Int.toNat r.2*1)) (v:=vI (rdL p0 r.2)) bN (RdL.arg u) O (bB aG H.1 (ao H.2 O) O)) (oY O (yAI O) (oY O (yAI O) (oN (eT (cS ?_)))))
   refine aU 23 cD (by kernel_rfl) (by kernel_rfl) ?_
   refine qY O (iO (v:=.func (.func fid2) fst2.toArray caps2.toArray) O) (qY O (iO (v:=.func (.func fid1) fst1.toArray caps1.toArray) O) (qY O (yMI O) ?_))
   obtain⟨R,q,h⟩:=bOs h
   refine qY O (iH [vI (rdL p0 r.2)] E O O (fun W2 o=>F W2 o.below (rdL p0 r.2) R q)) ?_
   obtain⟨i,p,h⟩:=bOs h
   refine qY O (iH [vI R] M O O (fun W2 o=>N W2 o.below R i p)) (qY O (fe O) (qY O (yMB O) ?_))
   obtain⟨n,U,h⟩:=bOs h
   refine qJ 16 (fun d=>(upd (upd (upd (upd (upd (upd (upd (upd (upd (upd (upd d 0 (.slice Aa p0.length ca)) 1 (.func (.func fid1) fst1.toArray caps1.toArray)) 2 (.func (.func fid2) fst2.toArray caps2.toArray)) 6 (.bool r.1)) 9 (.slice Aa p0.length ca)) 10 (vI (p0.length:Int))) 11 (vI r.2)) 12 (.bool (decide (r.2<(p0.length:Int))))) 7 (vI r.2)) 8 (vI (rdL p0 r.2))) 38 (.bool n))) (fun d=>?_) (fun key=>?_)
   ·refine ck (oN (eT ?_))
    rcases iOs h with⟨G,h⟩|⟨G,h⟩
    ·refine cT (vB G) (cS (cR (oY O (yAB O) (oN (eT (ak (ai (ab ?_))))))))
     obtain rfl:=sI h
     exact ay ⟨O,_,O,(kp4 (kp (kp (kp O))))⟩
    ·refine cF (vB G) (cK (aq (eT (cR (oY O (bc O O) (oY O (yMI O) (oN ?_)))))))
     obtain rfl:=sI h
     exact eN ⟨_,O,(kp4 (kp (kp (kp O))))⟩
   ·clear h;rcases iOs U with⟨g,h⟩|⟨g,h⟩
    ·refine ar (sF O O O O g) (ar (sF O O O O g) (ar (sF O O O O g) (ar O (ar O (ar O (ar O (ar O (ar O (ar O (ar O (ar O (ar O (ar O (ar (sF O O O O g) (qY O (aw (vB g) O) ?_)))))))))))))))
     obtain rfl:=sI h
     exact key _ _ (kp4 (kp4 (kp (kp (kp O)))))
    ·refine qY (sT O O O O g) (yMI O) (qY (sT O O O O g) (mq O O) (qY (sT O O O O g) (yMB O) ?_))
     obtain⟨l,X,h⟩:=bOs h
     refine qJ 12 (fun d=>(upd (upd (upd (upd (upd (upd (upd (upd (upd (upd (upd (upd d 0 (.slice Aa p0.length ca)) 1 (.func (.func fid1) fst1.toArray caps1.toArray)) 2 (.func (.func fid2) fst2.toArray caps2.toArray)) 6 (.bool r.1)) 9 (.slice Aa p0.length ca)) 10 (vI (p0.length:Int))) 11 (vI r.2)) 12 (.bool (decide (r.2<(p0.length:Int))))) 7 (vI r.2)) 8 (vI (rdL p0 r.2))) 22 (.bool (!i))) 37 (.bool l))) (fun d=>?_) (fun key=>?_)
     ·refine qY O (av (vB g) O) ?_
      obtain rfl:=sI h
      exact key _ _ (kp4 (kp4 (kp (kp (kp O)))))
     ·clear h;rcases iOs X with⟨f,h⟩|⟨f,h⟩
      ·refine qY (sT O O O O f) (iO (v:=.func (.func fid1) fst1.toArray caps1.toArray) O) (qY (sT O O O O f) (yMI O) ?_)
       obtain⟨t,Y,h⟩:=bOs h
       refine qY (sT O O O O f) (iH [vI (rdL p0 r.2)] E O O (fun W2 o=>F W2 o.below (rdL p0 r.2) t Y)) (qY (sT O O O O f) (iO (v:=.func (.func fid1) fst1.toArray caps1.toArray) O) (qY (sT O O O O f) (yMS O) (qY (sT O O O O f) (yMI O) (qY (sT O O O O f) (nq O O) ?_))))
       obtain⟨w,h⟩:=gOs h
       refine qY (sT O O O O f) (yI gM (by decide) w.1 w.2 (RdL.arg u) (eL aG O) O O) ?_
       refine qY (sT O O O O f) (yR (A:=Aa) (j:=(Int.toNat (w64 (r.2-1))*1)) (v:=vI (rdL p0 (w64 (r.2-1)))) bN (RdL.arg u) O (bB aG w.1 (ao w.2 O) O)) ?_
       obtain⟨a,Z,h⟩:=bOs h
       refine qY (sT O O O O f) (iH [vI (rdL p0 (w64 (r.2-1)))] E O O (fun W2 o=>F W2 o.below (rdL p0 (w64 (r.2-1))) a Z)) (qY (sT O O O O f) (pO O O) (qY (sT O O O O g) (aw (vB f) O) ?_))
       obtain rfl:=sI h
       exact key _ _ (kp4 (kp4 (kp4 O)))
      ·refine ar (sF O O O O f) (ar (sF O O O O f) (ar (sF O O O O f) (ar (sF O O O O f) (ar (sF O O O O f) (ar (sF O O O O f) (ar (sF O O O O f) (ar (sF O O O O f) (ar (sF O O O O f) (ar (sF O O O O f) (ar (sF O O O O f) (qY (sT O O O O g) (av (vB f) O) ?_)))))))))))
       obtain rfl:=sI h
       exact key _ _ (kp4 (kp4 (kp4 O)))
  ·refine cF (vB K) (aK (ah ?_))
   obtain rfl:=sI h
   exact ay ⟨O,_,O,(kp4 (kp (kp (kp O))))⟩
 ·intro e L tm hJ
  rcases k with z|b
  ·dsimp only at h hJ
   obtain⟨rfl,V,rfl,rfl⟩:=hJ
   refine⟨(by intro hc;cases hc),?_⟩
   refine ai (ab ?_)
   obtain rfl:=sI h
   exact am (.inl O) O (rVt (v:=.bool z.1) O) (fun W2 o=>⟨O,o.none⟩)
  ·dsimp only at h hJ
   obtain⟨rfl,T,rfl,rfl⟩:=hJ
   refine⟨(by intro hc;cases hc),?_⟩
   refine ag (eT (cS (cR (oY O (yAB O) (oN (eT (ak ?_)))))))
   obtain rfl:=sI h
   exact am (.inl O) O (rVt (v:=.bool true) O) (fun W2 o=>⟨O,o.none⟩)
theorem oy (p0:Int) (res:Int) (h:eb p0=some res) (W:World)  :
  Calls Tryz.prog 135 [vI p0].toArray W fun e W2=>e=.returned (vI res)∧Ext W W2 []:=by
 unfold eb at h
 refine ae (m:=4) Tryz.func135 O O (nB O) (cS (cR (oY O (yAI O) (oN (eT (cS (cR (oY O (yMI O) (oY O (yAI O) (oN (eT (ak ?_))))))))))))
 obtain rfl:=sI h
 exact am (.inl O) O (rVt (v:=vI p0) O) (fun W2 f=>⟨O,f.none⟩)
theorem ou (p0:Int) (f:TL) (res:Bool) (h:dp p0 f=some res) (W:World) (M:Nat) (g:Option Addr) (w o:Nat) (E:w=f.fNo.length) (F:Rd W g w o (encL TNode_cells f.fNo)) (r:Option Addr) (D u:Nat) (d:List (Hd × TC)) (G:D=f.fC.length) (H:Rd W r D u (encL TClaim_cells2 d)) (I:NestW W (fun z:TC=>z.fO) THop_cells d f.fC) (N:Rd W (some ⟨M,0,none⟩) 1 1 [.slice g w o,.slice r D u]) :
  Calls Tryz.prog 147 [vI p0,.pointer (some ⟨M,0,none⟩)].toArray W fun e W2=>e=.returned (.bool res)∧Ext W W2 []:=by
 subst E
 subst G
 unfold dp at h
 refine ae (m:=8) Tryz.func147 O O (nB O) (cS (cR (oY O (yAB O) (oN (eT (cS (cR (oY O (yM (A:=(some ⟨M,0,none⟩)) (j:=0) [.slice g f.fNo.length o,.slice r f.fC.length u] aF (Nat.succ_pos _) (RdL.arg N) O (gets_all O)) (oY O (yMI O) ?_)))))))))
 obtain⟨U,Q,h⟩:=bOs h
 refine oY O (yC [.agg #[.slice g f.fNo.length o,.slice r f.fC.length u],vI p0] s4 O (fun W2 K=>dA f p0 U Q W2 g f.fNo.length o O ((RdL.arg F) W2 K) r f.fC.length u d O ((RdL.arg H) W2 K) (NestL.at (NestL.arg I) W2 K)) O) (oY O (qf O O) (oY O (yAB O) (oN (eT (ak ?_)))))
 obtain rfl:=sI h
 exact am (.inl O) O (rVt (v:=.bool (decide (0≤U))) O) (fun W2 K=>⟨O,K.none⟩)
theorem pK (p0:TL) (p1:(List Int)) (res:Bool) (h:fp p0 p1=some res) (W:World) (Aa:Option Addr) (r ca:Nat) (w:r=p0.fNo.length) (D:Rd W Aa r ca (encL TNode_cells p0.fNo)) (Ab:Option Addr) (u cb:Nat) (g:List (Hd × TC)) (E:u=p0.fC.length) (F:Rd W Ab u cb (encL TClaim_cells2 g)) (G:NestW W (fun z:TC=>z.fO) THop_cells g p0.fC) (Ac:Option Addr) (d cc:Nat) (H:d=p1.length) (I:Rd W Ac d cc (encL cI p1)) :
  Calls Tryz.prog 124 [.agg #[.slice Aa r ca,.slice Ab u cb],.slice Ac d cc].toArray W fun e W2=>e=.returned (.bool res)∧Ext W W2 []:=by
 subst w
 subst E
 subst H
 unfold fp at h
 refine ae (m:=13) Tryz.func124 O O (nB O) (cS (cR ?_))
 refine aP [.slice Aa p0.fNo.length ca,.slice Ab p0.fC.length cb] O O O (fun M=>?_)
 refine oY O (yAB O) (oN (eT (cS (cR (oY O (yMS O) (oY O (bd (us:=[]) c6 O) (oY O (mq O O) (oY O (yMB O) ?_))))))))
 obtain⟨U,N,h⟩:=bOs h
 refine oJ 4 (fun K=>(upd (upd K 4 (.bool false)) 12 (.bool U))) (fun K=>?_) (fun key=>?_)
 ·refine oY O (yAB O) (oN (eT (ak ?_)))
  obtain rfl:=sI h
  exact am (.inl O) O (rVt (v:=.bool U) O) (fun W2 o=>⟨O,o.none⟩)
 ·clear h;rcases iOs N with⟨f,h⟩|⟨f,h⟩
  ·refine oY (sT O O O O f) (yMS O) (oY (sT O O O O f) (eS [.pointer (some ⟨M,0,none⟩)] O O) ?_)
   obtain⟨X,Q,h⟩:=bOs h
   refine oY (sT O O O O f) (yC [.slice Ac p1.length cc,.func (.func 135) #[] #[],.func (.func 147) #[] #[.pointer (some ⟨M,0,none⟩)]] go_134 O (fun W2 o=>hU p1 (fun Y=>eb Y) (fun Z=>dp Z p0) X Q W2 Ac p1.length cc O ((RdL.arg I) W2 o) 135 [] [] go_135 (fun W3 hb x y hxy=>oy  x  y hxy W3 ) 147 [] [.pointer (some ⟨M,0,none⟩)] go_147 (fun W3 hb x y hxy=>ou  x p0 y hxy W3 M Aa p0.fNo.length ca O (((RdL.arg D) W2 o).later hb) Ab p0.fC.length cb g O (((RdL.arg F) W2 o).later hb) ((NestL.at (NestL.arg G) W2 o).later hb) (((RdL.cells 0 O) W2 o).later hb))) O) (oY O (aw (vB f) O) ?_)
   obtain rfl:=sI h
   exact key _ _ (kp (kp O))
  ·refine oSk (sF O O O O f) (oSk (sF O O O O f) (oSk (sF O O O O f) (oY O (av (vB f) O) ?_)))
   obtain rfl:=sI h
   exact key _ _ (kp (kp O))
theorem f7 (p0:TL) (p1:(List Int)) (res:Int) (h:ct p0 p1=some res) (W:World) (Aa:Option Addr) (o ca:Nat) (E:o=p0.fNo.length) (r:Rd W Aa o ca (encL TNode_cells p0.fNo)) (Ab:Option Addr) (u cb:Nat) (g:List (Hd × TC)) (F:u=p0.fC.length) (d:Rd W Ab u cb (encL TClaim_cells2 g)) (w:NestW W (fun z:TC=>z.fO) THop_cells g p0.fC) (Ac:Option Addr) (D cc:Nat) (G:D=p1.length) (H:Rd W Ac D cc (encL cI p1)) :
  Calls Tryz.prog 70 [.agg #[.slice Aa o ca,.slice Ab u cb],.slice Ac D cc].toArray W fun e W2=>e=.returned (vI res)∧Ext W W2 []:=by
 subst E
 subst F
 subst G
 unfold ct at h
 refine ae (m:=15) Tryz.func70 O O (nB O) (cS (cR ?_))
 refine aP [.slice Aa p0.fNo.length ca,.slice Ab p0.fC.length cb] O O O (fun X=>?_)
 refine oY O (yAI O) (oN (eT (cS (cS (cR (oY O (yN 0 [.slice Aa p0.fNo.length ca,.slice Ab p0.fC.length cb] aF O O O) ?_))))))
 obtain⟨Q,M,h⟩:=bOs h
 refine oY O (yC [.agg #[.slice Aa p0.fNo.length ca,.slice Ab p0.fC.length cb]] sB O (fun W2 f=>dm p0 Q M W2 Aa p0.fNo.length ca O ((RdL.arg r) W2 f) Ab p0.fC.length cb g O ((RdL.arg d) W2 f) (NestL.at (NestL.arg w) W2 f)) O) (oY O (yAI O) (oN (eT (cS (cR (oY O (yMI O) (oY O (dD O O) (oN (eT ?_)))))))))
 rcases iOs h with⟨I,h⟩|⟨I,h⟩
 ·refine cT (vB I) (cS (cR (oY O (yMI O) (oY O (yAI O) (oN (eT (ak (ab ?_))))))))
  obtain rfl:=sI h
  exact am (.inl O) O (rVt (v:=vI Q) O) (fun W2 f=>⟨O,f.none⟩)
 ·refine cF (vB I) (cK (eT (cS (cS (cR (oY O (yN 0 [.slice Aa p0.fNo.length ca,.slice Ab p0.fC.length cb] aF O O O) (oY O (yMS O) ?_)))))))
  obtain⟨U,N,h⟩:=bOs h
  refine oY O (yC [.agg #[.slice Aa p0.fNo.length ca,.slice Ab p0.fC.length cb],.slice Ac p1.length cc] go_124 O (fun W2 f=>pK p0 p1 U N W2 Aa p0.fNo.length ca O ((RdL.arg r) W2 f) Ab p0.fC.length cb g O ((RdL.arg d) W2 f) (NestL.at (NestL.arg w) W2 f) Ac p1.length cc O ((RdL.arg H) W2 f)) O) (oY O (fe O) (oN (eT ?_)))
  rcases iOs h with⟨K,h⟩|⟨K,h⟩
  ·refine cT (vB K) (cS (cR (oY O (yAI O) (oN (eT (ak (ab ?_)))))))
   obtain rfl:=sI h
   exact am (.inl O) O (rVt (v:=vI 1) O) (fun W2 f=>⟨O,f.none⟩)
  ·refine cF (vB K) (cK (eT (cS (cR (oY O (yAI O) (oN (eT (ak ?_))))))))
   obtain rfl:=sI h
   exact am (.inl O) O (rVt (v:=vI 0) O) (fun W2 f=>⟨O,f.none⟩)
theorem k5 (p0:TL) (p1:(List (Int × Bool))) (res:((List Int) × Int)) (h:gb p0 p1=some res) (W:World) (Aa:Option Addr) (r ca:Nat) (I:r=p0.fNo.length) (u:Rd W Aa r ca (encL TNode_cells p0.fNo)) (Ab:Option Addr) (d cb:Nat) (w:List (Hd × TC)) (K:d=p0.fC.length) (p:Rd W Ab d cb (encL TClaim_cells2 w)) (n:NestW W (fun z:TC=>z.fO) THop_cells w p0.fC) (g:Nat) (hm1_0:(mapV Tryz.prog 3 kI dx kB false g p1).holds W) :
  Calls Tryz.prog 71 [.agg #[.slice Aa r ca,.slice Ab d cb],.map (some g)].toArray W fun e W2=>∃x:Option Addr × Nat × Nat,x.2.1=res.1.length∧e=.returned (.tuple #[.slice x.1 x.2.1 x.2.2,vI res.2])∧Ext W W2 [aO x.1 x.2.2 3 1 x.2.1 (encL cI res.1)]:=by
 subst I
 subst K
 unfold gb at h
 refine ae (m:=38) Tryz.func71 O O (nB O) (cS (cR ?_))
 refine aP [.slice Aa p0.fNo.length ca,.slice Ab p0.fC.length cb] O O O (fun i=>?_)
 refine oY O (yAS O) (oY O (yAI O) (oN (eT (cS (cR ?_)))))
 refine jx 3 kI dx kB false O (fun Q=>?_)
 refine oY O (bC O) (oN (eT (cS (cR (oY O (yAI O) (oN (eT (cS (cS (cR (oY O (yFA aY O) (oY O (yL 0 dK O O O) (oY O (bd (us:=[]) gE O) (oY O (yMI O) (oN (eT (cB ?_)))))))))))))))))
 obtain⟨a,U,h⟩:=bOs h
 refine bF (fun(s:(Int × Int × (List (Int × Bool)))) L tm=>∃(F:Nat→Value),L=[aj i 25 [.slice Aa p0.fNo.length ca,.slice Ab p0.fC.length cb],mapV Tryz.prog 3 kI dx kB false Q s.2.2]∧tm=(upd (upd (upd (upd (upd (upd (upd (upd F 1 (.map (some g))) 4 (.slice none 0 0)) 5 (vI 0)) 6 (.map (some Q))) 7 (vI s.1)) 12 (.slice Aa p0.fNo.length ca)) 13 (vI (p0.fNo.length:Int))) 14 (vI s.2.1))) 0 U ⟨_,O,(kp4 (kp4 O))⟩ ?_ ?_
 ·rintro o L tm st ⟨R,rfl,rfl⟩ h
  unfold iB at h
  refine cS (cR (oY O (bA O O) (oN (eT (cS ?_)))))
  rcases iOs h with⟨M,h⟩|⟨M,h⟩
  ·refine cT (vB M) (cK (eT (cS (cB (cS (cR ?_))))))
   obtain⟨G,h⟩:=gOs h
   refine oY O (yI jL (by decide) G.1 G.2 (RdL.arg u) (eL ad O) O O) ?_
   refine oY O (yM (A:=Aa) (j:=(Int.toNat o.2.1*3)) [vI ((rdL p0.fNo o.2.1).fID),vI ((rdL p0.fNo o.2.1).fLevel),vI ((rdL p0.fNo o.2.1).fCost)] mr (Nat.succ_pos _) (RdL.arg u) O (aM ad G.1 (ao G.2 O))) ?_
   refine aC j7 O (fun y=>?_)
   refine cr O (yS 2 [vI ((rdL p0.fNo o.2.1).fID),vI ((rdL p0.fNo o.2.1).fLevel),vI ((rdL p0.fNo o.2.1).fCost)] sz_97 O (nB O) O O O) (oN (eT (cS (cR (oY O (yFA ls O) (oY O (yL 2 bN O O O) (oY O (ig O O) (oY O (yMB O) ?_))))))))
   obtain⟨l,X,h⟩:=bOs h
   refine oJ 5 (fun F=>(upd (upd (upd (upd (upd (upd (upd (upd (upd (upd (upd F 1 (.map (some g))) 4 (.slice none 0 0)) 5 (vI 0)) 6 (.map (some Q))) 7 (vI o.1)) 12 (.slice Aa p0.fNo.length ca)) 13 (vI (p0.fNo.length:Int))) 14 (vI o.2.1)) 15 (.bool (decide (o.2.1<(p0.fNo.length:Int))))) 9 (.pointer (some ⟨y,0,none⟩))) 26 (.bool l))) (fun F=>?_) (fun key=>?_)
   ·refine oN (eT ?_)
    rcases iOs h with⟨D,h⟩|⟨D,h⟩
    ·refine cT (vB D) (cS (cR (oY O (bm O) (oY O (yFA gd O) (oY O (yL 2 bN O O O) ?_)))))
     obtain⟨Y,h⟩:=gOs h
     refine cr O (iR 1 (k:=(rdL p0.fNo o.2.1).fID) (v:=true) O mR ku O O O Y) (oN (eT (cR (oY O (yMI O) (oY O (yFA th O) (oY O (yL 2 bN O O O) (oY O (bc O O) (oY O (yAI O) (oN (aq (eT (cR (oY O (bc O O) (oY O (yMI O) (oN (aS 2 ?_))))))))))))))))
     obtain rfl:=sI h
     exact eN ⟨_,O,(kp4 (kp4 O))⟩
    ·refine cF (vB D) (cK (aq (eT (cR (oY O (bc O O) (oY O (yMI O) (oN (aS 2 ?_))))))))
     obtain rfl:=sI h
     exact eN ⟨_,O,(kp4 (kp4 O))⟩
   ·clear h;rcases iOs X with⟨f,h⟩|⟨f,h⟩
    ·refine oY (sT O O O O f) (bm O) (oY (sT O O O O f) (yFA gd O) (oY (sT O O O O f) (yL 2 bN O O O) ?_))
     obtain⟨Z,h⟩:=gOs h
     refine oY (sT O O O O f) (ga (k:=(rdL p0.fNo o.2.1).fID) (MpL.arg hm1_0) mR ku ze_4 O O Z) (oY O (aw (vB f) O) ?_)
     obtain rfl:=sI h
     exact key _ _ (kp4 (kp4 (kp (kp (kp O)))))
    ·refine oSk (sF O O O O f) (oSk (sF O O O O f) (oSk (sF O O O O f) (oSk (sF O O O O f) (oY O (av (vB f) O) ?_))))
     obtain rfl:=sI h
     exact key _ _ (kp4 (kp4 (kp (kp (kp O)))))
  ·refine cF (vB M) (aK (ah ?_))
   obtain rfl:=sI h
   exact ay ⟨O,_,O,(kp4 (kp4 O))⟩
 ·intro e L tm hJ
  obtain⟨rfl,q,rfl,rfl⟩:=hJ
  refine⟨(by intro hc;cases hc),?_⟩
  refine ag (eT (cS (cR (oY O (bm O) ?_))))
  obtain⟨H,V,h⟩:=bOs h
  refine oC [.map (some Q)] _ _ _ O go_96 O (fun W2 N=>d8 a.2.2 H V W2 Q ((MpL.own 1 O) W2 N)) ?_
  rintro⟨T,t,S⟩ E
  replace E:t=H.length:=E;subst E
  refine oY O (yMI O) (oY O (yAS O) (oY O (yAI O) (oN (eT (ak ?_)))))
  obtain rfl:=sI h
  exact bx (.inl O) O (rVt (v:=.slice T H.length S) O) (rVt (v:=vI a.1) O) (fun W2 N=>⟨(T,H.length,S),O,O,(N.pick 2 O)⟩)
theorem pR (p0:TL) (p1:(List Int)) (p2:Bool) (res:((List Int) × Int × Int)) (h:iQ p0 p1 p2=some res) (W:World) (Aa:Option Addr) (w ca:Nat) (K:w=p0.fNo.length) (o:Rd W Aa w ca (encL TNode_cells p0.fNo)) (Ab:Option Addr) (D cb:Nat) (g:List (Hd × TC)) (M:D=p0.fC.length) (r:Rd W Ab D cb (encL TClaim_cells2 g)) (u:NestW W (fun z:TC=>z.fO) THop_cells g p0.fC) (Ac:Option Addr) (E cc:Nat) (N:E=p1.length) (d:Rd W Ac E cc (encL cI p1)) :
  Calls Tryz.prog 17 [.agg #[.slice Aa w ca,.slice Ab D cb],.slice Ac E cc,.bool p2].toArray W fun e W2=>∃x:Option Addr × Nat × Nat,x.2.1=res.1.length∧e=.returned (.tuple #[.slice x.1 x.2.1 x.2.2,vI res.2.1,vI res.2.2])∧Ext W W2 [aO x.1 x.2.2 3 1 x.2.1 (encL cI res.1)]:=by
 subst K
 subst M
 subst N
 unfold iQ at h
 refine ae (m:=34) Tryz.func17 O O (nB O) (cS (cR ?_))
 refine aP [.slice Aa p0.fNo.length ca,.slice Ab p0.fC.length cb] O O O (fun y=>?_)
 refine oY O (yAS O) (oY O (yAI O) (oY O (yAI O) (oN (eT (cS (cS (cR (oY O (yN 0 [.slice Aa p0.fNo.length ca,.slice Ab p0.fC.length cb] aF O O O) (oY O (yMS O) ?_)))))))))
 obtain⟨a,p,h⟩:=bOs h
 refine oY O (yC [.agg #[.slice Aa p0.fNo.length ca,.slice Ab p0.fC.length cb],.slice Ac p1.length cc] go_70 O (fun W2 f=>f7 p0 p1 a p W2 Aa p0.fNo.length ca O ((RdL.arg o) W2 f) Ab p0.fC.length cb g O ((RdL.arg r) W2 f) (NestL.at (NestL.arg u) W2 f) Ac p1.length cc O ((RdL.arg d) W2 f)) O) (oY O (yAI O) (oN (eT (cS (cR (oY O (yMI O) (oY O (dD O O) (oN (eT ?_)))))))))
 rcases iOs h with⟨Q,h⟩|⟨Q,h⟩
 ·refine cT (vB Q) (cS (cR (oY O (yMI O) (oY O (yAS O) (oY O (yAI O) (oY O (yAI O) (oN (eT (ak (ab ?_))))))))))
  obtain rfl:=sI h
  exact lZ (.inl O) O (rVt (v:=.slice none 0 0) O) (rVt (v:=vI 0) O) (rVt (v:=vI a) O) (fun W2 f=>⟨(none,0,0),O,O,((f.nilrow 3 1).pick 1 O)⟩)
 ·refine cF (vB Q) (cK (eT (cS (cR (oY O (yN 0 [.slice Aa p0.fNo.length ca,.slice Ab p0.fC.length cb] aF O O O) (oY O (yMS O) ?_))))))
  obtain⟨i,n,h⟩:=bOs h
  refine db [.agg #[.slice Aa p0.fNo.length ca,.slice Ab p0.fC.length cb],.slice Ac p1.length cc] _ _ O go_65 O (fun W2 f=>dw p0 p1 i n W2 Aa p0.fNo.length ca O ((RdL.arg o) W2 f) Ab p0.fC.length cb g O ((RdL.arg r) W2 f) (NestL.at (NestL.arg u) W2 f) Ac p1.length cc O ((RdL.arg d) W2 f)) ?_
  rintro j
  refine oY O (bC O) (oN (eT (cS (cS (cR (oY O (yMB O) (oN (eT ?_))))))))
  rcases iOs h with⟨U,h⟩|⟨U,h⟩
  ·refine cT (vB U) (cR (oY O (yN 0 [.slice Aa p0.fNo.length ca,.slice Ab p0.fC.length cb] aF O O O) (oY O (yMS O) ?_)))
   obtain⟨k,X,h⟩:=bOs h
   refine db [.agg #[.slice Aa p0.fNo.length ca,.slice Ab p0.fC.length cb],.slice Ac p1.length cc] _ _ O go_64 O (fun W2 f=>jE p0 p1 k X W2 Aa p0.fNo.length ca O ((RdL.arg o) W2 f) Ab p0.fC.length cb g O ((RdL.arg r) W2 f) (NestL.at (NestL.arg u) W2 f) Ac p1.length cc O ((RdL.arg d) W2 f)) ?_
   rintro Y
   refine oY O (bC O) (oN (eT (cS (cR (oY O (yN 0 [.slice Aa p0.fNo.length ca,.slice Ab p0.fC.length cb] aF O O O) (oY O (bm O) ?_))))))
   obtain⟨F,Z,h⟩:=bOs h
   refine oC [.agg #[.slice Aa p0.fNo.length ca,.slice Ab p0.fC.length cb],.map (some Y)] _ _ _ O go_71 O (fun W2 f=>k5 p0 k F Z W2 Aa p0.fNo.length ca O ((RdL.arg o) W2 f) Ab p0.fC.length cb g O ((RdL.arg r) W2 f) (NestL.at (NestL.arg u) W2 f) Y ((MpL.own 2 O) W2 f)) ?_
   rintro⟨V,l,T⟩ G
   replace G:l=F.1.length:=G;subst G
   refine oY O (aZ O) (oY O (yE O O) (oY O (yE O O) (oY O (yAS O) (oY O (yAI O) (oN (eT (cS (cR (oY O (yMS O) (oY O (yMI O) (oY O (yAS O) (oY O (yAI O) (oY O (yAI O) (oN (eT (ak ?_))))))))))))))))
   obtain rfl:=sI h
   exact lZ (.inl O) O (rVt (v:=.slice V F.1.length T) O) (rVt (v:=vI F.2) O) (rVt (v:=vI 0) O) (fun W2 f=>⟨(V,F.1.length,T),O,O,(f.pick 3 O)⟩)
  ·refine cF (vB U) (cK (eT (cS (cR (oY O (yN 0 [.slice Aa p0.fNo.length ca,.slice Ab p0.fC.length cb] aF O O O) (oY O (bm O) ?_))))))
   obtain⟨H,S,h⟩:=bOs h
   refine oC [.agg #[.slice Aa p0.fNo.length ca,.slice Ab p0.fC.length cb],.map (some j)] _ _ _ O go_71 O (fun W2 f=>k5 p0 i H S W2 Aa p0.fNo.length ca O ((RdL.arg o) W2 f) Ab p0.fC.length cb g O ((RdL.arg r) W2 f) (NestL.at (NestL.arg u) W2 f) j ((MpL.own 1 O) W2 f)) ?_
   rintro⟨R,t,q⟩ I
   replace I:t=H.1.length:=I;subst I
   refine oY O (aZ O) (oY O (yE O O) (oY O (yE O O) (oY O (yAS O) (oY O (yAI O) (oN (eT (cS (cR (oY O (yMS O) (oY O (yMI O) (oY O (yAS O) (oY O (yAI O) (oY O (yAI O) (oN (eT (ak ?_))))))))))))))))
   obtain rfl:=sI h
   exact lZ (.inl O) O (rVt (v:=.slice R H.1.length q) O) (rVt (v:=vI H.2) O) (rVt (v:=vI 0) O) (fun W2 f=>⟨(R,H.1.length,q),O,O,(f.pick 2 O)⟩)
theorem cy (p0:(List Int)) (p1:(List Int)) (res:Bool) (h:bR p0 p1=some res) (W:World) (Aa:Option Addr) (f ca:Nat) (D:f=p0.length) (g:Rd W Aa f ca (encL cI p0)) (Ac:Option Addr) (o cc:Nat) (E:o=p1.length) (r:Rd W Ac o cc (encL cI p1)) :
  Calls Tryz.prog 19 [.slice Aa f ca,.slice Ac o cc].toArray W fun e W2=>e=.returned (.bool res)∧Ext W W2 []:=by
 subst D
 subst E
 unfold bR at h
 refine ae (m:=26) Tryz.func19 O O (nB O) (cS (cR (oY O (yAB O) (oN (eT (cS (cS (cR (oY O (yMS O) (oY O (bd (us:=[]) c6 O) (oY O (yMS O) (oY O (bd (us:=[]) c6 O) (oY O (dD O O) (oN (eT ?_)))))))))))))))
 rcases iOs h with⟨F,h⟩|⟨F,h⟩
 ·refine cT (vB F) (cS (cR (oY O (yAB O) (oN (eT (ak (ab ?_)))))))
  obtain rfl:=sI h
  exact am (.inl O) O (rVt (v:=.bool false) O) (fun W2 u=>⟨O,u.none⟩)
 ·refine cF (vB F) (cK (eT (cS (cS (cR (oY O (yAI O) (oN (eT (cB ?_)))))))))
  obtain⟨Y,Q,h⟩:=bOs h
  refine bW (fun(s:(Bool × Int)) L tm=>∃(U:Nat→Value),L=[]∧tm=(upd (upd (upd (upd U 0 (.slice Aa p0.length ca)) 1 (.slice Ac p1.length cc)) 4 (.bool s.1)) 5 (vI s.2))) 0 Q ⟨_,O,(kp4 O)⟩ ?_ ?_
  ·rintro M L tm st ⟨N,rfl,rfl⟩ h
   unfold go at h
   refine cS (cS (cR (oY O (yMI O) (oY O (yMS O) (oY O (bd (us:=[]) c6 O) (oY O (bA O O) (oN (eT ?_))))))))
   rcases iOs h with⟨G,h⟩|⟨G,h⟩
   ·refine cT (vB G) (cK (eT (cS (cB (cS ?_)))))
    refine aU 9 cD (by kernel_rfl) (by kernel_rfl) ?_
    refine qY O (yMS O) (qY O (yMI O) ?_)
    obtain⟨d,h⟩:=gOs h
    refine qY O (yI gM (by decide) d.1 d.2 (RdL.arg g) (eL aG O) O O) ?_
    refine qY O (yR (A:=Aa) (j:=(Int.toNat M.2*1)) (v:=vI (rdL p0 M.2)) bN (RdL.arg g) O (bB aG d.1 (ao d.2 O) O)) (qY O (yMS O) (qY O (yMI O) ?_))
    obtain⟨w,h⟩:=gOs h
    refine qY O (yI gM (by decide) w.1 w.2 (RdL.arg r) (eL aG O) O O) ?_
    refine qY O (yR (A:=Ac) (j:=(Int.toNat M.2*1)) (v:=vI (rdL p1 M.2)) bN (RdL.arg r) O (bB aG w.1 (ao w.2 O) O)) (qY O (dD O O) (ck (oN (eT ?_))))
    rcases iOs h with⟨H,h⟩|⟨H,h⟩
    ·refine cT (vB H) (cS (cR (oY O (yAB O) (oN (eT (ak (ai (ab ?_))))))))
     obtain rfl:=sI h
     exact ay ⟨O,_,O,(kp4 O)⟩
    ·refine cF (vB H) (cK (aq (eT (cR (oY O (yMI O) (oY O (bc O O) (oY O (yAI O) (oN ?_))))))))
     obtain rfl:=sI h
     exact eN ⟨_,O,(kp4 O)⟩
   ·refine cF (vB G) (aK (ah ?_))
    obtain rfl:=sI h
    exact ay ⟨O,_,O,(kp4 O)⟩
  ·intro e L tm hJ
   rcases Y with X|Z
   ·dsimp only at h hJ
    obtain⟨rfl,I,rfl,rfl⟩:=hJ
    refine⟨(by intro hc;cases hc),?_⟩
    refine ai (ab ?_)
    obtain rfl:=sI h
    exact am (.inl O) O (rVt (v:=.bool X.1) O) (fun W2 u=>⟨O,u.none⟩)
   ·dsimp only at h hJ
    obtain⟨rfl,K,rfl,rfl⟩:=hJ
    refine⟨(by intro hc;cases hc),?_⟩
    refine ag (eT (cS (cR (oY O (yAB O) (oN (eT (ak ?_)))))))
    obtain rfl:=sI h
    exact am (.inl O) O (rVt (v:=.bool true) O) (fun W2 u=>⟨O,u.none⟩)
theorem gv (p0:TL) (p1:(List Int)) (p2:Int) (res:Int) (h:dI p0 p1 p2=some res) (W:World) (Aa:Option Addr) (o ca:Nat) (E:o=p0.fNo.length) (r:Rd W Aa o ca (encL TNode_cells p0.fNo)) (Ab:Option Addr) (u cb:Nat) (g:List (Hd × TC)) (F:u=p0.fC.length) (d:Rd W Ab u cb (encL TClaim_cells2 g)) (w:NestW W (fun z:TC=>z.fO) THop_cells g p0.fC) (Ac:Option Addr) (D cc:Nat) (G:D=p1.length) (H:Rd W Ac D cc (encL cI p1)) :
  Calls Tryz.prog 74 [.agg #[.slice Aa o ca,.slice Ab u cb],.slice Ac D cc,vI p2].toArray W fun e W2=>e=.returned (vI res)∧Ext W W2 []:=by
 subst E
 subst F
 subst G
 unfold dI at h
 refine ae (m:=18) Tryz.func74 O O (nB O) (cS (cR ?_))
 refine aP [.slice Aa p0.fNo.length ca,.slice Ab p0.fC.length cb] O O O (fun X=>?_)
 refine oY O (yAI O) (oN (eT (cS (cS (cR (oY O (yN 0 [.slice Aa p0.fNo.length ca,.slice Ab p0.fC.length cb] aF O O O) (oY O (yMS O) ?_)))))))
 obtain⟨Q,M,h⟩:=bOs h
 refine oY O (yC [.agg #[.slice Aa p0.fNo.length ca,.slice Ab p0.fC.length cb],.slice Ac p1.length cc] go_70 O (fun W2 f=>f7 p0 p1 Q M W2 Aa p0.fNo.length ca O ((RdL.arg r) W2 f) Ab p0.fC.length cb g O ((RdL.arg d) W2 f) (NestL.at (NestL.arg w) W2 f) Ac p1.length cc O ((RdL.arg H) W2 f)) O) (oY O (yAI O) (oN (eT (cS (cR (oY O (yMI O) (oY O (dD O O) (oN (eT ?_)))))))))
 rcases iOs h with⟨I,h⟩|⟨I,h⟩
 ·refine cT (vB I) (cS (cR (oY O (yMI O) (oY O (yAI O) (oN (eT (ak (ab ?_))))))))
  obtain rfl:=sI h
  exact am (.inl O) O (rVt (v:=vI Q) O) (fun W2 f=>⟨O,f.none⟩)
 ·refine cF (vB I) (cK (eT (cS (cS (cR (oY O (yN 0 [.slice Aa p0.fNo.length ca,.slice Ab p0.fC.length cb] aF O O O) (oY O (yMI O) ?_)))))))
  obtain⟨U,N,h⟩:=bOs h
  refine oY O (yC [.agg #[.slice Aa p0.fNo.length ca,.slice Ab p0.fC.length cb],vI p2] s4 O (fun W2 f=>dA p0 p2 U N W2 Aa p0.fNo.length ca O ((RdL.arg r) W2 f) Ab p0.fC.length cb g O ((RdL.arg d) W2 f) (NestL.at (NestL.arg w) W2 f)) O) (oY O (bA O O) (oN (eT ?_)))
  rcases iOs h with⟨K,h⟩|⟨K,h⟩
  ·refine cT (vB K) (cS (cR (oY O (yAI O) (oN (eT (ak (ab ?_)))))))
   obtain rfl:=sI h
   exact am (.inl O) O (rVt (v:=vI 5) O) (fun W2 f=>⟨O,f.none⟩)
  ·refine cF (vB K) (cK (eT (cS (cR (oY O (yAI O) (oN (eT (ak ?_))))))))
   obtain rfl:=sI h
   exact am (.inl O) O (rVt (v:=vI 0) O) (fun W2 f=>⟨O,f.none⟩)
theorem pp (p0:Int) (p1:Int) (u:(List Int)) (E:Int→Int→Option Bool) (res:Bool) (h:fK p0 p1 u E=some res) (W:World) (F:Nat) (f:Option Addr) (o r:Nat) (w:o=u.length) (d:Rd W f o r (encL cI u)) (G:Rd W (some ⟨F,0,none⟩) 1 1 [.slice f o r]) (H:Nat) (fidc1:Nat) (fstc1 capsc1:List Value) (hgoc1:cE Tryz.prog fidc1=true) (hofc1:∀W2,Below W.heap.size W W2→∀U X,∀y,E U X=some y→Calls Tryz.prog fidc1 (fstc1++(([vI U,vI X]:List Value)++capsc1)).toArray W2 fun e W3=>e=.returned (.bool y)∧Ext W2 W3 []) (I:Rd W (some ⟨H,0,none⟩) 1 1 [.func (.func fidc1) fstc1.toArray capsc1.toArray]) :
  Calls Tryz.prog 126 [vI p0,vI p1,.pointer (some ⟨F,0,none⟩),.pointer (some ⟨H,0,none⟩)].toArray W fun e W2=>e=.returned (.bool res)∧Ext W W2 []:=by
 subst w
 unfold fK at h
 refine ae (m:=19) Tryz.func126 O O (nB O) (cS (cR (oY O (yAB O) (oN (eT (cS (cR (oY O (yR (A:=(some ⟨F,0,none⟩)) (j:=0) (v:=.slice f u.length r) q8 (RdL.arg G) O O) (oY O (yMI O) ?_)))))))))
 obtain⟨D,h⟩:=gOs h
 refine oY O (yI gM (by decide) D.1 D.2 (RdL.arg d) (eL aG O) O O) ?_
 refine oY O (yR (A:=f) (j:=(Int.toNat p0*1)) (v:=vI (rdL u p0)) bN (RdL.arg d) O (bB aG D.1 (ao D.2 O) O)) (oY O (yMI O) (oY O (ig O O) (oY O (yMB O) ?_)))
 obtain⟨Y,N,h⟩:=bOs h
 refine oJ 5 (fun M=>(upd (upd M 6 (.bool false)) 18 (.bool Y))) (fun M=>?_) (fun key=>?_)
 ·refine oY O (yAB O) (oN (eT (ak ?_)))
  obtain rfl:=sI h
  exact am (.inl O) O (rVt (v:=.bool Y) O) (fun W2 K=>⟨O,K.none⟩)
 ·clear h;rcases iOs N with⟨g,h⟩|⟨g,h⟩
  ·refine oY (sT O O O O g) (yR (A:=(some ⟨H,0,none⟩)) (j:=0) (v:=.func (.func fidc1) fstc1.toArray capsc1.toArray) sc_107 (RdL.arg I) O O) (oY (sT O O O O g) (yMI O) (oY (sT O O O O g) (yMI O) ?_))
   obtain⟨Z,Q,h⟩:=bOs h
   refine oY (sT O O O O g) (iH [vI p0,vI p1] hgoc1 O O (fun W2 K=>hofc1 W2 K.below p0 p1 Z Q)) (oY O (aw (vB g) O) ?_)
   obtain rfl:=sI h
   exact key _ _ (kp (kp O))
  ·refine oSk (sF O O O O g) (oSk (sF O O O O g) (oSk (sF O O O O g) (oSk (sF O O O O g) (oY O (av (vB g) O) ?_))))
   obtain rfl:=sI h
   exact key _ _ (kp (kp O))
theorem gi (p0:TL) (p1:(List Int)) (p2:Int) (p3:Int→Int→Option Bool) (res:Bool) (h:eu p0 p1 p2 p3=some res) (W:World) (Aa:Option Addr) (w ca:Nat) (U:w=p0.fNo.length) (u:Rd W Aa w ca (encL TNode_cells p0.fNo)) (Ab:Option Addr) (D cb:Nat) (g:List (Hd × TC)) (X:D=p0.fC.length) (o:Rd W Ab D cb (encL TClaim_cells2 g)) (r:NestW W (fun z:TC=>z.fO) THop_cells g p0.fC) (Ac:Option Addr) (E cc:Nat) (Y:E=p1.length) (F:Rd W Ac E cc (encL cI p1)) (fid3:Nat) (fst3 caps3:List Value) (M:cE Tryz.prog fid3=true) (N:∀W2,Below W.heap.size W W2→∀t a,∀y,p3 t a=some y→Calls Tryz.prog fid3 (fst3++(([vI t,vI a]:List Value)++caps3)).toArray W2 fun e W3=>e=.returned (.bool y)∧Ext W2 W3 []) :
  Calls Tryz.prog 75 [.agg #[.slice Aa w ca,.slice Ab D cb],.slice Ac E cc,vI p2,.func (.func fid3) fst3.toArray caps3.toArray].toArray W fun e W2=>e=.returned (.bool res)∧Ext W W2 []:=by
 subst U
 subst X
 subst Y
 unfold eu at h
 refine jR (m:=26) Tryz.func75 O O (nB O) (cS (cR ?_))
 refine aP [.slice Aa p0.fNo.length ca,.slice Ab p0.fC.length cb] O O O (fun i=>?_)
 refine aP [.slice Ac p1.length cc] O O O (fun j=>?_)
 refine aP [vI p2] O O O (fun b=>?_)
 refine aP [.func (.func fid3) fst3.toArray caps3.toArray] O O O (fun Q=>?_)
 refine aC ze_4 O (fun c=>?_)
 refine oN (eT (cS (cS ?_)))
 obtain⟨Z,f1,h⟩:=bOs h
 refine ov 3 5 (fun v L1=>∃x:Nat,v=.map (some x)∧L1=[mapV Tryz.prog 3 kI dx kB false x Z]) cD (by kernel_rfl) (by kernel_rfl) (by kernel_rfl) ?_
 refine rB O (fun _=>yN 0 [.slice Aa p0.fNo.length ca,.slice Ab p0.fC.length cb] aF O O O) (rB O (fun _=>yL 1 (v:=.slice Ac p1.length cc) q8 O O O) (rB O (fun _=>yL 3 (v:=.func (.func fid3) fst3.toArray caps3.toArray) sc_107 O O O) (bx_q O (db [.agg #[.slice Aa p0.fNo.length ca,.slice Ab p0.fC.length cb],.slice Ac p1.length cc,.func (.func fid3) fst3.toArray caps3.toArray] _ _ O go_87 O (fun W2 f=>f9 p0 p1 p3 Z f1 W2 Aa p0.fNo.length ca O ((RdL.arg u) W2 f) Ab p0.fC.length cb g O ((RdL.arg o) W2 f) (NestL.at (NestL.arg r) W2 f) Ac p1.length cc O ((RdL.arg F) W2 f) fid3 fst3 caps3 M (fun W3 hb=>N W3 (fy f.below hb))) (fun x=>oN (sD ⟨x,O,O⟩))) (kx_y O (fun _=>yL 2 (v:=vI p2) bN O O O) (kx_nil O ?_)))))
 rintro v L1 ⟨b8,rfl,rfl⟩
 try dsimp only[lna,lca,lsz,lss]
 obtain⟨f2,h⟩:=gOs h
 refine oY O (ga (k:=p2) (MpL.own 5 O) mR ku ze_4 O O f2) (oY O (fe O) (oN (qT (eT ?_))))
 rcases iOs h with⟨G,h⟩|⟨G,h⟩
 ·refine cT (vB G) (cS (cR (cr O (cn 4 (v:=.bool false) sz_4 O (Nat.lt_of_lt_of_le (Nat.lt_succ_self _) (nB O)) O O O) (oN (eT (ak (ab (ex_M0 (.inl O) ?_))))))))
  obtain rfl:=sI h
  exact am (.inl O) O (pa 4 (v:=.bool false) sc_4 O O O) (fun W2 f=>⟨O,f.none⟩)
 ·refine cF (vB G) (cK (eT (cS (cS (cR (oY O (yN 0 [.slice Aa p0.fNo.length ca,.slice Ab p0.fC.length cb] aF O O O) ?_))))))
  obtain⟨f3,V,h⟩:=bOs h
  refine db [.agg #[.slice Aa p0.fNo.length ca,.slice Ab p0.fC.length cb]] _ _ O go_86 O (fun W2 f=>gg p0 f3 V W2 Aa p0.fNo.length ca O ((RdL.arg u) W2 f) Ab p0.fC.length cb g O ((RdL.arg o) W2 f) (NestL.at (NestL.arg r) W2 f)) ?_
  rintro d
  try dsimp only[lna,lca,lsz,lss]
  refine oN (eT (cB ?_))
  obtain⟨hok36,h⟩:=gOs h
  obtain⟨fn,T,h⟩:=bOs h
  refine mH (caps:=[.pointer (some ⟨d,0,none⟩)]) (fun(s:Bool) L=>L=[aj i 25 [.slice Aa p0.fNo.length ca,.slice Ab p0.fC.length cb],aj j 26 [.slice Ac p1.length cc],aj b 3 [vI p2],aj Q 107 [.func (.func fid3) fst3.toArray caps3.toArray],aj c 4 [.bool s],mapV Tryz.prog 3 kI dx kB false b8 Z,aj d 25 [.slice Aa p0.fNo.length ca,.slice Ab p0.fC.length cb]]) (fun(s:Bool) e L=>e=.ret∧L=[aj i 25 [.slice Aa p0.fNo.length ca,.slice Ab p0.fC.length cb],aj j 26 [.slice Ac p1.length cc],aj b 3 [vI p2],aj Q 107 [.func (.func fid3) fst3.toArray caps3.toArray],aj c 4 [.bool s],mapV Tryz.prog 3 kI dx kB false b8 Z,aj d 25 [.slice Aa p0.fNo.length ca,.slice Ab p0.fC.length cb]]) T O si (en p0 hok36 d Aa p0.fNo.length ca Ab p0.fC.length cb O g r.p) (fun W2 s L hI f=>by obtain rfl:=hI;exact⟨(RdL.cells 6 O) W2 f,(RdL.arg o) W2 f⟩) O (fun s e L hI=>by obtain⟨rfl,_⟩:=hI;exact .inl O) ?_ ?_ ?_
  ·rintro D14 l15 rec16 S R f4 I L st hrec17 rfl h
   unfold ip at h
   refine cR ?_
   try dsimp only[lna,lca,lsz,lss]
   refine aC ze_26 O (fun K=>?_)
   try dsimp only[lna,lca,lsz,lss]
   refine cr O (cn 10 (v:=.slice S I.length R) sz_26 O (Nat.lt_of_lt_of_le (Nat.lt_succ_self _) (nB O)) O O O) (oN (nO 8 O hrec17 (cB (cS ?_))))
   obtain⟨q,n,h⟩:=bOs h
   refine ov 3 5 (fun v L1=>∃x:Nat,v=.map (some x)∧L1=[mapV Tryz.prog 3 kI dx kB false x q]) cD (by kernel_rfl) (by kernel_rfl) (by kernel_rfl) ?_
   refine rB O (fun _=>yN 0 [.slice Aa p0.fNo.length ca,.slice Ab p0.fC.length cb] aF O O O) (rB O (fun _=>yL 1 (v:=.slice Ac p1.length cc) q8 O O O) (rB O (fun _=>eS [.pointer (some ⟨K,0,none⟩),.pointer (some ⟨Q,0,none⟩)] O O) (bx_q O (db [.agg #[.slice Aa p0.fNo.length ca,.slice Ab p0.fC.length cb],.slice Ac p1.length cc,.func (.func 126) #[] #[.pointer (some ⟨K,0,none⟩),.pointer (some ⟨Q,0,none⟩)]] _ _ O go_87 O (fun W2 f=>f9 p0 p1 (fun fr fd=>fK fr fd I p3) q n W2 Aa p0.fNo.length ca O ((RdL.arg u) W2 f) Ab p0.fC.length cb g O ((RdL.arg o) W2 f) (NestL.at (NestL.arg r) W2 f) Ac p1.length cc O ((RdL.arg F) W2 f) 126 [] [.pointer (some ⟨K,0,none⟩),.pointer (some ⟨Q,0,none⟩)] go_126 (fun W3 hb t a y hxy=>pp  t a I p3 y hxy W3 K S I.length R O (((RdL.row 9 O) W2 f).later hb) (((RdL.cells 10 O) W2 f).later hb) Q fid3 fst3 caps3 M (fun W4 fE=>N W4 (fy (fy f.below hb) fE)) (((RdL.cells 3 O) W2 f).later hb))) (fun x=>oN (sD ⟨x,O,O⟩))) (kx_y O (fun _=>yL 2 (v:=vI p2) bN O O O) (kx_nil O ?_)))))
   rintro v L1 ⟨fl,rfl,rfl⟩
   try dsimp only[lna,lca,lsz,lss]
   obtain⟨l,h⟩:=gOs h
   refine oY O (ga (k:=p2) (MpL.own 11 O) mR ku ze_4 O O l) (oN (qT (eT ?_)))
   rcases iOs h with⟨H,h⟩|⟨H,h⟩
   ·refine cT (vB H) (cS (cR (cr O (cn 4 (v:=.bool true) sz_4 O (Nat.lt_of_lt_of_le (Nat.lt_succ_self _) (nB O)) O O O) (oN (eT (ak (ai (aS 10 ?_))))))))
    obtain rfl:=sI h
    exact ex_cstop [aj i 25 [.slice Aa p0.fNo.length ca,.slice Ab p0.fC.length cb],aj j 26 [.slice Ac p1.length cc],aj b 3 [vI p2],aj Q 107 [.func (.func fid3) fst3.toArray caps3.toArray],aj c 4 [.bool true],mapV Tryz.prog 3 kI dx kB false b8 Z,aj d 25 [.slice Aa p0.fNo.length ca,.slice Ab p0.fC.length cb]] ⟨O,O⟩
   ·refine cF (vB H) (cK (aq (aS 10 ?_)))
    obtain rfl:=sI h
    exact mX [aj i 25 [.slice Aa p0.fNo.length ca,.slice Ab p0.fC.length cb],aj j 26 [.slice Ac p1.length cc],aj b 3 [vI p2],aj Q 107 [.func (.func fid3) fst3.toArray caps3.toArray],aj c 4 [.bool f4],mapV Tryz.prog 3 kI dx kB false b8 Z,aj d 25 [.slice Aa p0.fNo.length ca,.slice Ab p0.fC.length cb]] O
  ·rintro D14 g1 L hst rfl
   subst hst
   dsimp only at h
   refine aq (eT (cS (cR ?_)))
   try dsimp only[lna,lca,lsz,lss]
   refine cr O (cn 4 (v:=.bool false) sz_4 O (Nat.lt_of_lt_of_le (Nat.lt_succ_self _) (nB O)) O O O) (oN (eT (ak (ex_M1 7 O (.inl O) ?_))))
   obtain rfl:=sI h
   exact am (.inl O) O (pa 4 (v:=.bool false) sc_4 O O O) (fun W2 f=>⟨O,f.none⟩)
  ·rintro D14 fN e L hst ⟨rfl,rfl⟩
   subst hst
   dsimp only at h
   refine ai (ab (ex_M1 7 O (.inl O) ?_))
   obtain rfl:=sI h
   exact am (.inl O) O (pa 4 (v:=.bool fN) sc_4 O O O) (fun W2 f=>⟨O,f.none⟩)
theorem kR (p0:Int) (p1:Int) (res:Bool) (h:cQ p0 p1=some res) (W:World)  :
  Calls Tryz.prog 76 [vI p0,vI p1].toArray W fun e W2=>e=.returned (.bool res)∧Ext W W2 []:=by
 unfold cQ at h
 refine ae (m:=5) Tryz.func76 O O (nB O) (cS (cR (oY O (yAB O) (oN (eT (cS (cR (oY O (yAB O) (oN (eT (ak ?_)))))))))))
 obtain rfl:=sI h
 exact am (.inl O) O (rVt (v:=.bool true) O) (fun W2 f=>⟨O,f.none⟩)
theorem o6 (p0:Int) (p1:Int) (f:Int) (res:Bool) (h:fU p0 p1 f=some res) (W:World) (g:Nat) (o:Rd W (some ⟨g,0,none⟩) 1 1 (cI f)) :
  Calls Tryz.prog 77 [vI p0,vI p1,.pointer (some ⟨g,0,none⟩)].toArray W fun e W2=>e=.returned (.bool res)∧Ext W W2 []:=by
 unfold fU at h
 refine ae (m:=9) Tryz.func77 O O (nB O) (cS (cR (oY O (yAB O) (oN (eT (cS (cR (oY O (yMI O) (oY O (yR (A:=(some ⟨g,0,none⟩)) (j:=0) (v:=vI f) bN (RdL.arg o) O O) (oY O (dD O O) (oY O (yAB O) (oN (eT (ak ?_))))))))))))))
 obtain rfl:=sI h
 exact am (.inl O) O (rVt (v:=.bool (p0 !=f)) O) (fun W2 r=>⟨O,r.none⟩)
theorem qA (p0:TL) (p1:(List Int)) (p2:Int) (res:((List Int) × Int)) (h:jI p0 p1 p2=some res) (W:World) (Aa:Option Addr) (K ca:Nat) (T:K=p0.fNo.length) (F:Rd W Aa K ca (encL TNode_cells p0.fNo)) (Ab:Option Addr) (M cb:Nat) (g:List (Hd × TC)) (S:M=p0.fC.length) (w:Rd W Ab M cb (encL TClaim_cells2 g)) (d:NestW W (fun z:TC=>z.fO) THop_cells g p0.fC) (Ac:Option Addr) (N cc:Nat) (R:N=p1.length) (G:Rd W Ac N cc (encL cI p1)) :
  Calls Tryz.prog 20 [.agg #[.slice Aa K ca,.slice Ab M cb],.slice Ac N cc,vI p2].toArray W fun e W2=>∃x:Option Addr × Nat × Nat,x.2.1=res.1.length∧e=.returned (.tuple #[.slice x.1 x.2.1 x.2.2,vI res.2])∧Ext W W2 [aO x.1 x.2.2 3 1 x.2.1 (encL cI res.1)]:=by
 subst T
 subst S
 subst R
 unfold jI at h
 refine ae (m:=47) Tryz.func20 O O (nB O) (cS (cR ?_))
 refine aP [.slice Aa p0.fNo.length ca,.slice Ab p0.fC.length cb] O O O (fun b1=>?_)
 refine oY O (yAS O) (oY O (yAI O) (oN (eT (cS (cS (cR (oY O (yN 0 [.slice Aa p0.fNo.length ca,.slice Ab p0.fC.length cb] aF O O O) (oY O (yMS O) (oY O (yMI O) ?_)))))))))
 obtain⟨y2,f4,h⟩:=bOs h
 refine oY O (yC [.agg #[.slice Aa p0.fNo.length ca,.slice Ab p0.fC.length cb],.slice Ac p1.length cc,vI p2] go_74 O (fun W2 f=>gv p0 p1 p2 y2 f4 W2 Aa p0.fNo.length ca O ((RdL.arg F) W2 f) Ab p0.fC.length cb g O ((RdL.arg w) W2 f) (NestL.at (NestL.arg d) W2 f) Ac p1.length cc O ((RdL.arg G) W2 f)) O) (oY O (yAI O) (oN (eT (cS (cR (oY O (yMI O) (oY O (dD O O) (oN (eT ?_)))))))))
 rcases iOs h with⟨q,h⟩|⟨q,h⟩
 ·refine cT (vB q) (cS (cR (oY O (yMI O) (oY O (yAS O) (oY O (yAI O) (oN (eT (ak (ab ?_)))))))))
  obtain rfl:=sI h
  exact bx (.inl O) O (rVt (v:=.slice none 0 0) O) (rVt (v:=vI y2) O) (fun W2 f=>⟨(none,0,0),O,O,((f.nilrow 3 1).pick 1 O)⟩)
 ·refine cF (vB q) (cK (eT (cS (cS (cR (oY O (yN 0 [.slice Aa p0.fNo.length ca,.slice Ab p0.fC.length cb] aF O O O) (oY O (yMS O) (oY O (yMI O) ?_))))))))
  obtain⟨y7,fr,h⟩:=bOs h
  refine oY O (yC [.agg #[.slice Aa p0.fNo.length ca,.slice Ab p0.fC.length cb],.slice Ac p1.length cc,vI p2,.func (.func 76) #[] #[]] go_75 O (fun W2 f=>gi p0 p1 p2 (fun x5 x6=>cQ x5 x6) y7 fr W2 Aa p0.fNo.length ca O ((RdL.arg F) W2 f) Ab p0.fC.length cb g O ((RdL.arg w) W2 f) (NestL.at (NestL.arg d) W2 f) Ac p1.length cc O ((RdL.arg G) W2 f) 76 [] [] go_76 (fun W3 hb x0 x1 y hxy=>kR  x0 x1  y hxy W3 )) O) (oY O (fe O) (oN (eT ?_)))
  rcases iOs h with⟨n,h⟩|⟨n,h⟩
  ·refine cT (vB n) (cS (cR (oY O (yAS O) (oY O (yAI O) (oN (eT (ak (ab ?_))))))))
   obtain rfl:=sI h
   exact bx (.inl O) O (rVt (v:=.slice none 0 0) O) (rVt (v:=vI 5) O) (fun W2 f=>⟨(none,0,0),O,O,((f.nilrow 3 1).pick 1 O)⟩)
  ·refine cF (vB n) (cK (eT (cS (cR (oY O (yAS O) (oN (eT (cS (cS (cR (oY O (yFA aD O) (oY O (yL 0 bT O O O) (oY O (bd (us:=[]) dQ O) (oY O (yMI O) (oN (eT (cB ?_)))))))))))))))))
   obtain⟨E,t,h⟩:=bOs h
   refine cN 3 1 ?_
   refine bF (fun(s:(Int × (List Int))) L tm=>∃(fN:Nat→Value) (Z:Option Addr) (V:Nat) (Q:Nat),Q=s.2.length∧L=[aj b1 25 [.slice Aa p0.fNo.length ca,.slice Ab p0.fC.length cb],aO Z V 3 1 Q (encL cI s.2)]∧tm=(upd (upd (upd (upd (upd (upd (upd (upd (upd fN 1 (.slice Ac p1.length cc)) 2 (vI p2)) 3 (.pointer (some ⟨b1,0,none⟩))) 6 (.slice none 0 0)) 7 (vI 0)) 9 (.slice Z Q V)) 25 (.slice Ab p0.fC.length cb)) 26 (vI (p0.fC.length:Int))) 27 (vI s.1))) 0 t ⟨_,none,0,0,O,O,(kp4 (kp4 (kp O)))⟩ ?_ ?_
   ·rintro o L tm st ⟨a,H,I,f1,rfl,rfl,rfl⟩ h
    unfold iD at h
    refine cS (cR (oY O (bA O O) (oN (eT (cS ?_)))))
    rcases iOs h with⟨U,h⟩|⟨U,h⟩
    ·refine cT (vB U) (cK (eT (cS (cB (cS (cR (oY O (yMI O) ?_)))))))
     obtain⟨D,h⟩:=gOs h
     refine oY O (yI dY (by decide) D.1 D.2 (RdL.arg w) (eL aa (NestP.hn d.p O)) O O) ?_
     refine oY O (yM (A:=Ab) (j:=(Int.toNat o.1*2)) [vI ((rdL p0.fC o.1).fID),.slice ((rdL g o.1).1.1) ((rdL p0.fC o.1).fO.length) ((rdL g o.1).1.2.2)] lX (Nat.succ_pos _) (RdL.arg w) O (iL (a6 (NestP.snd d.p o.1) (NestP.len d.p D.1 (ao D.2 O))).symm (aM aa D.1 (ao D.2 (NestP.hn d.p O))))) ?_
     refine aC mf O (fun Y=>?_)
     refine aC gR O (fun oq=>?_)
     refine cr O (cn 2 (v:=vI o.1) sz_3 O (Nat.lt_of_lt_of_le (Nat.lt_succ_self _) (nB O)) O O O) (cr O (yS 3 [vI ((rdL p0.fC o.1).fID),.slice ((rdL g o.1).1.1) ((rdL p0.fC o.1).fO.length) ((rdL g o.1).1.2.2)] rY O (nB O) O O O) (oN (eT (cS (cR (oY O (yN 0 [.slice Aa p0.fNo.length ca,.slice Ab p0.fC.length cb] aF O O O) (oY O (yMS O) (oY O (yMI O) (oY O (eS [.pointer (some ⟨Y,0,none⟩)] O O) ?_)))))))))
     obtain⟨fn,i,h⟩:=bOs h
     refine oY O (yC [.agg #[.slice Aa p0.fNo.length ca,.slice Ab p0.fC.length cb],.slice Ac p1.length cc,vI p2,.func (.func 77) #[] #[.pointer (some ⟨Y,0,none⟩)]] go_75 O (fun W2 f=>gi p0 p1 p2 (fun fl g1=>fU fl g1 o.1) fn i W2 Aa p0.fNo.length ca O ((RdL.arg F) W2 f) Ab p0.fC.length cb g O ((RdL.arg w) W2 f) (NestL.at (NestL.arg d) W2 f) Ac p1.length cc O ((RdL.arg G) W2 f) 77 [] [.pointer (some ⟨Y,0,none⟩)] go_77 (fun W3 hb x0 x1 y hxy=>o6  x0 x1 o.1 y hxy W3 Y (((RdL.cells 2 O) W2 f).later hb))) O) (oY O (fe O) (oN (eT ?_)))
     rcases iOs h with⟨X,h⟩|⟨X,h⟩
     ·refine cT (vB X) (cR (oY O (yMS O) (oY O (yFA fh O) (oY O (yL 3 bN O O O) ?_))))
      refine ap 1 (encL cI [(rdL p0.fC o.1).fID]) _ ib c6 mf mC (by decide) (by decide) (by kernel_rfl) (eL aG O) O (fun op=>?_)
      obtain⟨k,h⟩:=gOs h
      refine bg 1 c6 mf mC O O O (RdL.row 4 O) (eL aG O) (cg qg _) (cp k (by decide)) O (fun g2 g3=>?_)
      refine oY O (yAS O) (oN (aq (eT (cR (oY O (bc O O) (oY O (yMI O) (oN (aS 2 ?_))))))))
      obtain rfl:=sI h
      exact eN ⟨_,g2,g3,(o.2.length+1),(fD O O),O,(kp4 (kp4 (kp O)))⟩
     ·refine cF (vB X) (cK (aq (eT (cR (oY O (bc O O) (oY O (yMI O) (oN (aS 2 ?_))))))))
      obtain rfl:=sI h
      exact eN ⟨_,H,I,o.2.length,O,O,(kp4 (kp4 (kp O)))⟩
    ·refine cF (vB U) (aK (ah ?_))
     obtain rfl:=sI h
     exact ay ⟨O,_,H,I,o.2.length,O,O,(kp4 (kp4 (kp O)))⟩
   ·intro e L tm hJ
    obtain⟨rfl,b,r,u,f2,rfl,rfl,rfl⟩:=hJ
    refine⟨(by intro hc;cases hc),?_⟩
    refine ag (eT (cS (cR (oY O (yMS O) ?_))))
    obtain⟨l,c,h⟩:=bOs h
    refine jG 1 [.slice r E.2.length u] (fun(_:Unit)=>E.2.length=l.length) (fun _=>.tuple #[]) (fun _=>aO r u 3 1 E.2.length (encL cI l)) (fun _=>[]) O O go_78 O (fun W2 f=>(fX E.2 l c W2 _ (mw [aj b1 25 [.slice Aa p0.fNo.length ca,.slice Ab p0.fC.length cb],aO r u 3 1 E.2.length (encL cI E.2)] [1]) r E.2.length u O f).mono (fun e W3 h3=>⟨(),h3.2.1,h3.1,h3.2.2⟩)) ?_
    rintro-f0
    try dsimp only[lsz,lss,List.append_nil]
    refine oN (eT (cS (cR (oY O (yMS O) (oY O (yAS O) (oY O (yAI O) (oN (eT (ak ?_)))))))))
    obtain rfl:=sI h
    exact bx (.inl O) O (rVt (v:=.slice r E.2.length u) O) (rVt (v:=vI 0) O) (fun W2 f=>⟨(r,E.2.length,u),f0,O,(f.pick 1 O)⟩)
theorem l7 (p0:(List Int)) (p1:Int) (res:Int) (h:bZ p0 p1=some res) (W:World) (Aa:Option Addr) (f ca:Nat) (r:f=p0.length) (g:Rd W Aa f ca (encL cI p0)) :
  Calls Tryz.prog 129 [.slice Aa f ca,vI p1].toArray W fun e W2=>e=.returned (vI res)∧Ext W W2 []:=by
 subst r
 unfold bZ at h
 refine ae (m:=19) Tryz.func129 O O (nB O) (cS (cR (oY O (yAI O) (oN (eT (cS (cS (cR (oY O (yMS O) (oY O (bd (us:=[]) c6 O) (oY O (yMI O) (oN (eT (cB ?_))))))))))))))
 obtain⟨K,G,h⟩:=bOs h
 refine bW (fun(s:(Int × Int)) L tm=>∃(H:Nat→Value),L=[]∧tm=(upd (upd (upd (upd (upd H 0 (.slice Aa p0.length ca)) 1 (vI p1)) 4 (vI s.1)) 7 (vI (p0.length:Int))) 8 (vI s.2))) 0 G ⟨_,O,(kp4 (kp O))⟩ ?_ ?_
 ·rintro I L tm st ⟨D,rfl,rfl⟩ h
  unfold bl at h
  refine cS (cR (oY O (bA O O) (oN (eT (cS ?_)))))
  rcases iOs h with⟨u,h⟩|⟨u,h⟩
  ·refine cT (vB u) (cK (eT (cS (cB (cS (cR (oY O (yMI O) (oY O (yAI O) (oN (eT (cS (cR (oY O (yMI O) (oY O (yMS O) (oY O (yMI O) ?_)))))))))))))))
   obtain⟨o,h⟩:=gOs h
   refine oY O (yI gM (by decide) o.1 o.2 (RdL.arg g) (eL aG O) O O) ?_
   refine oY O (yR (A:=Aa) (j:=(Int.toNat I.2*1)) (v:=vI (rdL p0 I.2)) bN (RdL.arg g) O (bB aG o.1 (ao o.2 O) O)) (oY O (ig O O) (oN (eT ?_)))
   rcases iOs h with⟨d,h⟩|⟨d,h⟩
   ·refine cT (vB d) (cS (cR (oY O (yMI O) (oY O (yAI O) (oN (eT (ak (ai (ab ?_)))))))))
    obtain rfl:=sI h
    exact ay ⟨O,_,O,(kp4 (kp O))⟩
   ·refine cF (vB d) (cK (aq (eT (cR (oY O (bc O O) (oY O (yMI O) (oN ?_)))))))
    obtain rfl:=sI h
    exact eN ⟨_,O,(kp4 (kp O))⟩
  ·refine cF (vB u) (aK (ah ?_))
   obtain rfl:=sI h
   exact ay ⟨O,_,O,(kp4 (kp O))⟩
 ·intro e L tm hJ
  rcases K with M|N
  ·dsimp only at h hJ
   obtain⟨rfl,E,rfl,rfl⟩:=hJ
   refine⟨(by intro hc;cases hc),?_⟩
   refine ai (ab ?_)
   obtain rfl:=sI h
   exact am (.inl O) O (rVt (v:=vI M.1) O) (fun W2 w=>⟨O,w.none⟩)
  ·dsimp only at h hJ
   obtain⟨rfl,F,rfl,rfl⟩:=hJ
   refine⟨(by intro hc;cases hc),?_⟩
   refine ag (eT (cS (cR (oY O (yAI O) (oN (eT (ak ?_)))))))
   obtain rfl:=sI h
   exact am (.inl O) O (rVt (v:=vI (-1)) O) (fun W2 w=>⟨O,w.none⟩)
theorem dX (p0:(List Int)) (p1:Int) (res:Bool) (h:a5 p0 p1=some res) (W:World) (Aa:Option Addr) (f ca:Nat) (g:f=p0.length) (o:Rd W Aa f ca (encL cI p0)) :
  Calls Tryz.prog 80 [.slice Aa f ca,vI p1].toArray W fun e W2=>e=.returned (.bool res)∧Ext W W2 []:=by
 subst g
 unfold a5 at h
 refine ae (m:=9) Tryz.func80 O O (nB O) (cS (cR (oY O (yAB O) (oN (eT (cS (cR (oY O (yMS O) (oY O (yMI O) ?_)))))))))
 obtain⟨d,u,h⟩:=bOs h
 refine oY O (yC [.slice Aa p0.length ca,vI p1] go_129 O (fun W2 r=>l7 p0 p1 d u W2 Aa p0.length ca O ((RdL.arg o) W2 r)) O) (oY O (qf O O) (oY O (yAB O) (oN (eT (ak ?_)))))
 obtain rfl:=sI h
 exact am (.inl O) O (rVt (v:=.bool (decide (0≤d))) O) (fun W2 r=>⟨O,r.none⟩)
theorem o7 (p0:Int) (p1:Int) (o:TL) (F:TN) (res:Bool) (h:fM p0 p1 o F=some res) (W:World) (M:Nat) (G:Option Addr) (d H:Nat) (I:d=o.fNo.length) (Y:Rd W G d H (encL TNode_cells o.fNo)) (r:Option Addr) (w D:Nat) (f:List (Hd × TC)) (K:w=o.fC.length) (E:Rd W r w D (encL TClaim_cells2 f)) (g:NestW W (fun z:TC=>z.fO) THop_cells f o.fC) (U:Rd W (some ⟨M,0,none⟩) 1 1 [.slice G d H,.slice r w D]) (N:Nat) (X:Rd W (some ⟨N,0,none⟩) 1 1 (TNode_cells F)) :
  Calls Tryz.prog 81 [vI p0,vI p1,.pointer (some ⟨M,0,none⟩),.pointer (some ⟨N,0,none⟩)].toArray W fun e W2=>e=.returned (.bool res)∧Ext W W2 []:=by
 subst I
 subst K
 unfold fM at h
 refine ae (m:=20) Tryz.func81 O O (nB O) (cS (cR (oY O (yAB O) (oN (eT (cS ?_))))))
 refine aU 14 cD (by kernel_rfl) (by kernel_rfl) ?_
 refine qY O (yFR (A:=(some ⟨M,0,none⟩)) (j:=0) aD O) (qY O (yR (A:=(some ⟨M,0,none⟩)) (j:=(0+1)) (v:=.slice r o.fC.length D) bT (RdL.arg U) O O) (qY O (yMI O) ?_))
 obtain⟨u,h⟩:=gOs h
 refine qY O (yI dY (by decide) u.1 u.2 (RdL.arg E) (eL aa (NestP.hn g.p O)) O O) ?_
 refine qY O (yFR (A:=r) (j:=(Int.toNat p0*2)) bQ O) (qY O (yR (A:=r) (j:=((Int.toNat p0*2)+1)) (v:=.slice ((rdL f p0).1.1) ((rdL o.fC p0).fO.length) ((rdL f p0).1.2.2)) gL (RdL.arg E) O (eG aa u.1 (ao u.2 (NestP.hn g.p O)) (congrArg (fun n:Nat=>some (Value.slice (rdL f p0).1.1 n (rdL f p0).1.2.2)) (NestP.len g.p u.1 (ao u.2 O))))) (qY O (yMI O) ?_))
 obtain⟨Q,h⟩:=gOs h
 refine qY O (yI lw (by decide) Q.1 Q.2 (NestL.rd (NestL.arg g) u.1 (ao u.2 O)) (eL au O) O O) ?_
 refine qY O (yFR (A:=((rdL f p0).1.1)) (j:=(Int.toNat p1*2)) p5 O) (qY O (yR (A:=((rdL f p0).1.1)) (j:=((Int.toNat p1*2)+1)) (v:=vI ((rdL ((rdL o.fC p0).fO) p1).fTo)) bN (NestL.rd (NestL.arg g) u.1 (ao u.2 O)) O (eG au Q.1 (ao Q.2 O) O)) (qY O (yFR (A:=(some ⟨N,0,none⟩)) (j:=0) gd O) (qY O (yR (A:=(some ⟨N,0,none⟩)) (j:=(0+0)) (v:=vI F.fID) bN (RdL.arg X) O O) (qY O (dD O O) (qY O (yAB O) (ck (oN (eT (ak ?_)))))))))
 obtain rfl:=sI h
 exact am (.inl O) O (rVt (v:=.bool (((rdL ((rdL o.fC p0).fO) p1).fTo) !=F.fID)) O) (fun W2 Z=>⟨O,Z.none⟩)
end Go.Proofs.YtbblpokfbmekfaaGreat
set_option maxHeartbeats 4000000
set_option maxRecDepth 100000
namespace Go.Proofs.YtbblpokfbmekfaaGreat
open Go.RowKit (Below)
attribute [local irreducible] OX QX CX EX OpY Calls CallsIn
theorem qD (p0:TL) (p1:(List Int)) (p2:Int) (res:((List Int) × Int)) (h:jX p0 p1 p2=some res) (W:World) (Aa:Option Addr) (M ca:Nat) (p:M=p0.fNo.length) (d:Rd W Aa M ca (encL TNode_cells p0.fNo)) (Ab:Option Addr) (N cb:Nat) (w:List (Hd × TC)) (n:N=p0.fC.length) (F:Rd W Ab N cb (encL TClaim_cells2 w)) (G:NestW W (fun z:TC=>z.fO) THop_cells w p0.fC) (Ac:Option Addr) (Q cc:Nat) (l:Q=p1.length) (H:Rd W Ac Q cc (encL cI p1)) :
  Calls Tryz.prog 22 [.agg #[.slice Aa M ca,.slice Ab N cb],.slice Ac Q cc,vI p2].toArray W fun e W2=>∃x:Option Addr × Nat × Nat,x.2.1=res.1.length∧e=.returned (.tuple #[.slice x.1 x.2.1 x.2.2,vI res.2])∧Ext W W2 [aO x.1 x.2.2 3 1 x.2.1 (encL cI res.1)]:=by
 subst p
 subst n
 subst l
 unfold jX at h
 refine ae (m:=56) Tryz.func22 O O (nB O) (cS (cR ?_))
 refine aP [.slice Aa p0.fNo.length ca,.slice Ab p0.fC.length cb] O O O (fun S=>?_)
 refine oY O (yAS O) (oY O (yAI O) (oN (eT (cS (cS (cR (oY O (yN 0 [.slice Aa p0.fNo.length ca,.slice Ab p0.fC.length cb] aF O O O) (oY O (yMS O) (oY O (yMI O) ?_)))))))))
 obtain⟨y2,fN,h⟩:=bOs h
 refine oY O (yC [.agg #[.slice Aa p0.fNo.length ca,.slice Ab p0.fC.length cb],.slice Ac p1.length cc,vI p2] go_74 O (fun W2 f=>gv p0 p1 p2 y2 fN W2 Aa p0.fNo.length ca O ((RdL.arg d) W2 f) Ab p0.fC.length cb w O ((RdL.arg F) W2 f) (NestL.at (NestL.arg G) W2 f) Ac p1.length cc O ((RdL.arg H) W2 f)) O) (oY O (yAI O) (oN (eT (cS (cR (oY O (yMI O) (oY O (dD O O) (oN (eT ?_)))))))))
 rcases iOs h with⟨t,h⟩|⟨t,h⟩
 ·refine cT (vB t) (cS (cR (oY O (yMI O) (oY O (yAS O) (oY O (yAI O) (oN (eT (ak (ab ?_)))))))))
  obtain rfl:=sI h
  exact bx (.inl O) O (rVt (v:=.slice none 0 0) O) (rVt (v:=vI y2) O) (fun W2 f=>⟨(none,0,0),O,O,((f.nilrow 3 1).pick 1 O)⟩)
 ·refine cF (vB t) (cK (eT (cS (cS (cR (oY O (yN 0 [.slice Aa p0.fNo.length ca,.slice Ab p0.fC.length cb] aF O O O) (oY O (yMS O) (oY O (yMI O) ?_))))))))
  obtain⟨y7,fn,h⟩:=bOs h
  refine oY O (yC [.agg #[.slice Aa p0.fNo.length ca,.slice Ab p0.fC.length cb],.slice Ac p1.length cc,vI p2,.func (.func 76) #[] #[]] go_75 O (fun W2 f=>gi p0 p1 p2 (fun x5 x6=>cQ x5 x6) y7 fn W2 Aa p0.fNo.length ca O ((RdL.arg d) W2 f) Ab p0.fC.length cb w O ((RdL.arg F) W2 f) (NestL.at (NestL.arg G) W2 f) Ac p1.length cc O ((RdL.arg H) W2 f) 76 [] [] go_76 (fun W3 hb x0 x1 y hxy=>kR  x0 x1  y hxy W3 )) O) (oY O (fe O) (oN (eT ?_)))
  rcases iOs h with⟨a,h⟩|⟨a,h⟩
  ·refine cT (vB a) (cS (cR (oY O (yAS O) (oY O (yAI O) (oN (eT (ak (ab ?_))))))))
   obtain rfl:=sI h
   exact bx (.inl O) O (rVt (v:=.slice none 0 0) O) (rVt (v:=vI 5) O) (fun W2 f=>⟨(none,0,0),O,O,((f.nilrow 3 1).pick 1 O)⟩)
  ·refine cF (vB a) (cK (eT (cS (cR (oY O (yAS O) (oN (eT (cS (cS (cR (oY O (yFA aY O) (oY O (yL 0 dK O O O) (oY O (bd (us:=[]) gE O) (oY O (yMI O) (oN (eT (cB ?_)))))))))))))))))
   obtain⟨I,k,h⟩:=bOs h
   refine cN 3 1 ?_
   refine bF (fun(s:(Int × (List Int))) L tm=>∃(T:Nat→Value) (R:Option Addr) (q:Nat) (U:Nat),U=s.2.length∧L=[aj S 25 [.slice Aa p0.fNo.length ca,.slice Ab p0.fC.length cb],aO R q 3 1 U (encL cI s.2)]∧tm=(upd (upd (upd (upd (upd (upd (upd (upd (upd T 1 (.slice Ac p1.length cc)) 2 (vI p2)) 3 (.pointer (some ⟨S,0,none⟩))) 6 (.slice none 0 0)) 7 (vI 0)) 9 (.slice R U q)) 25 (.slice Aa p0.fNo.length ca)) 26 (vI (p0.fNo.length:Int))) 27 (vI s.1))) 0 k ⟨_,none,0,0,O,O,(kp4 (kp4 (kp O)))⟩ ?_ ?_
   ·rintro g L tm st ⟨b,D,E,fd,rfl,rfl,rfl⟩ h
    unfold iI at h
    refine cS (cR (oY O (bA O O) (oN (eT (cS ?_)))))
    rcases iOs h with⟨X,h⟩|⟨X,h⟩
    ·refine cT (vB X) (cK (eT (cS (cB (cS (cR ?_))))))
     obtain⟨K,h⟩:=gOs h
     refine oY O (yI jL (by decide) K.1 K.2 (RdL.arg d) (eL ad O) O O) ?_
     refine oY O (yM (A:=Aa) (j:=(Int.toNat g.1*3)) [vI ((rdL p0.fNo g.1).fID),vI ((rdL p0.fNo g.1).fLevel),vI ((rdL p0.fNo g.1).fCost)] mr (Nat.succ_pos _) (RdL.arg d) O (aM ad K.1 (ao K.2 O))) ?_
     refine aC j7 O (fun Y=>?_)
     refine cr O (yS 2 [vI ((rdL p0.fNo g.1).fID),vI ((rdL p0.fNo g.1).fLevel),vI ((rdL p0.fNo g.1).fCost)] sz_97 O (nB O) O O O) (oN (eT (cS (cS (cR (oY O (yFA gd O) (oY O (yL 2 bN O O O) (oY O (yMI O) (oY O (ig O O) (oY O (yMB O) ?_))))))))))
     obtain⟨g2,c,h⟩:=bOs h
     refine oJ 5 (fun T=>(upd (upd (upd (upd (upd (upd (upd (upd (upd (upd (upd (upd T 1 (.slice Ac p1.length cc)) 2 (vI p2)) 3 (.pointer (some ⟨S,0,none⟩))) 6 (.slice none 0 0)) 7 (vI 0)) 9 (.slice D g.2.length E)) 25 (.slice Aa p0.fNo.length ca)) 26 (vI (p0.fNo.length:Int))) 27 (vI g.1)) 28 (.bool (decide (g.1<(p0.fNo.length:Int))))) 11 (.pointer (some ⟨Y,0,none⟩))) 40 (.bool g2))) (fun T=>?_) (fun key=>?_)
     ·refine oN (eT ?_)
      rcases iOs h with⟨Z,h⟩|⟨Z,h⟩
      ·refine cT (vB Z) (aK (ah (ag (eT (cR (oY O (bc O O) (oY O (yMI O) (oN (aS 2 ?_)))))))))
       obtain rfl:=sI h
       exact eN ⟨_,D,E,g.2.length,O,O,(kp4 (kp4 (kp O)))⟩
      ·refine cF (vB Z) (cK (eT (cS (cR (oY O (yN 0 [.slice Aa p0.fNo.length ca,.slice Ab p0.fC.length cb] aF O O O) (oY O (yMS O) (oY O (yMI O) (oY O (eS [.pointer (some ⟨S,0,none⟩),.pointer (some ⟨Y,0,none⟩)] O O) ?_))))))))
       obtain⟨g3,f0,h⟩:=bOs h
       refine oY O (yC [.agg #[.slice Aa p0.fNo.length ca,.slice Ab p0.fC.length cb],.slice Ac p1.length cc,vI p2,.func (.func 81) #[] #[.pointer (some ⟨S,0,none⟩),.pointer (some ⟨Y,0,none⟩)]] go_75 O (fun W2 f=>gi p0 p1 p2 (fun gf o0=>fM gf o0 p0 (TN.mk ((rdL p0.fNo g.1).fID) ((rdL p0.fNo g.1).fLevel) ((rdL p0.fNo g.1).fCost))) g3 f0 W2 Aa p0.fNo.length ca O ((RdL.arg d) W2 f) Ab p0.fC.length cb w O ((RdL.arg F) W2 f) (NestL.at (NestL.arg G) W2 f) Ac p1.length cc O ((RdL.arg H) W2 f) 81 [] [.pointer (some ⟨S,0,none⟩),.pointer (some ⟨Y,0,none⟩)] go_81 (fun W3 hb x0 x1 y hxy=>o7  x0 x1 p0 (TN.mk ((rdL p0.fNo g.1).fID) ((rdL p0.fNo g.1).fLevel) ((rdL p0.fNo g.1).fCost)) y hxy W3 S Aa p0.fNo.length ca O (((RdL.arg d) W2 f).later hb) Ab p0.fC.length cb w O (((RdL.arg F) W2 f).later hb) ((NestL.at (NestL.arg G) W2 f).later hb) (((RdL.cells 0 O) W2 f).later hb) Y (((RdL.cells 2 O) W2 f).later hb))) O) (oY O (fe O) (oN (eT ?_)))
       rcases iOs h with⟨V,h⟩|⟨V,h⟩
       ·refine cT (vB V) (cR (oY O (yMS O) (oY O (yFA gd O) (oY O (yL 2 bN O O O) ?_))))
        refine ap 1 (encL cI [(rdL p0.fNo g.1).fID]) _ ib c6 mf mC (by decide) (by decide) (by kernel_rfl) (eL aG O) O (fun oi=>?_)
        obtain⟨f1,h⟩:=gOs h
        refine bg 1 c6 mf mC O O O (RdL.row 3 O) (eL aG O) (cg qg _) (cp f1 (by decide)) O (fun o1 o2=>?_)
        refine oY O (yAS O) (oN (aq (eT (cR (oY O (bc O O) (oY O (yMI O) (oN (aS 2 ?_))))))))
        obtain rfl:=sI h
        exact eN ⟨_,o1,o2,(g.2.length+1),(fD O O),O,(kp4 (kp4 (kp O)))⟩
       ·refine cF (vB V) (cK (aq (eT (cR (oY O (bc O O) (oY O (yMI O) (oN (aS 2 ?_))))))))
        obtain rfl:=sI h
        exact eN ⟨_,D,E,g.2.length,O,O,(kp4 (kp4 (kp O)))⟩
     ·clear h;rcases iOs c with⟨o,h⟩|⟨o,h⟩
      ·refine oSk (sF O O O O o) (oSk (sF O O O O o) (oSk (sF O O O O o) (oSk (sF O O O O o) (oY O (aw (vB o) O) ?_))))
       obtain rfl:=sI h
       exact key _ _ (kp4 (kp4 (kp4 O)))
      ·refine oY (sT O O O O o) (yMS O) (oY (sT O O O O o) (yFA gd O) (oY (sT O O O O o) (yL 2 bN O O O) ?_))
       obtain⟨oq,f2,h⟩:=bOs h
       refine oY (sT O O O O o) (yC [.slice Ac p1.length cc,vI ((rdL p0.fNo g.1).fID)] go_80 O (fun W2 f=>dX p1 ((rdL p0.fNo g.1).fID) oq f2 W2 Ac p1.length cc O ((RdL.arg H) W2 f)) O) (oY O (av (vB o) O) ?_)
       obtain rfl:=sI h
       exact key _ _ (kp4 (kp4 (kp4 O)))
    ·refine cF (vB X) (aK (ah ?_))
     obtain rfl:=sI h
     exact ay ⟨O,_,D,E,g.2.length,O,O,(kp4 (kp4 (kp O)))⟩
   ·intro e L tm hJ
    obtain⟨rfl,f3,r,u,fE,rfl,rfl,rfl⟩:=hJ
    refine⟨(by intro hc;cases hc),?_⟩
    refine ag (eT (cS (cR (oY O (yMS O) ?_))))
    obtain⟨i,f4,h⟩:=bOs h
    refine jG 1 [.slice r I.2.length u] (fun(_:Unit)=>I.2.length=i.length) (fun _=>.tuple #[]) (fun _=>aO r u 3 1 I.2.length (encL cI i)) (fun _=>[]) O O go_78 O (fun W2 f=>(fX I.2 i f4 W2 _ (mw [aj S 25 [.slice Aa p0.fNo.length ca,.slice Ab p0.fC.length cb],aO r u 3 1 I.2.length (encL cI I.2)] [1]) r I.2.length u O f).mono (fun e W3 h3=>⟨(),h3.2.1,h3.1,h3.2.2⟩)) ?_
    rintro-fr
    try dsimp only[lsz,lss,List.append_nil]
    refine oN (eT (cS (cR (oY O (yMS O) (oY O (yAS O) (oY O (yAI O) (oN (eT (ak ?_)))))))))
    obtain rfl:=sI h
    exact bx (.inl O) O (rVt (v:=.slice r I.2.length u) O) (rVt (v:=vI 0) O) (fun W2 f=>⟨(r,I.2.length,u),fr,O,(f.pick 1 O)⟩)
theorem qj (p0:TL) (p1:(List Int)) (p2:Int) (res:(TRatio × Int)) (h:jH p0 p1 p2=some res) (W:World) (Aa:Option Addr) (I ca:Nat) (X:I=p0.fNo.length) (w:Rd W Aa I ca (encL TNode_cells p0.fNo)) (Ab:Option Addr) (K cb:Nat) (g:List (Hd × TC)) (Y:K=p0.fC.length) (r:Rd W Ab K cb (encL TClaim_cells2 g)) (u:NestW W (fun z:TC=>z.fO) THop_cells g p0.fC) (Ac:Option Addr) (M cc:Nat) (Z:M=p1.length) (N:Rd W Ac M cc (encL cI p1)) :
  Calls Tryz.prog 24 [.agg #[.slice Aa I ca,.slice Ab K cb],.slice Ac M cc,vI p2].toArray W fun e W2=>e=.returned (.tuple #[.agg #[vI res.1.fNum,vI res.1.fDen],vI res.2])∧Ext W W2 []:=by
 subst X
 subst Y
 subst Z
 unfold jH at h
 refine jR (m:=51) Tryz.func24 O O (nB O) (cS (cR ?_))
 refine aP [.slice Aa p0.fNo.length ca,.slice Ab p0.fC.length cb] O O O (fun b1=>?_)
 refine aP [.slice Ac p1.length cc] O O O (fun b2=>?_)
 refine aP [vI p2] O O O (fun b3=>?_)
 refine aC ze_48 O (fun S=>?_)
 refine oY O (yAI O) (oN (eT (cS (cS (cR (oY O (yN 0 [.slice Aa p0.fNo.length ca,.slice Ab p0.fC.length cb] aF O O O) (oY O (yL 1 q8 O O O) (oY O (yL 2 bN O O O) ?_))))))))
 obtain⟨y5,fd,h⟩:=bOs h
 refine oY O (yC [.agg #[.slice Aa p0.fNo.length ca,.slice Ab p0.fC.length cb],.slice Ac p1.length cc,vI p2] go_74 O (fun W2 f=>gv p0 p1 p2 y5 fd W2 Aa p0.fNo.length ca O ((RdL.arg w) W2 f) Ab p0.fC.length cb g O ((RdL.arg r) W2 f) (NestL.at (NestL.arg u) W2 f) Ac p1.length cc O ((RdL.arg N) W2 f)) O) (oY O (yAI O) (oN (eT (cS (cR (oY O (yMI O) (oY O (dD O O) (oN (eT ?_)))))))))
 rcases iOs h with⟨V,h⟩|⟨V,h⟩
 ·refine cT (vB V) (cS (cR ?_))
  refine oY O (aI [vI 0,vI 0] [(0,1),(1,1)] ust_48 ze_48 (by kernel_rfl)) ?_
  refine oY O (yMI O) (cr O (yS 3 [vI 0,vI 0] sz_48 O (nB O) O O O) (oY O (yAI O) (oN (eT (ak (ab (ex_M0 (.inl O) ?_)))))))
  obtain rfl:=sI h
  exact bx (.inl O) O (aH 3 [vI 0,vI 0] ag_48 O O O) (rVt (v:=vI y5) O) (fun W2 f=>⟨O,f.none⟩)
 ·refine cF (vB V) (cK (eT (cS (cR ?_))))
  refine aC mf O (fun R=>?_)
  refine aC mf O (fun q=>?_)
  try dsimp only[lna,lca,lsz,lss]
  refine cr O (cn 4 (v:=vI 0) sz_3 O (Nat.lt_of_lt_of_le (Nat.lt_succ_self _) (nB O)) O O O) (cr O (cn 5 (v:=vI 0) sz_3 O (Nat.lt_of_lt_of_le (Nat.lt_succ_self _) (nB O)) O O O) (oN (eT (cS (cS (cR (oY O (yN 0 [.slice Aa p0.fNo.length ca,.slice Ab p0.fC.length cb] aF O O O) ?_)))))))
  obtain⟨fE,n,h⟩:=bOs h
  refine db [.agg #[.slice Aa p0.fNo.length ca,.slice Ab p0.fC.length cb]] _ _ O go_86 O (fun W2 f=>gg p0 fE n W2 Aa p0.fNo.length ca O ((RdL.arg w) W2 f) Ab p0.fC.length cb g O ((RdL.arg r) W2 f) (NestL.at (NestL.arg u) W2 f)) ?_
  rintro F
  try dsimp only[lna,lca,lsz,lss]
  refine oN (eT (cB ?_))
  obtain⟨hok37,h⟩:=gOs h
  obtain⟨gf,l,h⟩:=bOs h
  refine mH (caps:=[.pointer (some ⟨F,0,none⟩)]) (fun(s:(Int × Int)) L=>L=[aj b1 25 [.slice Aa p0.fNo.length ca,.slice Ab p0.fC.length cb],aj b2 26 [.slice Ac p1.length cc],aj b3 3 [vI p2],aj S 48 [vI 0,vI 0],aj R 3 [vI s.1],aj q 3 [vI s.2],aj F 25 [.slice Aa p0.fNo.length ca,.slice Ab p0.fC.length cb]]) (fun(_:Unit) _ _=>False) l O si (en p0 hok37 F Aa p0.fNo.length ca Ab p0.fC.length cb O g u.p) (fun W2 s L hI f=>by obtain rfl:=hI;exact⟨(RdL.cells 6 O) W2 f,(RdL.arg r) W2 f⟩) O (fun _ _ _ h=>h.elim) ?_ ?_ ?_
  ·rintro D13 l14 rec15 D E G o L st hrec16 rfl h
   unfold iE at h
   refine cR ?_
   try dsimp only[lna,lca,lsz,lss]
   refine oY O (yAS O) (oN (nO 8 O hrec16 (cB (cS (cR (oY O (yL 5 bN O O O) (oY O (bc O O) (cr O (cn 5 (v:=vI (w64 (G.2+1))) sz_3 O (Nat.lt_of_lt_of_le (Nat.lt_succ_self _) (nB O)) O O O) (oN (eT (cS ?_)))))))))))
   obtain⟨fN,a,h⟩:=bOs h
   obtain⟨T,i,h⟩:=bOs h
   obtain⟨j,h⟩:=gOs h
   refine eV [[],[],[],[2],[0,1,2,3],[],[0,1,2,3,4,5]] [(none,0,[true,true,true,true,true,true,true,true,true,true]),(none,0,[true,true,true,true,true,true,true,true,true,true]),(none,0,[true,true,true,true,true,true,true,true,true,true]),(none,0,[true,true,true,true,true,true,true,true,true,true]),(none,1,[true,true,true,true,true,true,true,true,true,true]),(none,0,[true,true,true,true,true,true,true,true,true,true,false]),(none,0,[true,true,true,true,true,true,true,true,true,true,true])] [⟨fun _=>.agg #[.slice Aa p0.fNo.length ca,.slice Ab p0.fC.length cb],fun _=>noR,fun _=>[]⟩,⟨fun _=>.slice Ac p1.length cc,fun _=>noR,fun _=>[]⟩,⟨fun _=>.slice D o.length E,fun _=>noR,fun _=>[]⟩,⟨fun _=>.func (.func 132) #[.slice D o.length E] #[],fun _=>noR,fun _=>[]⟩,⟨fun ξ26=>.map (some (ξ26 4 0).2.1),fun _=>noR,fun ξ26=>[mapV Tryz.prog 3 kI dx kB false (ξ26 4 0).2.1 T]⟩,⟨fun _=>vI p2,fun _=>noR,fun _=>[]⟩,⟨fun _=>.bool (ax false T p2),fun _=>noR,fun _=>[]⟩] 10 cD (by kernel_rfl) (by kernel_rfl) ⟨⟨fun ξ26 ξ26' h=>⟨O,O,O⟩,fun _=>O⟩,⟨fun ξ26 ξ26' h=>⟨O,O,O⟩,fun _=>O⟩,⟨fun ξ26 ξ26' h=>⟨O,O,O⟩,fun _=>O⟩,⟨fun ξ26 ξ26' h=>⟨O,O,O⟩,fun _=>O⟩,⟨fun ξ26 ξ26' h=>⟨by simp only[h 4 (.inl O)],O,by simp only[h 4 (.inl O)]⟩,fun _=>O⟩,⟨fun ξ26 ξ26' h=>⟨O,O,O⟩,fun _=>O⟩,⟨fun ξ26 ξ26' h=>⟨O,O,O⟩,fun _=>O⟩,trivial⟩ O (fun ξ26=>?_)
   refine cf O (fun L2=>?_) ?_
   ·dsimp only[aA,lca,lna]
    refine oY O (yN 0 [.slice Aa p0.fNo.length ca,.slice Ab p0.fC.length cb] aF O O O) (oN ?_)
    exact al (fun _=>(none,0,0,[],noR)) O (List.append_nil _)
   dsimp only[bG,lsz,lss,lna,lca,List.append_nil]
   refine cf O (fun L2=>?_) ?_
   ·dsimp only[aA,lca,lna]
    refine oY O (yL 1 q8 O O O) (oN ?_)
    exact al (fun _=>(none,0,0,[],noR)) O (List.append_nil _)
   dsimp only[bG,lsz,lss,lna,lca,List.append_nil]
   refine cf O (fun L2=>?_) ?_
   ·dsimp only[aA,lca,lna]
    refine oY O (yMS O) (oN ?_)
    exact al (fun _=>(none,0,0,[],noR)) O (List.append_nil _)
   dsimp only[bG,lsz,lss,lna,lca,List.append_nil]
   refine cf O (fun L2=>?_) ?_
   ·dsimp only[aA,lca,lna]
    refine oY O (yC [.slice D o.length E] go_88 O (fun W2 f=>j6 o fN a W2 D o.length E O ((RdL.row 9 O) W2 f)) O) (oN ?_)
    exact al (fun _=>(none,0,0,[],noR)) O (List.append_nil _)
   dsimp only[bG,lsz,lss,lna,lca,List.append_nil]
   refine cf O (fun L2=>?_) ?_
   ·dsimp only[aA,lca,lna]
    refine db [.agg #[.slice Aa p0.fNo.length ca,.slice Ab p0.fC.length cb],.slice Ac p1.length cc,.func (.func 132) #[.slice D o.length E] #[]] _ _ O go_87 O (fun W2 f=>f9 p0 p1 (fun fn fl=>bf o fn fl) T i W2 Aa p0.fNo.length ca O ((RdL.arg w) W2 f) Ab p0.fC.length cb g O ((RdL.arg r) W2 f) (NestL.at (NestL.arg u) W2 f) Ac p1.length cc O ((RdL.arg N) W2 f) 132 [.slice D o.length E] [] go_132 (fun W3 hb x0 x1 y hxy=>gZ o x0 x1  y hxy W3 D o.length E O (((RdL.row 9 O) W2 f).later hb))) ?_
    rintro g1
    refine oN ?_
    exact al (fun _=>(none,g1,0,[],noR)) O O
   dsimp only[bG,lsz,lss,lna,lca,List.append_nil]
   refine cf O (fun L2=>?_) ?_
   ·dsimp only[aA,lca,lna]
    refine oY O (yL 2 bN O O O) (oN ?_)
    exact al (fun _=>(none,0,0,[],noR)) O (List.append_nil _)
   dsimp only[bG,lsz,lss,lna,lca,List.append_nil]
   refine cf O (fun L2=>?_) ?_
   ·dsimp only[aA,lca,lna]
    refine oY O (ga (k:=p2) (MpL.own 10 O) mR ku ze_4 O O j) (oN ?_)
    exact al (fun _=>(none,0,0,[],noR)) O (List.append_nil _)
   dsimp only[bG,lsz,lss,lna,lca,List.append_nil]
   refine lK (eT ?_)
   rcases iOs h with⟨Q,h⟩|⟨Q,h⟩
   ·refine cT (vB Q) (cR ?_)
    try dsimp only[lna,lca,lsz,lss]
    refine oY O (yL 4 bN O O O) (oY O (bc O O) (cr O (cn 4 (v:=vI (w64 (G.1+1))) sz_3 O (Nat.lt_of_lt_of_le (Nat.lt_succ_self _) (nB O)) O O O) (oN (aq (aS 10 ?_)))))
    obtain rfl:=sI h
    exact mX [aj b1 25 [.slice Aa p0.fNo.length ca,.slice Ab p0.fC.length cb],aj b2 26 [.slice Ac p1.length cc],aj b3 3 [vI p2],aj S 48 [vI 0,vI 0],aj R 3 [vI (w64 (G.1+1))],aj q 3 [vI (w64 (G.2+1))],aj F 25 [.slice Aa p0.fNo.length ca,.slice Ab p0.fC.length cb]] O
   ·refine cF (vB Q) (cK (aq (aS 10 ?_)))
    obtain rfl:=sI h
    exact mX [aj b1 25 [.slice Aa p0.fNo.length ca,.slice Ab p0.fC.length cb],aj b2 26 [.slice Ac p1.length cc],aj b3 3 [vI p2],aj S 48 [vI 0,vI 0],aj R 3 [vI G.1],aj q 3 [vI (w64 (G.2+1))],aj F 25 [.slice Aa p0.fNo.length ca,.slice Ab p0.fC.length cb]] O
  ·rintro D13 d L hst rfl
   subst hst
   dsimp only at h
   refine aq (eT (cS ?_))
   refine aU 4 cD (by kernel_rfl) (by kernel_rfl) ?_
   try dsimp only[lna,lca,lsz,lss]
   refine qY O (yL 4 bN O O O) (qY O (yL 5 bN O O O) (qY O (yAI O) (qY O (yAI O) (ck (oN (eT (cS (cB ?_))))))))
   obtain⟨H,x,h⟩:=bOs h
   refine bF (fun(s:(Int × Int)) L tm=>∃(g2:Nat→Value),L=[aj b1 25 [.slice Aa p0.fNo.length ca,.slice Ab p0.fC.length cb],aj b2 26 [.slice Ac p1.length cc],aj b3 3 [vI p2],aj S 48 [vI 0,vI 0],aj R 3 [vI d.1],aj q 3 [vI d.2],aj F 25 [.slice Aa p0.fNo.length ca,.slice Ab p0.fC.length cb],dfR D13]∧tm=(upd (upd (upd (upd (upd (upd g2 6 (.pointer (some ⟨S,0,none⟩))) 7 (vI 0)) 9 (.pointer (some ⟨R,0,none⟩))) 10 (.pointer (some ⟨q,0,none⟩))) 12 (vI s.1)) 13 (vI s.2))) 2 x ⟨_,O,(kp4 (kp (kp O)))⟩ ?_ ?_
   ·rintro o2 L tm st ⟨b,rfl,rfl⟩ h
    unfold iK at h
    refine cS (cS (cR (oY O (yMI O) (oY O (mq O O) (oN (eT ?_))))))
    rcases iOs h with⟨U,h⟩|⟨U,h⟩
    ·refine cT (vB U) (cK (eT (cB ?_)))
     refine aU 6 cD (by kernel_rfl) (by kernel_rfl) ?_
     refine qY O (yMI O) (qY O (yMI O) (qY O (yMI O) ?_))
     obtain⟨c,h⟩:=gOs h
     refine qY O (y_rem c O O) (qY O (yAI O) (qY O (yAI O) (ck (oN (aq ?_)))))
     obtain rfl:=sI h
     exact eN ⟨_,O,(kp4 (kp (kp O)))⟩
    ·refine cF (vB U) (aK (ah ?_))
     obtain rfl:=sI h
     exact ay ⟨O,_,O,(kp4 (kp (kp O)))⟩
   ·intro e L tm hJ
    obtain⟨rfl,f0,rfl,rfl⟩:=hJ
    refine⟨(by intro hc;cases hc),?_⟩
    refine ag (eT (cS ?_))
    refine aU 7 cD (by kernel_rfl) (by kernel_rfl) ?_
    refine qY O (yL 4 bN O O O) (qY O (yMI O) ?_)
    obtain⟨f1,h⟩:=gOs h
    refine qY O (y_quo f1 O O) (qY O (yL 5 bN O O O) (qY O (yMI O) ?_))
    obtain⟨f2,h⟩:=gOs h
    refine qY O (y_quo f2 O O) ?_
    refine qY O (aI [vI (w64 (Int.tdiv d.1 H.1)),vI (w64 (Int.tdiv d.2 H.1))] [(0,1),(1,1)] ust_48 ze_48 (by kernel_rfl)) ?_
    refine ck (cr O (yS 3 [vI (w64 (Int.tdiv d.1 H.1)),vI (w64 (Int.tdiv d.2 H.1))] sz_48 O (nB O) O O O) (oY O (yAI O) (oN (eT (ak (ex_M1 7 O (.inl O) ?_))))))
    obtain rfl:=sI h
    exact bx (.inl O) O (aH 3 [vI (w64 (Int.tdiv d.1 H.1)),vI (w64 (Int.tdiv d.2 H.1))] ag_48 O O O) (rVt (v:=vI 0) O) (fun W2 f=>⟨O,f.none⟩)
  ·intro D13 t e L _ hh
   exact hh.elim
theorem qM (p0:TL) (p1:(List Int)) (res:Int) (h:jK p0 p1=some res) (W:World) (Aa:Option Addr) (w ca:Nat) (I:w=p0.fNo.length) (o:Rd W Aa w ca (encL TNode_cells p0.fNo)) (Ab:Option Addr) (D cb:Nat) (g:List (Hd × TC)) (K:D=p0.fC.length) (r:Rd W Ab D cb (encL TClaim_cells2 g)) (u:NestW W (fun z:TC=>z.fO) THop_cells g p0.fC) (Ac:Option Addr) (E cc:Nat) (M:E=p1.length) (F:Rd W Ac E cc (encL cI p1)) :
  Calls Tryz.prog 90 [.agg #[.slice Aa w ca,.slice Ab D cb],.slice Ac E cc].toArray W fun e W2=>e=.returned (vI res)∧Ext W W2 []:=by
 subst I
 subst K
 subst M
 unfold jK at h
 refine ae (m:=29) Tryz.func90 O O (nB O) (cS (cR ?_))
 refine aP [.slice Aa p0.fNo.length ca,.slice Ab p0.fC.length cb] O O O (fun p=>?_)
 refine oY O (yAI O) (oN (eT (cS (cR (oY O (yN 0 [.slice Aa p0.fNo.length ca,.slice Ab p0.fC.length cb] aF O O O) (oY O (yMS O) ?_))))))
 obtain⟨X,T,h⟩:=bOs h
 refine db [.agg #[.slice Aa p0.fNo.length ca,.slice Ab p0.fC.length cb],.slice Ac p1.length cc] _ _ O go_65 O (fun W2 f=>dw p0 p1 X T W2 Aa p0.fNo.length ca O ((RdL.arg o) W2 f) Ab p0.fC.length cb g O ((RdL.arg r) W2 f) (NestL.at (NestL.arg u) W2 f) Ac p1.length cc O ((RdL.arg F) W2 f)) ?_
 rintro V
 refine oY O (bC O) (oN (eT (cS (cS (cR (oY O (yN 0 [.slice Aa p0.fNo.length ca,.slice Ab p0.fC.length cb] aF O O O) (oY O (yMS O) ?_)))))))
 obtain⟨U,S,h⟩:=bOs h
 refine db [.agg #[.slice Aa p0.fNo.length ca,.slice Ab p0.fC.length cb],.slice Ac p1.length cc] _ _ O go_64 O (fun W2 f=>jE p0 p1 U S W2 Aa p0.fNo.length ca O ((RdL.arg o) W2 f) Ab p0.fC.length cb g O ((RdL.arg r) W2 f) (NestL.at (NestL.arg u) W2 f) Ac p1.length cc O ((RdL.arg F) W2 f)) ?_
 rintro l
 refine ql 2 O mR ku O O (fun n k9 hk10=>(oN (eT (cB (n7 (fun(d:Nat × (Int→Bool) × (List (Int × Bool))) L tm=>DiffI dx false U X d∧∃(Y:Nat→Value),L=[aj p 25 [.slice Aa p0.fNo.length ca,.slice Ab p0.fC.length cb],mapV Tryz.prog 3 kI dx kB false V d.2.2,rc Tryz.prog 3 kI dx kB false l n U d.2.1 d.1 none]∧tm=(upd (upd (upd (upd (upd (upd Y 0 (.agg #[.slice Aa p0.fNo.length ca,.slice Ab p0.fC.length cb])) 1 (.slice Ac p1.length cc)) 2 (.pointer (some ⟨p,0,none⟩))) 4 (vI 0)) 5 (.map (some V))) 15 (.pointer (some ⟨n,0,none⟩)))) (fun s=>s.1) (k9,(fun y=>bH U y),X) ⟨DiffI.start,_,O,(kp4 (kp (kp O)))⟩ ?_)))))
 rintro d L tm ⟨hI21,Y,rfl,rfl⟩
 refine cS (cR ?_)
 refine rQ 2 O mR O O (fun hno17=>?_) (fun N k12 H hly14 hM15 hk16=>?_)
 ·refine oY O (yE O O) (oN (eT (cS (cF O (aK (ah ?_))))))
  refine pk (by intro h;cases h) ?_
  refine qb 1 (tc U X) mR O (hI21.done hno17) (qF 2 O ?_)
  try dsimp only[lsz,lss]
  refine ag (eT (cS (cR (oY O (yN 0 [.slice Aa p0.fNo.length ca,.slice Ab p0.fC.length cb] aF O O O) (oY O (bm O) ?_)))))
  obtain⟨Q,Z,h⟩:=bOs h
  refine oC [.agg #[.slice Aa p0.fNo.length ca,.slice Ab p0.fC.length cb],.map (some V)] _ _ _ O go_71 O (fun W2 f=>k5 p0 (tc U X) Q Z W2 Aa p0.fNo.length ca O ((RdL.arg o) W2 f) Ab p0.fC.length cb g O ((RdL.arg r) W2 f) (NestL.at (NestL.arg u) W2 f) V ((MpL.own 1 O) W2 f)) ?_
  rintro⟨t,R,a⟩ G
  replace G:R=Q.1.length:=G;subst G
  refine oY O (aZ O) (oY O (yE O O) (oY O (yE O O) (oY O (yAS O) (oY O (yAI O) (oN (eT (cS (cR (oY O (yMI O) (oY O (yAI O) (oN (eT (ak ?_)))))))))))))
  obtain rfl:=sI h
  exact am (.inl O) O (rVt (v:=vI Q.2) O) (fun W2 f=>⟨O,f.none⟩)
 ·refine oY O (yE O O) (oN (eT (cS (cT O (cK (eT (cB (cS (cR (oY O (rK 2 O O) (oY O (yE O O) (oY O (yAI O) (oN (eT (cR (oY O (bm O) (oY O (yMI O) (cr O (y_deleteV 1 (k:=N) O mR ku O O H) (oN (aq (mQ 2 O ?_)))))))))))))))))))))
  exact l3 (k12,(fun q=>d.2.1 q && !decide (q=N)),(nx d.2.2 N)) ⟨hI21.step H hM15,_,O,(kp4 (kp (kp O)))⟩ hk16
theorem fj (p0:(List TH)) (res:(List TH)) (h:bp p0=some res) (W:World) (Aa:Option Addr) (f ca:Nat) (r:f=p0.length) (g:Rd W Aa f ca (encL THop_cells p0)) :
  Calls Tryz.prog 110 [.slice Aa f ca].toArray W fun e W2=>∃x:Option Addr × Nat × Nat,x.2.1=res.length∧e=.returned (.slice x.1 x.2.1 x.2.2)∧Ext W W2 [aO x.1 x.2.2 111 2 x.2.1 (encL THop_cells res)]:=by
 subst r
 unfold bp at h
 refine ae (m:=8) Tryz.func110 O O (nB O) (cS (cR (oY O (yAS O) (oN (eT (cS (cS (cR (oY O (yMS O) (oY O (y_eqnil fZ O O) (oN (eT ?_))))))))))))
 rcases aB (Option.isNone Aa)with o|o
 ·refine cT (vB o) ?_
  have z6:=rd_none (Option.isNone_iff_eq_none.1 o▸g) au (by decide)
  replace h:=(gOs h).2
  rw[z6]at h
  refine cS (cR (oY O (yAS O) (oN (eT (ak (ab ?_))))))
  obtain rfl:=sI h
  exact am (.inl O) O (rVt (v:=.slice none 0 0) O) (fun W2 u=>⟨(none,0,0),O,O,((u.nilrow 111 2).pick 0 O)⟩)
 ·refine cF (vB o) (cK (eT (cS (cR ?_))))
  refine eH THop_cells fZ i8 nC O (fun E=>?_)
  refine oY O (yMS O) ?_
  obtain⟨d,h⟩:=gOs h
  refine bg 0 fZ i8 nC O O O (RdL.arg g) (eL au O) (cg lG _) (cp d (by decide)) O (fun w D=>?_)
  refine oY O (yAS O) (oN (eT (ak ?_)))
  obtain rfl:=sI h
  exact am (.inl O) O (rVt (v:=.slice w (0+p0.length) D) O) (fun W2 u=>⟨(w,(0+p0.length),D),(fD O O),O,(u.pick 0 O)⟩)
theorem lz (p0:(List TN)) (res:(List TN)) (h:ch p0=some res) (W:World) (Aa:Option Addr) (f ca:Nat) (r:f=p0.length) (g:Rd W Aa f ca (encL TNode_cells p0)) :
  Calls Tryz.prog 142 [.slice Aa f ca].toArray W fun e W2=>∃x:Option Addr × Nat × Nat,x.2.1=res.length∧e=.returned (.slice x.1 x.2.1 x.2.2)∧Ext W W2 [aO x.1 x.2.2 97 3 x.2.1 (encL TNode_cells res)]:=by
 subst r
 unfold ch at h
 refine ae (m:=8) Tryz.func142 O O (nB O) (cS (cR (oY O (yAS O) (oN (eT (cS (cS (cR (oY O (yMS O) (oY O (y_eqnil gE O O) (oN (eT ?_))))))))))))
 rcases aB (Option.isNone Aa)with o|o
 ·refine cT (vB o) ?_
  have z6:=rd_none (Option.isNone_iff_eq_none.1 o▸g) ad (by decide)
  replace h:=(gOs h).2
  rw[z6]at h
  refine cS (cR (oY O (yAS O) (oN (eT (ak (ab ?_))))))
  obtain rfl:=sI h
  exact am (.inl O) O (rVt (v:=.slice none 0 0) O) (fun W2 u=>⟨(none,0,0),O,O,((u.nilrow 97 3).pick 0 O)⟩)
 ·refine cF (vB o) (cK (eT (cS (cR ?_))))
  refine eH TNode_cells gE j7 o9 O (fun E=>?_)
  refine oY O (yMS O) ?_
  obtain⟨d,h⟩:=gOs h
  refine bg 0 gE j7 o9 O O O (RdL.arg g) (eL ad O) (cg eY _) (cp d (by decide)) O (fun w D=>?_)
  refine oY O (yAS O) (oN (eT (ak ?_)))
  obtain rfl:=sI h
  exact am (.inl O) O (rVt (v:=.slice w (0+p0.length) D) O) (fun W2 u=>⟨(w,(0+p0.length),D),(fD O O),O,(u.pick 0 O)⟩)
theorem kz (p0:(List TC)) (res:(List TC)) (h:a7 p0=some res) (W:World) (Aa:Option Addr) (o ca:Nat) (f:List (Hd × TC)) (d:o=p0.length) (r:Rd W Aa o ca (encL TClaim_cells2 f)) (g:NestW W (fun z:TC=>z.fO) THop_cells f p0) :
  Calls Tryz.prog 143 [.slice Aa o ca].toArray W fun e W2=>∃x:(Option Addr × Nat × Nat),(x.2.1=res.length∧NestP (fun z:TC=>z.fO) f res)∧e=.returned (.slice x.1 x.2.1 x.2.2)∧Ext W W2 [aO x.1 x.2.2 90 2 x.2.1 (encL TClaim_cells2 f)]:=by
 subst d
 unfold a7 at h
 refine ae (m:=8) Tryz.func143 O O (nB O) (cS (cR (oY O (yAS O) (oN (eT (cS (cS (cR (oY O (yMS O) (oY O (y_eqnil dQ O O) (oN (eT ?_))))))))))))
 rcases aB (Option.isNone Aa)with u|u
 ·refine cT (vB u) ?_
  have z6:=rd_none (Option.isNone_iff_eq_none.1 u▸r) aa (by decide)
  replace h:=(gOs h).2
  subst z6
  have z2:p0=[]:=g.p.eq.symm
  subst z2
  refine cS (cR (oY O (yAS O) (oN (eT (ak (ab ?_))))))
  obtain rfl:=sI h
  exact am (.inl O) O (rVt (v:=.slice none 0 0) O) (fun W2 w=>⟨(none,0,0),⟨O,NestP.nil⟩,O,(w.nilrow 90 2).pickL [0] (by decide) O⟩)
 ·refine cF (vB u) (cK (eT (cS (cR ?_))))
  refine eH TClaim_cells2 dQ gR l8 O (fun G=>?_)
  refine oY O (yMS O) ?_
  obtain⟨D,h⟩:=gOs h
  refine bg 0 dQ gR l8 O O O (RdL.arg r) (eL aa (NestP.hn g.p O)) (cg bU _) (cp D (by decide)) O (fun E F=>?_)
  refine oY O (yAS O) (oN (eT (ak ?_)))
  obtain rfl:=sI h
  exact am (.inl O) O (rVt (v:=.slice E (0+p0.length) F) O) (fun W2 w=>⟨(E,(0+p0.length),F),⟨(fD O O),(NestP.app NestP.nil g.p)⟩,O,w.pickL [0] (by decide) O⟩)
theorem kW {p:List TC} {res:List TC} {ys:List (Hd × TC)} {sel:TC→List TH} (h:a7 p=some res) (hN:NestP sel ys p):NestP sel ys res:=by
 unfold a7 at h
 have h2:=Option.some.inj (gOs h).2
 rw[lna]at h2
 exact h2▸hN
theorem gS (p0:TL) (res:TL) (h:cJ p0=some res) (W:World) (Aa:Option Addr) (K ca:Nat) (R:K=p0.fNo.length) (q:Rd W Aa K ca (encL TNode_cells p0.fNo)) (Ab:Option Addr) (M cb:Nat) (d:List (Hd × TC)) (l:M=p0.fC.length) (t:Rd W Ab M cb (encL TClaim_cells2 d)) (N:NestW W (fun z:TC=>z.fO) THop_cells d p0.fC) (wb:World) (Hb:World→Prop) (hB:∀W3,Below W.heap.size W W3→Below wb.heap.size wb W3∧Hb W3) (a:PvL (fun z:TC=>z.fO) THop_cells wb Hb d) :
  Calls Tryz.prog 111 [.agg #[.slice Aa K ca,.slice Ab M cb]].toArray W fun e W2=>∃x:((Option Addr × Nat × Nat) × (Option Addr × Nat × Nat) × (List (Hd × TC)) × Res),(x.1.2.1=res.fNo.length∧x.2.1.2.1=res.fC.length∧NestP (fun z:TC=>z.fO) x.2.2.1 res.fC∧PvL (fun z:TC=>z.fO) THop_cells wb (fun W4=>Hb W4∧Res.holds x.2.2.2 W4) x.2.2.1)∧e=.returned (.agg #[.slice x.1.1 x.1.2.1 x.1.2.2,.slice x.2.1.1 x.2.1.2.1 x.2.1.2.2])∧Ext W W2 [aO x.1.1 x.1.2.2 97 3 x.1.2.1 (encL TNode_cells res.fNo),aO x.2.1.1 x.2.1.2.2 90 2 x.2.1.2.1 (encL TClaim_cells2 x.2.2.1),x.2.2.2]:=by
 subst R
 subst l
 unfold cJ at h
 refine ae (m:=32) Tryz.func111 O O (nB O) (cS (cR ?_))
 refine aP [.slice Aa p0.fNo.length ca,.slice Ab p0.fC.length cb] O O O (fun b1=>?_)
 refine aC ft O (fun b2=>?_)
 refine oN (eT (cS ?_))
 obtain⟨G,f4,h⟩:=bOs h
 obtain⟨u,S,h⟩:=bOs h
 have hPc_y10:=kW S N.p
 refine eV [[],[0],[0,1],[],[3],[0,1,2,3,4],[0,1,2,3,4,5],[],[0,1,2,3,4,5,6,7]] [(none,0,[true,true]),(none,0,[true,true]),(none,1,[true,true]),(none,0,[true,true,false]),(none,0,[true,true,false]),(none,1,[true,true,true]),(none,0,[true,true,true,true]),(none,1,[true,true,false,false]),(some 4,0,[true,true,true,true,true])] [⟨fun _=>.pointer (some ⟨b1,0+0,none⟩),fun _=>noR,fun _=>[]⟩,⟨fun _=>.slice Aa p0.fNo.length ca,fun _=>noR,fun _=>[]⟩,⟨fun ξ3=>.slice (ξ3 2 0).1 G.length (ξ3 2 0).2.2.1,fun _=>noR,fun ξ3=>[aO (ξ3 2 0).1 (ξ3 2 0).2.2.1 97 3 G.length (encL TNode_cells G)]⟩,⟨fun _=>.pointer (some ⟨b1,0+1,none⟩),fun _=>noR,fun _=>[]⟩,⟨fun _=>.slice Ab p0.fC.length cb,fun _=>noR,fun _=>[]⟩,⟨fun ξ3=>.slice (ξ3 5 0).1 u.length (ξ3 5 0).2.2.1,fun _=>noR,fun ξ3=>[aO (ξ3 5 0).1 (ξ3 5 0).2.2.1 90 2 u.length (encL TClaim_cells2 d)]⟩,⟨fun ξ3=>.agg #[.slice (ξ3 2 0).1 G.length (ξ3 2 0).2.2.1,.slice (ξ3 5 0).1 u.length (ξ3 5 0).2.2.1],fun _=>noR,fun _=>[]⟩,⟨fun ξ3=>.pointer (some ⟨(ξ3 7 0).2.1,0,none⟩),fun _=>noR,fun ξ3=>[aj (ξ3 7 0).2.1 25 [.slice none 0 0,.slice none 0 0]]⟩,⟨fun _=>undef,fun ξ3=>aj (ξ3 7 0).2.1 25 [.slice (ξ3 2 0).1 G.length (ξ3 2 0).2.2.1,.slice (ξ3 5 0).1 u.length (ξ3 5 0).2.2.1],fun _=>[]⟩] 2 cD (by kernel_rfl) (by kernel_rfl) ⟨⟨fun ξ3 ξ3' h=>⟨O,O,O⟩,fun _=>O⟩,⟨fun ξ3 ξ3' h=>⟨O,O,O⟩,fun _=>O⟩,⟨fun ξ3 ξ3' h=>⟨by simp only[h 2 (.inl O)],O,by simp only[h 2 (.inl O)]⟩,fun _=>O⟩,⟨fun ξ3 ξ3' h=>⟨O,O,O⟩,fun _=>O⟩,⟨fun ξ3 ξ3' h=>⟨O,O,O⟩,fun _=>O⟩,⟨fun ξ3 ξ3' h=>⟨by simp only[h 5 (.inl O)],O,by simp only[h 5 (.inl O)]⟩,fun _=>O⟩,⟨fun ξ3 ξ3' h=>⟨by simp only[h 2 (.inr O),h 5 (.inr O)],O,O⟩,fun _=>O⟩,⟨fun ξ3 ξ3' h=>⟨by simp only[h 7 (.inl O)],O,by simp only[h 7 (.inl O)]⟩,fun _=>O⟩,⟨fun ξ3 ξ3' h=>⟨O,by simp only[h 2 (.inr O),h 5 (.inr O),h 7 (.inr O)],O⟩,fun _=>O⟩,trivial⟩ O (fun ξ3=>?_)
 refine cf O (fun L2=>?_) ?_
 ·dsimp only[aA,lca,lna]
  refine oY O (yFA aY O) (oN ?_)
  exact al (fun _=>(none,0,0,[],noR)) O (List.append_nil _)
 dsimp only[bG,lsz,lss,lna,lca,List.append_nil]
 refine cf O (fun L2=>?_) ?_
 ·dsimp only[aA,lca,lna]
  refine oY O (yL 0 dK O O O) (oN ?_)
  exact al (fun _=>(none,0,0,[],noR)) O (List.append_nil _)
 dsimp only[bG,lsz,lss,lna,lca,List.append_nil]
 refine cf O (fun L2=>?_) ?_
 ·dsimp only[aA,lca,lna]
  refine oC [.slice Aa p0.fNo.length ca] _ _ _ O go_142 O (fun W2 D=>lz p0.fNo G f4 W2 Aa p0.fNo.length ca O ((RdL.arg q) W2 D)) ?_
  rintro⟨A6,n8,c7⟩ k
  replace k:n8=G.length:=k;subst k
  refine oN ?_
  exact al (fun _=>(A6,0,c7,[],noR)) O O
 dsimp only[bG,lsz,lss,lna,lca,List.append_nil]
 refine cf O (fun L2=>?_) ?_
 ·dsimp only[aA,lca,lna]
  refine oY O (yFA aD O) (oN ?_)
  exact al (fun _=>(none,0,0,[],noR)) O (List.append_nil _)
 dsimp only[bG,lsz,lss,lna,lca,List.append_nil]
 refine cf O (fun L2=>?_) ?_
 ·dsimp only[aA,lca,lna]
  refine oY O (yL 0 bT O O O) (oN ?_)
  exact al (fun _=>(none,0,0,[],noR)) O (List.append_nil _)
 dsimp only[bG,lsz,lss,lna,lca,List.append_nil]
 refine cf O (fun L2=>?_) ?_
 ·dsimp only[aA,lca,lna]
  refine oC [.slice Ab p0.fC.length cb] _ _ _ O go_143 O (fun W2 D=>kz p0.fC u S W2 Ab p0.fC.length cb d O ((RdL.arg t) W2 D) (NestL.at (NestL.arg N) W2 D)) ?_
  rintro⟨fr,fd,fE⟩ ⟨Q,g2⟩
  replace Q:fd=u.length:=Q;subst Q
  refine oN ?_
  exact al (fun _=>(fr,0,fE,[],noR)) O O
 dsimp only[bG,lsz,lss,lna,lca,List.append_nil]
 refine cf O (fun L2=>?_) ?_
 ·dsimp only[aA,lca,lna]
  refine oY O (aI [.slice (ξ3 2 0).1 G.length (ξ3 2 0).2.2.1,.slice (ξ3 5 0).1 u.length (ξ3 5 0).2.2.1] [(0,1),(1,1)] kg ft (by kernel_rfl)) ?_
  refine oN ?_
  exact al (fun _=>(none,0,0,[],noR)) O (List.append_nil _)
 dsimp only[bG,lsz,lss,lna,lca,List.append_nil]
 refine cf O (fun L2=>?_) ?_
 ·dsimp only[aA,lca,lna]
  refine aC ft O (fun fN=>?_)
  refine oN ?_
  exact al (fun _=>(none,fN,0,[],noR)) O O
 dsimp only[bG,lsz,lss,lna,lca,List.append_nil]
 refine gx_n O (fun L2=>?_) ?_
 ·dsimp only[aA,lca,lna]
  refine cr O (yS 4 [.slice (ξ3 2 0).1 G.length (ξ3 2 0).2.2.1,.slice (ξ3 5 0).1 u.length (ξ3 5 0).2.2.1] gN O (nB O) O O O) (oN ?_)
  first|exact bK (fun _=>(none,0,0,[],noR)) O|exact bK (fun _=>(none,0,0,[],noR)) (List.append_nil _)
 dsimp only[bG,lsz,lss,lna,lca,List.append_nil]
 refine lK (eT (cS (cS (cR (oY O (yFA aD O) (oY O (yL 4 bT O O O) (oY O (bd (us:=[]) dQ O) (oY O (yMI O) (oN (eT (cB ?_)))))))))))
 obtain⟨o1,c,h⟩:=bOs h
 refine jC ?_
 refine bF (fun(s:(Int × (List TC))) L tm=>∃(fn:Nat→Value) (H:List (Hd × TC)) (F3_s:Res),u.length=s.2.length∧NestP (fun z:TC=>z.fO) H s.2∧PvL (fun z:TC=>z.fO) THop_cells wb (fun W4=>Hb W4∧Res.holds F3_s W4) H∧L=[aj b1 25 [.slice Aa p0.fNo.length ca,.slice Ab p0.fC.length cb],aj b2 25 [.slice none 0 0,.slice none 0 0],aO (ξ3 2 0).1 (ξ3 2 0).2.2.1 97 3 G.length (encL TNode_cells G),aO (ξ3 5 0).1 (ξ3 5 0).2.2.1 90 2 u.length (encL TClaim_cells2 H),aj (ξ3 7 0).2.1 25 [.slice (ξ3 2 0).1 G.length (ξ3 2 0).2.2.1,.slice (ξ3 5 0).1 u.length (ξ3 5 0).2.2.1],F3_s]∧tm=(upd (upd (upd (upd fn 2 (.pointer (some ⟨b2,0,none⟩))) 3 (.pointer (some ⟨(ξ3 7 0).2.1,0,none⟩))) 14 (vI (u.length:Int))) 15 (vI s.1))) 0 c ⟨_,d,noR,O,hPc_y10,(PvL.mono (Hb:=Hb) a (fun _ _ h=>h.1)),O,(kp4 O)⟩ ?_ ?_
 ·rintro r L tm st ⟨f0,f,F3_s22,o,g,E,rfl,rfl⟩ h
  unfold cU at h
  refine cS (cR ?_)
  try dsimp only[lna,lca,lsz,lss]
  refine oY O (bA O O) (oN (eT (cS ?_)))
  rcases iOs h with⟨U,h⟩|⟨U,h⟩
  ·refine cT (vB U) (cK (eT (cS (cB (cS (cR (oY O (yMI O) (oY O (yAI O) (oN (eT ?_))))))))))
   obtain⟨w,h⟩:=gOs h
   obtain⟨F,f1,h⟩:=bOs h
   refine ov 9 10 (fun v L1=>∃x:(Option Addr × Nat × Nat),x.2.1=F.length∧v=.slice x.1 x.2.1 x.2.2∧L1=[aO x.1 x.2.2 111 2 x.2.1 (encL THop_cells F)]) cD (by kernel_rfl) (by kernel_rfl) (by kernel_rfl) ?_
   refine rB O (fun _=>yFA aD O) (rB O (fun _=>yL 4 (v:=.slice (ξ3 5 0).1 u.length (ξ3 5 0).2.2.1) bT O O O) (rB O (fun _=>yMI O) (rB O (fun _=>yFA aD O) (rB O (fun _=>yL 4 (v:=.slice (ξ3 5 0).1 u.length (ξ3 5 0).2.2.1) bT O O O) (rB O (fun _=>yMI O) ?_)))))
   refine rB O (fun _=>yI dY (by decide) w.1 w.2 (RdL.row 3 O) (eL aa (NestP.hn g o)) O O) ?_
   refine rB O (fun _=>yFR (A:=(ξ3 5 0).1) (j:=(Int.toNat r.1*2)) bQ O) (rB O (fun _=>yR (A:=(ξ3 5 0).1) (j:=((Int.toNat r.1*2)+1)) (v:=.slice ((rdL f r.1).1.1) ((rdL r.2 r.1).fO.length) ((rdL f r.1).1.2.2)) gL (RdL.row 3 O) O (eG aa w.1 (ao w.2 (NestP.hn g o)) (congrArg (fun n:Nat=>some (Value.slice (rdL f r.1).1.1 n (rdL f r.1).1.2.2)) (NestP.len g w.1 (ao w.2 o))))) (bx_q O (oC [.slice ((rdL f r.1).1.1) ((rdL r.2 r.1).fO.length) ((rdL f r.1).1.2.2)] _ _ _ O go_110 O (fun W2 D=>fj ((rdL r.2 r.1).fO) F f1 W2 ((rdL f r.1).1.1) ((rdL r.2 r.1).fO.length) ((rdL f r.1).1.2.2) O ((NestL.rd (PvL.nestL g E (fun W2 D=>⟨(hB W2 D.below).1,(hB W2 D.below).2,D.mem (i:=5) O⟩)) w.1 (ao w.2 o)) W2 D)) (fun x hx=>oN (sD ⟨x,hx,O,O⟩))) (kx_nil O ?_)))
   rintro v L1 ⟨⟨y,fl,b⟩,X,rfl,rfl⟩
   replace X:fl=F.length:=X;subst X
   try dsimp only[lna,lca,lsz,lss]
   obtain⟨I,h⟩:=gOs h
   refine oY O (yI dY (by decide) I.1 I.2 (RdL.row 3 O) (eL aa (NestP.hn g o)) O O) ?_
   refine oY O (yFR (A:=(ξ3 5 0).1) (j:=(Int.toNat r.1*2)) bQ O) ?_
   refine mb 5 6 (by decide) O O ?_
   refine cr O (sR 3 (xs:=f) aa ((y,F.length,b),(TC.mk ((rdL f r.1).2.fID) F)) 1 (by decide) sz_88 O I.1 (ao I.2 (NestP.hn g o)) O O O O) ?_
   refine oN (qT (aq (eT (cR (oY O (bc O O) (oY O (yMI O) (oN (aS 6 ?_))))))))
   obtain rfl:=sI h
   exact eN ⟨_,(f.set (Int.toNat r.1) ((y,F.length,b),(TC.mk ((rdL f r.1).2.fID) F))),pL F3_s22 (aO y b 111 2 F.length (encL THop_cells F)),(lL o),(NestP.set _ g O (congrArg (fun z:TC=>(TC.mk z.fID F)) (NestP.snd g r.1))),(PvL.set _ (PvL.mono (Hb:=(fun W4=>Hb W4∧Res.holds F3_s22 W4)) E (fun _ _ h=>⟨h.1,h.2.1⟩)) (fun _ _ h=>eU h.2.2.1)),O,(kp4 O)⟩
  ·refine cF (vB U) (aK (ah ?_))
   obtain rfl:=sI h
   exact ay ⟨O,_,f,F3_s22,o,g,E,O,(kp4 O)⟩
 ·intro e L tm hJ
  obtain⟨rfl,f2,Y,F3_u23,Z,V,T,rfl,rfl⟩:=hJ
  refine⟨(by intro hc;cases hc),?_⟩
  refine ag (eT (cS (cR ?_)))
  try dsimp only[lna,lca,lsz,lss]
  refine oY O (yN 4 [.slice (ξ3 2 0).1 G.length (ξ3 2 0).2.2.1,.slice (ξ3 5 0).1 u.length (ξ3 5 0).2.2.1] aF O O O) (cr O (yS 1 [.slice (ξ3 2 0).1 G.length (ξ3 2 0).2.2.1,.slice (ξ3 5 0).1 u.length (ξ3 5 0).2.2.1] gN O (nB O) O O O) (oN (eT (ak ?_))))
  obtain rfl:=sI h
  exact am (.inl O) O (aH 1 [.slice (ξ3 2 0).1 G.length (ξ3 2 0).2.2.1,.slice (ξ3 5 0).1 u.length (ξ3 5 0).2.2.1] aF O O O) (fun W2 D=>⟨(((ξ3 2 0).1,G.length,(ξ3 2 0).2.2.1),((ξ3 5 0).1,u.length,(ξ3 5 0).2.2.1),Y,F3_u23),⟨O,Z,V,T⟩,O,D.pickL [2,3,5] (by decide) O⟩)
theorem lH (p0:TL) (p1:Int) (p2:(List TH)) (res:TL) (h:fi p0 p1 p2=some res) (W:World) (Aa:Option Addr) (H ca:Nat) (X:H=p0.fNo.length) (Y:Rd W Aa H ca (encL TNode_cells p0.fNo)) (Ab:Option Addr) (I cb:Nat) (g:List (Hd × TC)) (Z:I=p0.fC.length) (V:Rd W Ab I cb (encL TClaim_cells2 g)) (T:NestW W (fun z:TC=>z.fO) THop_cells g p0.fC) (u:Option Addr) (K d:Nat) (S:K=p2.length) (R:Rd W u K d (encL THop_cells p2)) (wb:World) (Hb:World→Prop) (hB:∀W3,Below W.heap.size W W3→Below wb.heap.size wb W3∧Hb W3) (q:PvL (fun z:TC=>z.fO) THop_cells wb Hb g) :
  Calls Tryz.prog 91 [.agg #[.slice Aa H ca,.slice Ab I cb],vI p1,.slice u K d].toArray W fun e W2=>∃x:((Option Addr × Nat × Nat) × (Option Addr × Nat × Nat) × (List (Hd × TC)) × Res),(x.1.2.1=res.fNo.length∧x.2.1.2.1=res.fC.length∧NestP (fun z:TC=>z.fO) x.2.2.1 res.fC∧PvL (fun z:TC=>z.fO) THop_cells wb (fun W4=>Hb W4∧Res.holds x.2.2.2 W4) x.2.2.1)∧e=.returned (.agg #[.slice x.1.1 x.1.2.1 x.1.2.2,.slice x.2.1.1 x.2.1.2.1 x.2.1.2.2])∧Ext W W2 [aO x.1.1 x.1.2.2 97 3 x.1.2.1 (encL TNode_cells res.fNo),aO x.2.1.1 x.2.1.2.2 90 2 x.2.1.2.1 (encL TClaim_cells2 x.2.2.1),x.2.2.2]:=by
 subst X
 subst Z
 subst S
 unfold fi at h
 refine ae (m:=18) Tryz.func91 O O (nB O) (cS (cR ?_))
 refine aP [.slice Aa p0.fNo.length ca,.slice Ab p0.fC.length cb] O O O (fun b1=>?_)
 refine aC ft O (fun b2=>?_)
 refine oN (eT (cS (cR (oY O (yN 0 [.slice Aa p0.fNo.length ca,.slice Ab p0.fC.length cb] aF O O O) ?_))))
 obtain⟨w,i,h⟩:=bOs h
 refine oC [.agg #[.slice Aa p0.fNo.length ca,.slice Ab p0.fC.length cb]] _ _ _ O go_111 O (fun W2 o=>gS p0 w i W2 Aa p0.fNo.length ca O ((RdL.arg Y) W2 o) Ab p0.fC.length cb g O ((RdL.arg V) W2 o) (NestL.at (NestL.arg T) W2 o) wb Hb (fun W3 hb=>hB W3 (fy o.below hb)) q) ?_
 rintro⟨⟨l,k,M⟩,⟨r,y,G⟩,D,F19⟩ ⟨N,Q,E,t⟩
 replace N:k=w.fNo.length:=N;subst N
 replace Q:y=w.fC.length:=Q;subst Q
 refine aC ft O (fun c=>?_)
 try dsimp only[lna,lca,lsz,lss]
 refine cr O (yS 5 [.slice l w.fNo.length M,.slice r w.fC.length G] gN O (nB O) O O O) (oN (eT (cS ?_)))
 obtain⟨f,a,h⟩:=bOs h
 refine ov 4 5 (fun v L1=>∃x:(Option Addr × Nat × Nat),x.2.1=f.length∧v=.slice x.1 x.2.1 x.2.2∧L1=[aO x.1 x.2.2 111 2 x.2.1 (encL THop_cells f)]) cD (by kernel_rfl) (by kernel_rfl) (by kernel_rfl) ?_
 refine rB O (fun _=>yFA aD O) (rB O (fun _=>yL 5 (v:=.slice r w.fC.length G) bT O O O) (rB O (fun _=>yMI O) (rB O (fun _=>yMS O) (bx_q O (oC [.slice u p2.length d] _ _ _ O go_110 O (fun W2 o=>fj p2 f a W2 u p2.length d O ((RdL.arg R) W2 o)) (fun x hx=>oN (sD ⟨x,hx,O,O⟩))) (kx_nil O ?_)))))
 rintro v L1 ⟨⟨p,b,n⟩,U,rfl,rfl⟩
 replace U:b=f.length:=U;subst U
 try dsimp only[lna,lca,lsz,lss]
 obtain⟨F,h⟩:=gOs h
 refine oY O (yI dY (by decide) F.1 F.2 (RdL.row 3 O) (eL aa (NestP.hn E O)) O O) ?_
 refine oY O (yFR (A:=r) (j:=(Int.toNat p1*2)) bQ O) ?_
 refine mb 4 6 (by decide) O O ?_
 refine cr O (sR 3 (xs:=D) aa ((p,f.length,n),(TC.mk ((rdL D p1).2.fID) f)) 1 (by decide) sz_88 O F.1 (ao F.2 (NestP.hn E O)) O O O O) ?_
 refine oN (qT (eT (cS (cR (oY O (yN 5 [.slice l w.fNo.length M,.slice r w.fC.length G] aF O O O) (cr O (yS 1 [.slice l w.fNo.length M,.slice r w.fC.length G] gN O (nB O) O O O) (oN (eT (ak ?_)))))))))
 obtain rfl:=sI h
 exact am (.inl O) O (aH 1 [.slice l w.fNo.length M,.slice r w.fC.length G] aF O O O) (fun W2 o=>⟨((l,w.fNo.length,M),(r,w.fC.length,G),(D.set (Int.toNat p1) ((p,f.length,n),(TC.mk ((rdL D p1).2.fID) f))),pL F19 (aO p n 111 2 f.length (encL THop_cells f))),⟨O,(lL O),(NestP.set _ E O (congrArg (fun z:TC=>(TC.mk z.fID f)) (NestP.snd E p1))),(PvL.set _ (PvL.mono (Hb:=(fun W4=>Hb W4∧Res.holds F19 W4)) t (fun _ _ h=>⟨h.1,h.2.1⟩)) (fun _ _ h=>eU h.2.2.1))⟩,O,o.pickL [2,3,4] (by decide) O⟩)
theorem ii (p0:(List Tasking)) (p1:Tasking→Tasking→Option Bool) (res:(Tasking × Bool)) (h:bv p0 p1=some res) (W:World) (Aa:Option Addr) (o ca:Nat) (D:o=p0.length) (r:Rd W Aa o ca (encL gm p0)) (fid1:Nat) (fst1 caps1:List Value) (H:cE Tryz.prog fid1=true) (I:∀W2,Below W.heap.size W W2→∀X Y,∀y,p1 X Y=some y→Calls Tryz.prog fid1 (fst1++(([.agg #[vI X.f_id,vI X.f_left],.agg #[vI Y.f_id,vI Y.f_left]]:List Value)++caps1)).toArray W2 fun e W3=>e=.returned (.bool y)∧Ext W2 W3 []) :
  Calls Tryz.prog 92 [.slice Aa o ca,.func (.func fid1) fst1.toArray caps1.toArray].toArray W fun e W2=>e=.returned (.tuple #[.agg #[vI res.1.f_id,vI res.1.f_left],.bool res.2])∧Ext W W2 []:=by
 subst D
 unfold bv at h
 refine ae (m:=30) Tryz.func92 O O (nB O) (cS (cR ?_))
 refine aC pu O (fun Z=>?_)
 refine oY O (yAB O) (oN (eT (cS (cR ?_))))
 refine aC pu O (fun V=>?_)
 refine oN (eT (cS (cS (cR (oY O (yMS O) (oY O (bd (us:=[]) us_121 O) (oY O (yMI O) (oN (eT (cB ?_))))))))))
 obtain⟨G,K,h⟩:=bOs h
 refine bF (fun(s:(Int × Int × Int)) L tm=>∃(d:Nat→Value),L=[aj Z 123 [vI 0,vI 0],aj V 123 [vI s.2.1,vI s.2.2]]∧tm=(upd (upd (upd (upd (upd (upd (upd (upd d 0 (.slice Aa p0.length ca)) 1 (.func (.func fid1) fst1.toArray caps1.toArray)) 4 (.pointer (some ⟨Z,0,none⟩))) 5 (.bool false)) 6 (.pointer (some ⟨V,0,none⟩))) 9 (.slice Aa p0.length ca)) 10 (vI (p0.length:Int))) 11 (vI s.1))) 0 K ⟨_,O,(kp4 (kp4 O))⟩ ?_ ?_
 ·rintro g L tm st ⟨Q,rfl,rfl⟩ h
  unfold bL at h
  refine cS (cR (oY O (bA O O) (oN (eT (cS ?_)))))
  rcases iOs h with⟨E,h⟩|⟨E,h⟩
  ·refine cT (vB E) (cK (eT (cS (cB (cS (cR (oY O (yMI O) ?_)))))))
   obtain⟨w,h⟩:=gOs h
   refine oY O (yI sl_121 (by decide) w.1 w.2 (RdL.arg r) (eL gn O) O O) ?_
   refine oY O (yM (A:=Aa) (j:=(Int.toNat g.1*2)) [vI ((rdL p0 g.1).f_id),vI ((rdL p0 g.1).f_left)] qv (Nat.succ_pos _) (RdL.arg r) O (aM gn w.1 (ao w.2 O))) ?_
   refine aC pu O (fun R=>?_)
   refine oY O (yAI O) (cr O (yS 2 [vI ((rdL p0 g.1).f_id),vI ((rdL p0 g.1).f_left)] sQ O (nB O) O O O) (oN (eT (cS (cR (oY O (yMI O) (oY O (ig O O) (oY O (yMB O) ?_))))))))
   obtain⟨T,M,h⟩:=bOs h
   refine oJ 5 (fun d=>(upd (upd (upd (upd (upd (upd (upd (upd (upd (upd (upd (upd d 0 (.slice Aa p0.length ca)) 1 (.func (.func fid1) fst1.toArray caps1.toArray)) 4 (.pointer (some ⟨Z,0,none⟩))) 5 (.bool false)) 6 (.pointer (some ⟨V,0,none⟩))) 9 (.slice Aa p0.length ca)) 10 (vI (p0.length:Int))) 11 (vI g.1)) 12 (.bool (decide (g.1<(p0.length:Int))))) 8 (.pointer (some ⟨R,0,none⟩))) 7 (vI g.1)) 23 (.bool T))) (fun d=>?_) (fun key=>?_)
   ·refine oN (eT ?_)
    rcases iOs h with⟨u,h⟩|⟨u,h⟩
    ·refine cT (vB u) (cR (oY O (yN 2 [vI ((rdL p0 g.1).f_id),vI ((rdL p0 g.1).f_left)] qv O O O) (cr O (yS 1 [vI ((rdL p0 g.1).f_id),vI ((rdL p0 g.1).f_left)] sQ O (nB O) O O O) (oN (aq (eT (cR (oY O (bc O O) (oY O (yMI O) (oN (aS 2 ?_)))))))))))
     obtain rfl:=sI h
     exact eN ⟨_,O,(kp4 (kp4 O))⟩
    ·refine cF (vB u) (cK (aq (eT (cR (oY O (bc O O) (oY O (yMI O) (oN (aS 2 ?_))))))))
     obtain rfl:=sI h
     exact eN ⟨_,O,(kp4 (kp4 O))⟩
   ·clear h;rcases iOs M with⟨f,h⟩|⟨f,h⟩
    ·refine oSk (sF O O O O f) (oSk (sF O O O O f) (oSk (sF O O O O f) (oSk (sF O O O O f) (oY O (aw (vB f) O) ?_))))
     obtain rfl:=sI h
     exact key _ _ (kp4 (kp4 (kp4 O)))
    ·refine oY (sT O O O O f) (iO (v:=.func (.func fid1) fst1.toArray caps1.toArray) O) (oY (sT O O O O f) (yN 2 [vI ((rdL p0 g.1).f_id),vI ((rdL p0 g.1).f_left)] qv O O O) (oY (sT O O O O f) (yN 1 [vI g.2.1,vI g.2.2] qv O O O) ?_))
     obtain⟨S,N,h⟩:=bOs h
     refine oY (sT O O O O f) (iH [.agg #[vI ((rdL p0 g.1).f_id),vI ((rdL p0 g.1).f_left)],.agg #[vI g.2.1,vI g.2.2]] H O O (fun W2 F=>I W2 F.below (Tasking.mk ((rdL p0 g.1).f_id) ((rdL p0 g.1).f_left)) (Tasking.mk g.2.1 g.2.2) S N)) (oY O (av (vB f) O) ?_)
     obtain rfl:=sI h
     exact key _ _ (kp4 (kp4 (kp4 O)))
  ·refine cF (vB E) (aK (ah ?_))
   obtain rfl:=sI h
   exact ay ⟨O,_,O,(kp4 (kp4 O))⟩
 ·intro e L tm hJ
  obtain⟨rfl,U,rfl,rfl⟩:=hJ
  refine⟨(by intro hc;cases hc),?_⟩
  refine ag (eT (cS (cR (oY O (yN 1 [vI G.2.1,vI G.2.2] qv O O O) (oY O (yMS O) (oY O (bd (us:=[]) us_121 O) (oY O (mq O O) (cr O (yS 0 [vI G.2.1,vI G.2.2] sQ O (nB O) O O O) (oY O (yAB O) (oN (eT (ak ?_))))))))))))
  obtain rfl:=sI h
  exact bx (.inl O) O (aH 0 [vI G.2.1,vI G.2.2] qv O O O) (rVt (v:=.bool (decide (0<(p0.length:Int)))) O) (fun W2 F=>⟨O,F.none⟩)
theorem qK (p0:Tasking) (p1:Tasking) (res:Bool) (h:ie p0 p1=some res) (W:World)  :
  Calls Tryz.prog 93 [.agg #[vI p0.f_id,vI p0.f_left],.agg #[vI p1.f_id,vI p1.f_left]].toArray W fun e W2=>e=.returned (.bool res)∧Ext W W2 []:=by
 unfold ie at h
 refine ae (m:=24) Tryz.func93 O O (nB O) (cS (cR ?_))
 refine aP [vI p0.f_id,vI p0.f_left] O O O (fun u=>?_)
 refine aP [vI p1.f_id,vI p1.f_left] O O O (fun d=>?_)
 refine oY O (yAB O) (oN (eT (cS (cR (oY O (yFA mh O) (oY O (yL 0 bN O O O) (oY O (yFA mh O) (oY O (yL 1 bN O O O) (oY O (bA O O) (oY O (yMB O) ?_))))))))))
 refine oJ 13 (fun o=>(upd (upd o 4 (.bool false)) 23 (.bool ((decide (p0.f_left<p1.f_left))||((p0.f_left==p1.f_left)&&(decide (p0.f_id<p1.f_id))))))) (fun o=>?_) (fun key=>?_)
 ·refine oY O (yAB O) (oN (eT (ak ?_)))
  obtain rfl:=sI h
  exact am (.inl O) O (rVt (v:=.bool ((decide (p0.f_left<p1.f_left))||((p0.f_left==p1.f_left)&&(decide (p0.f_id<p1.f_id))))) O) (fun W2 r=>⟨O,r.none⟩)
 ·rcases aB (decide (p0.f_left<p1.f_left))with f|f
  ·refine oSk (sF O O O O f) (oSk (sF O O O O f) (oSk (sF O O O O f) (oSk (sF O O O O f) (oSk (sF O O O O f) (oSk (sF O O O O f) (oSk O (oSk O (oSk O (oSk O (oSk O (oSk (sF O O O O f) (oY O (aw (vB f) O) ?_))))))))))))
   exact key _ _ (keep (keep O O) (vB (rf f)))
  ·refine oY (sT O O O O f) (yFA mh O) (oY (sT O O O O f) (yL 0 bN O O O) (oY (sT O O O O f) (yFA mh O) (oY (sT O O O O f) (yL 1 bN O O O) (oY (sT O O O O f) (ig O O) (oY (sT O O O O f) (yMB O) ?_)))))
   refine oJ 6 (fun o=>(upd (upd (upd o 4 (.bool false)) 10 (.bool (decide (p0.f_left<p1.f_left)))) 22 (.bool ((p0.f_left==p1.f_left)&&(decide (p0.f_id<p1.f_id)))))) (fun o=>?_) (fun key=>?_)
   ·refine oY O (av (vB f) O) ?_
    exact key _ _ (keep (keep O O) (vB (re f)))
   ·rcases aB (p0.f_left==p1.f_left)with g|g
    ·refine oY (sT O O O O g) (yFA rO O) (oY (sT O O O O g) (yL 0 bN O O O) (oY (sT O O O O g) (yFA rO O) (oY (sT O O O O g) (yL 1 bN O O O) (oY (sT O O O O g) (bA O O) (oY (sT O O O O f) (aw (vB g) O) ?_)))))
     exact key _ _ (keep (keep (keep O O) O) (vB (mv g)))
    ·refine oSk (sF O O O O g) (oSk (sF O O O O g) (oSk (sF O O O O g) (oSk (sF O O O O g) (oSk (sF O O O O g) (oY (sT O O O O f) (av (vB g) O) ?_)))))
     exact key _ _ (keep (keep (keep O O) O) (vB (mu g)))
theorem r6 (p0:TL) (p1:(List Int)) (res:(Int × Int × Int)) (h:lN p0 p1=some res) (W:World) (Aa:Option Addr) (H ca:Nat) (a:H=p0.fNo.length) (I:Rd W Aa H ca (encL TNode_cells p0.fNo)) (Ab:Option Addr) (K cb:Nat) (f:List (Hd × TC)) (k:K=p0.fC.length) (E:Rd W Ab K cb (encL TClaim_cells2 f)) (r:NestW W (fun z:TC=>z.fO) THop_cells f p0.fC) (Ac:Option Addr) (M cc:Nat) (b:M=p1.length) (N:Rd W Ac M cc (encL cI p1)) :
  Calls Tryz.prog 26 [.agg #[.slice Aa H ca,.slice Ab K cb],.slice Ac M cc].toArray W fun e W2=>e=.returned (.tuple #[vI res.1,vI res.2.1,vI res.2.2])∧Ext W W2 []:=by
 subst a
 subst k
 subst b
 unfold lN at h
 refine ae (m:=76) Tryz.func26 O O (nB O) (cS (cR ?_))
 refine aP [.slice Aa p0.fNo.length ca,.slice Ab p0.fC.length cb] O O O (fun b1=>?_)
 refine oY O (yAI O) (oY O (yAI O) (oY O (yAI O) (oN (eT (cS (cS (cR (oY O (yN 0 [.slice Aa p0.fNo.length ca,.slice Ab p0.fC.length cb] aF O O O) (oY O (yMS O) ?_)))))))))
 obtain⟨y2,oj,h⟩:=bOs h
 refine oY O (yC [.agg #[.slice Aa p0.fNo.length ca,.slice Ab p0.fC.length cb],.slice Ac p1.length cc] go_70 O (fun W2 g=>f7 p0 p1 y2 oj W2 Aa p0.fNo.length ca O ((RdL.arg I) W2 g) Ab p0.fC.length cb f O ((RdL.arg E) W2 g) (NestL.at (NestL.arg r) W2 g) Ac p1.length cc O ((RdL.arg N) W2 g)) O) (oY O (yAI O) (oN (eT (cS (cR (oY O (yMI O) (oY O (dD O O) (oN (eT ?_)))))))))
 rcases iOs h with⟨c,h⟩|⟨c,h⟩
 ·refine cT (vB c) (cS (cR (oY O (yMI O) (oY O (yAI O) (oY O (yAI O) (oY O (yAI O) (oN (eT (ak (ab ?_))))))))))
  obtain rfl:=sI h
  exact lZ (.inl O) O (rVt (v:=vI 0) O) (rVt (v:=vI 0) O) (rVt (v:=vI y2) O) (fun W2 g=>⟨O,g.none⟩)
 ·refine cF (vB c) (cK (eT (cS (cR (oY O (yAS O) (oN (eT (cS (cS (cR (oY O (yFA aD O) (oY O (yL 0 bT O O O) (oY O (bd (us:=[]) dQ O) (oY O (yMI O) (oN (eT (cB ?_)))))))))))))))))
  obtain⟨u8,f3,h⟩:=bOs h
  refine cN 123 2 ?_
  refine bF (fun(s:(Int × (List Tasking))) L tm=>∃(f0:Nat→Value) (l:Option Addr) (t:Nat) (Q:Nat),Q=s.2.length∧L=[aj b1 25 [.slice Aa p0.fNo.length ca,.slice Ab p0.fC.length cb],aO l t 123 2 Q (encL gm s.2)]∧tm=(upd (upd (upd (upd (upd (upd (upd (upd (upd f0 1 (.slice Ac p1.length cc)) 2 (.pointer (some ⟨b1,0,none⟩))) 4 (vI 0)) 5 (vI 0)) 6 (vI 0)) 8 (.slice l Q t)) 22 (.slice Ab p0.fC.length cb)) 23 (vI (p0.fC.length:Int))) 24 (vI s.1))) 0 f3 ⟨_,none,0,0,O,O,(kp4 (kp4 (kp O)))⟩ ?_ ?_
  ·rintro o L tm st ⟨oa,F,G,r0,rfl,rfl,rfl⟩ h
   unfold ko at h
   refine cS (cR (oY O (bA O O) (oN (eT (cS ?_)))))
   rcases iOs h with⟨f1,h⟩|⟨f1,h⟩
   ·refine cT (vB f1) (cK (eT (cS (cB (cS (cR (oY O (yMI O) ?_)))))))
    obtain⟨w,h⟩:=gOs h
    refine oY O (yI dY (by decide) w.1 w.2 (RdL.arg E) (eL aa (NestP.hn r.p O)) O O) ?_
    refine oY O (yM (A:=Ab) (j:=(Int.toNat o.1*2)) [vI ((rdL p0.fC o.1).fID),.slice ((rdL f o.1).1.1) ((rdL p0.fC o.1).fO.length) ((rdL f o.1).1.2.2)] lX (Nat.succ_pos _) (RdL.arg E) O (iL (a6 (NestP.snd r.p o.1) (NestP.len r.p w.1 (ao w.2 O))).symm (aM aa w.1 (ao w.2 (NestP.hn r.p O))))) ?_
    refine aC gR O (fun f4=>?_)
    refine oY O (yAI O) (cr O (yS 2 [vI ((rdL p0.fC o.1).fID),.slice ((rdL f o.1).1.1) ((rdL p0.fC o.1).fO.length) ((rdL f o.1).1.2.2)] rY O (nB O) O O O) (oN (eT (cS (cS (cR (oY O (yFA bQ O) (oY O (yL 2 gL O O O) (oY O (bd (us:=[]) fZ O) (oY O (bA O O) (oN (eT ?_))))))))))))
    rcases iOs h with⟨U,h⟩|⟨U,h⟩
    ·refine cT (vB U) (aK (ah (ag (eT (cR (oY O (bc O O) (oY O (yMI O) (oN (aS 2 ?_)))))))))
     obtain rfl:=sI h
     exact eN ⟨_,F,G,o.2.length,O,O,(kp4 (kp4 (kp O)))⟩
    ·refine cF (vB U) (cK (eT (cS (cR (oY O (yFA fh O) (oY O (yL 2 bN O O O) ?_))))))
     refine oY O (aI [vI ((rdL p0.fC o.1).fID),vI 0] [(0,1),(1,1)] ust_123 pu (by kernel_rfl)) ?_
     refine aC pu O (fun fr=>?_)
     refine cr O (yS 3 [vI ((rdL p0.fC o.1).fID),vI 0] sQ O (nB O) O O O) (oN (eT (cS (cS (cR (oY O (yFA bQ O) (oY O (yL 2 gL O O O) (oY O (bd (us:=[]) fZ O) (oY O (yMI O) (oN (eT (cB ?_))))))))))))
     obtain⟨fd,fE,h⟩:=bOs h
     refine bF (fun(s:(Int × Int)) L tm=>∃(f0:Nat→Value),L=[aj b1 25 [.slice Aa p0.fNo.length ca,.slice Ab p0.fC.length cb],aO F G 123 2 o.2.length (encL gm o.2),aj f4 90 [vI ((rdL p0.fC o.1).fID),.slice ((rdL f o.1).1.1) ((rdL p0.fC o.1).fO.length) ((rdL f o.1).1.2.2)],aj fr 123 [vI ((rdL p0.fC o.1).fID),vI s.2]]∧tm=(upd (upd (upd (upd (upd (upd (upd (upd (upd (upd (upd (upd (upd (upd (upd (upd f0 1 (.slice Ac p1.length cc)) 2 (.pointer (some ⟨b1,0,none⟩))) 4 (vI 0)) 5 (vI 0)) 6 (vI 0)) 8 (.slice F o.2.length G)) 22 (.slice Ab p0.fC.length cb)) 23 (vI (p0.fC.length:Int))) 24 (vI o.1)) 25 (.bool (decide (o.1<(p0.fC.length:Int))))) 10 (.pointer (some ⟨f4,0,none⟩))) 9 (vI o.1)) 32 (.bool (decide ((((rdL p0.fC o.1).fO.length:Nat):Int)<2)))) 11 (.pointer (some ⟨fr,0,none⟩))) 38 (vI (((rdL p0.fC o.1).fO.length:Nat):Int))) 39 (vI s.1))) 2 fE ⟨_,O,(kp4 (kp4 (kp4 (kp4 O))))⟩ ?_ ?_
     ·rintro u L tm st ⟨fN,rfl,rfl⟩ h
      unfold kh at h
      refine cS (cR (oY O (bA O O) (oN (eT (cS ?_)))))
      rcases iOs h with⟨X,h⟩|⟨X,h⟩
      ·refine cT (vB X) (cK (eT (cS (cB (cS (cR (oY O (yMI O) (oY O (yAI O) (oN (eT ?_))))))))))
       obtain⟨d,h⟩:=gOs h
       obtain⟨D,fn,h⟩:=bOs h
       refine cx_drawsD 12 15 (fun v L1=>∃x:((Option Addr × Nat × Nat) × (Option Addr × Nat × Nat) × (List (Hd × TC)) × Res),(x.1.2.1=D.fNo.length∧x.2.1.2.1=D.fC.length∧NestP (fun z:TC=>z.fO) x.2.2.1 D.fC∧PvL (fun z:TC=>z.fO) THop_cells W (fun W4=>(fun _=>True) W4∧Res.holds x.2.2.2 W4) x.2.2.1)∧v=.agg #[.slice x.1.1 x.1.2.1 x.1.2.2,.slice x.2.1.1 x.2.1.2.1 x.2.1.2.2]∧L1=[aO x.1.1 x.1.2.2 97 3 x.1.2.1 (encL TNode_cells D.fNo),aO x.2.1.1 x.2.1.2.2 90 2 x.2.1.2.1 (encL TClaim_cells2 x.2.2.1),x.2.2.2]) cD (by kernel_rfl) (by kernel_rfl) (by kernel_rfl) ?_
       refine pF O (fun _=>yFA mh O) (pF O (fun _=>yL 3 (v:=vI u.2) bN O O O) (pF O (fun _=>yN 0 [.slice Aa p0.fNo.length ca,.slice Ab p0.fC.length cb] aF O O O) (pF O (fun _=>yMI O) (pF O (fun _=>yFA bQ O) (pF O (fun _=>yL 2 (v:=.slice ((rdL f o.1).1.1) ((rdL p0.fC o.1).fO.length) ((rdL f o.1).1.2.2)) gL O O O) (pF O (fun _=>yMI O) (pF O (fun _=>yMI O) (pF O (fun _=>bc O O) (pF O (fun _=>yMI O) (pF O (fun _=>bc O O) (pF O (fun _=>y_cut3 lw d.1 d.2.1 d.2.2.1 d.2.2.2 (NestL.rd (NestL.arg r) w.1 (ao w.2 O)) O O O O) (bdx_q O (oC [.agg #[.slice Aa p0.fNo.length ca,.slice Ab p0.fC.length cb],vI o.1,.slice (if Int.toNat (w64 (u.1+1))=Int.toNat u.1 then((rdL f o.1).1.1)else Option.map (fun x=>x.add (Int.toNat u.1*2)) ((rdL f o.1).1.1)) (Int.toNat (w64 (u.1+1))-Int.toNat u.1) (Int.toNat (w64 (u.1+1))-Int.toNat u.1)] _ _ _ O go_91 O (fun W2 g=>lH p0 o.1 ((((rdL p0.fC o.1).fO).drop (Int.toNat u.1)).take (Int.toNat (w64 (u.1+1))-Int.toNat u.1)) D fn W2 Aa p0.fNo.length ca O ((RdL.arg I) W2 g) Ab p0.fC.length cb f O ((RdL.arg E) W2 g) (NestL.at (NestL.arg r) W2 g) (if Int.toNat (w64 (u.1+1))=Int.toNat u.1 then((rdL f o.1).1.1)else Option.map (fun x=>x.add (Int.toNat u.1*2)) ((rdL f o.1).1.1)) (Int.toNat (w64 (u.1+1))-Int.toNat u.1) (Int.toNat (w64 (u.1+1))-Int.toNat u.1) (cut3_len d.1 d.2.1 d.2.2.1 d.2.2.2 O) ((RdL.cut3 au (NestL.rd (NestL.arg r) w.1 (ao w.2 O)) d.1 d.2.1 d.2.2.1 d.2.2.2) W2 g) W (fun _=>True) (fun W3 hb=>⟨fy g.below hb,trivial⟩) (PvL.of_nest r)) (fun x hx=>oN (sD ⟨x,hx,O,O⟩))) ?_))))))))))))
       refine kdx_y O (by kernel_rfl) (fun _=>yMS O) ?_
       obtain⟨f2,fl,h⟩:=bOs h
       refine kdx_dep (v:=vI f2) O (by kernel_rfl) O (by rintro v1 L1 ⟨⟨⟨g1,r1,g2⟩,⟨g3,r2,gf⟩,o0,F32⟩,⟨Y,Z,o1,o2⟩,rfl,rfl⟩;replace Y:r1=D.fNo.length:=Y;subst Y;replace Z:r2=D.fC.length:=Z;subst Z;exact yC [.agg #[.slice g1 D.fNo.length g2,.slice g3 D.fC.length gf],.slice Ac p1.length cc] go_90 O (fun W2 g=>qM D p1 f2 fl W2 g1 D.fNo.length g2 O ((RdL.row 4 O) W2 g) g3 D.fC.length gf o0 O ((RdL.row 5 O) W2 g) (NestL.at (PvL.nestL o1 o2 (fun W2 g=>⟨g.below,trivial,g.mem (i:=6) O⟩)) W2 g) Ac p1.length cc O ((RdL.arg N) W2 g)) O) ?_
       refine kdx_nil O ?_
       rintro v L1 ⟨⟨⟨u9,r3,uf⟩,⟨ug,r4,uo⟩,u5,F46⟩,⟨V,T,u6,u7⟩,rfl,rfl⟩
       replace V:r3=D.fNo.length:=V;subst V
       replace T:r4=D.fC.length:=T;subst T
       try dsimp only[lna,lca,lsz,lss]
       refine oY O (y_max O O) (oY O (yFA mh O) (cr O (cn 3 (v:=vI (max u.2 f2)) sz_3 O (Nat.lt_of_lt_of_le (Nat.lt_succ_self _) (nB O)) O O O) (oN (qT (aq (eT (cR (oY O (bc O O) (oY O (yMI O) (oN (aS 4 ?_)))))))))))
       obtain rfl:=sI h
       exact eN ⟨_,O,(kp4 (kp4 (kp4 (kp4 O))))⟩
      ·refine cF (vB X) (aK (ah ?_))
       obtain rfl:=sI h
       exact ay ⟨O,_,O,(kp4 (kp4 (kp4 (kp4 O))))⟩
     ·intro e L tm hJ
      obtain⟨rfl,oq,rfl,rfl⟩:=hJ
      refine⟨(by intro hc;cases hc),?_⟩
      refine ag (eT (cR (oY O (yMS O) (oY O (yN 3 [vI ((rdL p0.fC o.1).fID),vI fd.2] qv O O O) ?_))))
      refine ap 1 (encL gm [(Tasking.mk ((rdL p0.fC o.1).fID) fd.2)]) _ mc_123_1 us_121 pu by_123 (by decide) (by decide) (by kernel_rfl) (eL gn O) O (fun ur=>?_)
      obtain⟨op,h⟩:=gOs h
      refine bg 1 us_121 pu by_123 O O O (RdL.row 4 O) (eL gn O) (cg o8 _) (cp op (by decide)) O (fun rx u0=>?_)
      refine oY O (yAS O) (oN (aq (eT (cR (oY O (bc O O) (oY O (yMI O) (oN (aS 2 ?_))))))))
      obtain rfl:=sI h
      exact eN ⟨_,rx,u0,(o.2.length+1),(fD O O),O,(kp4 (kp4 (kp O)))⟩
   ·refine cF (vB f1) (aK (ah ?_))
    obtain rfl:=sI h
    exact ay ⟨O,_,F,G,o.2.length,O,O,(kp4 (kp4 (kp O)))⟩
  ·intro e L tm hJ
   obtain⟨rfl,oi,S,R,u1,rfl,rfl,rfl⟩:=hJ
   refine⟨(by intro hc;cases hc),?_⟩
   refine ag (eT (cS (cR (oY O (yMS O) ?_))))
   obtain⟨q,om,h⟩:=bOs h
   refine oY O (yC [.slice S u8.2.length R,.func (.func 93) #[] #[]] go_92 O (fun W2 g=>ii u8.2 (fun u2 u3=>ie u2 u3) q om W2 S u8.2.length R O ((RdL.row 1 O) W2 g) 93 [] [] go_93 (fun W3 hb x0 x1 y hxy=>qK  x0 x1  y hxy W3 )) O) (oY O (aZ O) (oY O (yE O O) (oY O (yE O O) ?_)))
   refine aC pu O (fun uw=>?_)
   refine cr O (yS 2 [vI q.1.f_id,vI q.1.f_left] sQ O (nB O) O O O) (oY O (yAB O) (oN (eT (cS (cS (cR (oY O (yMB O) (oY O (fe O) (oN (eT ?_))))))))))
   rcases iOs h with⟨n,h⟩|⟨n,h⟩
   ·refine cT (vB n) (cS (cR (oY O (yAI O) (oY O (yAI O) (oY O (yAI O) (oN (eT (ak (ab ?_)))))))))
    obtain rfl:=sI h
    exact lZ (.inl O) O (rVt (v:=vI 0) O) (rVt (v:=vI 0) O) (rVt (v:=vI 5) O) (fun W2 g=>⟨O,g.none⟩)
   ·refine cF (vB n) (cK (eT (cS ?_)))
    refine aU 7 cD (by kernel_rfl) (by kernel_rfl) ?_
    refine qY O (yFA rO O) (qY O (yL 2 bN O O O) (qY O (yFA mh O) (qY O (yL 2 bN O O O) (qY O (yAI O) (qY O (yAI O) (qY O (yAI O) (ck (oN (eT (ak ?_))))))))))
    obtain rfl:=sI h
    exact lZ (.inl O) O (rVt (v:=vI q.1.f_id) O) (rVt (v:=vI q.1.f_left) O) (rVt (v:=vI 0) O) (fun W2 g=>⟨O,g.none⟩)
theorem oV (p0:Int) (p1:Int) (H:(List (Int × Bool))) (f:TL) (res:Bool) (h:fH p0 p1 H f=some res) (W:World) (Q:Nat) (o:Nat) (hm100_0:(mapV Tryz.prog 3 kI dx kB false o H).holds W) (U:Rd W (some ⟨Q,0,none⟩) 1 1 [.map (some o)]) (M:Nat) (F:Option Addr) (u G:Nat) (I:u=f.fNo.length) (Y:Rd W F u G (encL TNode_cells f.fNo)) (g:Option Addr) (d w:Nat) (D:List (Hd × TC)) (K:d=f.fC.length) (E:Rd W g d w (encL TClaim_cells2 D)) (r:NestW W (fun z:TC=>z.fO) THop_cells D f.fC) (X:Rd W (some ⟨M,0,none⟩) 1 1 [.slice F u G,.slice g d w]) :
  Calls Tryz.prog 133 [vI p0,vI p1,.pointer (some ⟨Q,0,none⟩),.pointer (some ⟨M,0,none⟩)].toArray W fun e W2=>e=.returned (.bool res)∧Ext W W2 []:=by
 subst I
 subst K
 unfold fH at h
 refine ae (m:=16) Tryz.func133 O O (nB O) (cS (cR (oY O (yAB O) (oN (eT (cS ?_))))))
 refine aU 10 cD (by kernel_rfl) (by kernel_rfl) ?_
 refine qY O (yR (A:=(some ⟨Q,0,none⟩)) (j:=0) (v:=.map (some o)) sc_94 (RdL.arg U) O O) (qY O (yFR (A:=(some ⟨M,0,none⟩)) (j:=0) aD O) (qY O (yR (A:=(some ⟨M,0,none⟩)) (j:=(0+1)) (v:=.slice g f.fC.length w) bT (RdL.arg X) O O) (qY O (yMI O) ?_)))
 obtain⟨N,h⟩:=gOs h
 refine qY O (yI dY (by decide) N.1 N.2 (RdL.arg E) (eL aa (NestP.hn r.p O)) O O) ?_
 refine qY O (yFR (A:=g) (j:=(Int.toNat p0*2)) fh O) (qY O (yR (A:=g) (j:=((Int.toNat p0*2)+0)) (v:=vI ((rdL f.fC p0).fID)) bN (RdL.arg E) O (eG aa N.1 (ao N.2 (NestP.hn r.p O)) (congrArg (fun z:TC=>some (Value.int .i64 z.fID)) (NestP.snd r.p p0)))) ?_)
 obtain⟨Z,h⟩:=gOs h
 refine qY O (ga (k:=(rdL f.fC p0).fID) (MpL.arg hm100_0) mR ku ze_4 O O Z) (qY O (fe O) (qY O (yAB O) (ck (oN (eT (ak ?_))))))
 obtain rfl:=sI h
 exact am (.inl O) O (rVt (v:=.bool (!(ax false H ((rdL f.fC p0).fID)))) O) (fun W2 V=>⟨O,V.none⟩)
theorem qn (p0:TL) (p1:(List Int)) (p2:Int) (p3:(List (Int × Bool))) (res:Bool) (h:jY p0 p1 p2 p3=some res) (W:World) (Aa:Option Addr) (r ca:Nat) (F:r=p0.fNo.length) (u:Rd W Aa r ca (encL TNode_cells p0.fNo)) (Ab:Option Addr) (d cb:Nat) (g:List (Hd × TC)) (G:d=p0.fC.length) (w:Rd W Ab d cb (encL TClaim_cells2 g)) (D:NestW W (fun z:TC=>z.fO) THop_cells g p0.fC) (Ac:Option Addr) (E cc:Nat) (H:E=p1.length) (I:Rd W Ac E cc (encL cI p1)) (o:Nat) (hm3_0:(mapV Tryz.prog 3 kI dx kB false o p3).holds W) :
  Calls Tryz.prog 97 [.agg #[.slice Aa r ca,.slice Ab d cb],.slice Ac E cc,vI p2,.map (some o)].toArray W fun e W2=>e=.returned (.bool res)∧Ext W W2 []:=by
 subst F
 subst G
 subst H
 unfold jY at h
 refine ae (m:=15) Tryz.func97 O O (nB O) (cS (cR ?_))
 refine aP [.slice Aa p0.fNo.length ca,.slice Ab p0.fC.length cb] O O O (fun K=>?_)
 refine aP [.map (some o)] O O O (fun M=>?_)
 refine oY O (yAB O) (oN (eT (cS (cR (oY O (yN 0 [.slice Aa p0.fNo.length ca,.slice Ab p0.fC.length cb] aF O O O) (oY O (yMS O) (oY O (yMI O) (oY O (eS [.pointer (some ⟨M,0,none⟩),.pointer (some ⟨K,0,none⟩)] O O) ?_))))))))
 obtain⟨Q,N,h⟩:=bOs h
 refine oY O (yC [.agg #[.slice Aa p0.fNo.length ca,.slice Ab p0.fC.length cb],.slice Ac p1.length cc,vI p2,.func (.func 133) #[] #[.pointer (some ⟨M,0,none⟩),.pointer (some ⟨K,0,none⟩)]] go_75 O (fun W2 f=>gi p0 p1 p2 (fun U X=>fH U X p3 p0) Q N W2 Aa p0.fNo.length ca O ((RdL.arg u) W2 f) Ab p0.fC.length cb g O ((RdL.arg w) W2 f) (NestL.at (NestL.arg D) W2 f) Ac p1.length cc O ((RdL.arg I) W2 f) 133 [] [.pointer (some ⟨M,0,none⟩),.pointer (some ⟨K,0,none⟩)] go_133 (fun W3 hb Y Z y hxy=>oV  Y Z p3 p0 y hxy W3 M o (mapV.later ((MpL.arg hm3_0) W2 f) hb) (((RdL.cells 1 O) W2 f).later hb) K Aa p0.fNo.length ca O (((RdL.arg u) W2 f).later hb) Ab p0.fC.length cb g O (((RdL.arg w) W2 f).later hb) ((NestL.at (NestL.arg D) W2 f).later hb) (((RdL.cells 0 O) W2 f).later hb))) O) (oY O (fe O) (oY O (yAB O) (oN (eT (ak ?_)))))
 obtain rfl:=sI h
 exact am (.inl O) O (rVt (v:=.bool (!Q)) O) (fun W2 f=>⟨O,f.none⟩)
end Go.Proofs.YtbblpokfbmekfaaGreat
