import Derived.Test.YtbblpokfbmekfaaGreatF
import Derived.Test.YtbblpokfbmekfaaGreatG8
import Derived.Test.YtbblpokfbmekfaaGreatGv
import Derived.Test.YtbblpokfbmekfaaGreatC20
import Derived.Test.YtbblpokfbmekfaaGreatC33
set_option maxHeartbeats 4000000
set_option maxRecDepth 100000
set_option linter.unusedVariables false
namespace Go.Proofs.YtbblpokfbmekfaaGreat
open Go.RowKit (Below)
attribute [local irreducible] OX QX CX EX OpY Calls CallsIn
theorem r5 (p0:TL) (p1:TL) (res:TMade) (h:lR p0 p1=some res) (W:World) (Aa:Option Addr) (uF ca:Nat) (ul:uF=p0.fNo.length) (X:Rd W Aa uF ca (encL TNode_cells p0.fNo)) (Ab:Option Addr) (uG cb:Nat) (r:List (Hd × TC)) (ut:uG=p0.fC.length) (Y:Rd W Ab uG cb (encL TClaim_cells2 r)) (F:NestW W (fun z:TC=>z.fO) THop_cells r p0.fC) (Ac:Option Addr) (uH cc:Nat) (ua:uH=p1.fNo.length) (M:Rd W Ac uH cc (encL TNode_cells p1.fNo)) (E:Option Addr) (uI R:Nat) (g:List (Hd × TC)) (uz:uI=p1.fC.length) (N:Rd W E uI R (encL TClaim_cells2 g)) (d:NestW W (fun z:TC=>z.fO) THop_cells g p1.fC) (wb:World) (Hb:World→Prop) (hB:∀W3,Below W.heap.size W W3→Below wb.heap.size wb W3∧Hb W3) (uK:PvL (fun z:TC=>z.fO) THop_cells wb Hb r) (uM:PvL (fun z:TC=>z.fO) THop_cells wb Hb g) :
  Calls Tryz.prog 57 [.agg #[.slice Aa uF ca,.slice Ab uG cb],.agg #[.slice Ac uH cc,.slice E uI R]].toArray W fun e W2=>∃x:((Option Addr × Nat × Nat) × (Option Addr × Nat × Nat) × (List (Hd × TC)) × Res),(x.1.2.1=res.fL.fNo.length∧x.2.1.2.1=res.fL.fC.length∧NestP (fun z:TC=>z.fO) x.2.2.1 res.fL.fC∧PvL (fun z:TC=>z.fO) THop_cells wb (fun W4=>Hb W4∧Res.holds x.2.2.2 W4) x.2.2.1)∧e=.returned (.agg #[.slice x.1.1 x.1.2.1 x.1.2.2,.slice x.2.1.1 x.2.1.2.1 x.2.1.2.2,vI res.fE])∧Ext W W2 [aO x.1.1 x.1.2.2 97 3 x.1.2.1 (encL TNode_cells res.fL.fNo),aO x.2.1.1 x.2.1.2.2 90 2 x.2.1.2.1 (encL TClaim_cells2 x.2.2.1),x.2.2.2]:=by
 subst ul
 subst ut
 subst ua
 subst uz
 unfold lR at h
 refine ae (m:=121) Tryz.func57 O O (nB O) (cS (cR ?_))
 refine aP [.slice Aa p0.fNo.length ca,.slice Ab p0.fC.length cb] O O O (fun b1=>?_)
 refine aP [.slice Ac p1.fNo.length cc,.slice E p1.fC.length R] O O O (fun b2=>?_)
 refine aC jk O (fun b3=>?_)
 refine oN (eT (cS (cR (oY O (yN 0 [.slice Aa p0.fNo.length ca,.slice Ab p0.fC.length cb] aF O O O) ?_))))
 obtain⟨y4,Dw,h⟩:=bOs h
 refine oY O (yC [.agg #[.slice Aa p0.fNo.length ca,.slice Ab p0.fC.length cb]] go_66 O (fun W2 o=>fF p0 y4 Dw W2 Aa p0.fNo.length ca O ((RdL.arg X) W2 o) Ab p0.fC.length cb r O ((RdL.arg Y) W2 o) (NestL.at (NestL.arg F) W2 o)) O) (oY O (yAI O) (oN (eT (cS (cS (cR (oY O (yMI O) (oY O (ig O O) (oN (eT ?_))))))))))
 rcases iOs h with⟨ui,h⟩|⟨ui,h⟩
 ·refine cT (vB ui) (cR (oY O (yN 1 [.slice Ac p1.fNo.length cc,.slice E p1.fC.length R] aF O O O) ?_))
  obtain⟨y7,DD,h⟩:=bOs h
  refine oY O (yC [.agg #[.slice Ac p1.fNo.length cc,.slice E p1.fC.length R]] go_66 O (fun W2 o=>fF p1 y7 DD W2 Ac p1.fNo.length cc O ((RdL.arg M) W2 o) E p1.fC.length R g O ((RdL.arg N) W2 o) (NestL.at (NestL.arg d) W2 o)) O) (oY O (yAI O) (oN (eT (cS (cS (cR (oY O (yMI O) (oY O (dD O O) (oN (eT ?_))))))))))
  rcases iOs h with⟨uj,h⟩|⟨uj,h⟩
  ·refine cT (vB uj) (cS (cR (oY O (yMI O) ?_)))
   refine oY O (aI [.slice none 0 0,.slice none 0 0,vI y7] [(0,2),(2,1)] iJ jk (by kernel_rfl)) ?_
   refine cr O (yS 2 [.slice none 0 0,.slice none 0 0,vI y7] kZ O (nB O) O O O) (oN (eT (ak (ab ?_))))
   obtain rfl:=sI h
   exact am (.inl O) O (aH 2 [.slice none 0 0,.slice none 0 0,vI y7] mg O O O) (fun W2 o=>⟨((none,0,0),(none,0,0),[],noR),⟨O,O,NestP.nil,PvL.nil⟩,O,((o.nilrow 97 3).nilrow 90 2).addNo.pickL [3,4,5] (by decide) O⟩)
  ·refine cF (vB uj) (cK (eT (cS ?_)))
   obtain⟨w1,h⟩:=gOs h
   obtain⟨w2,h⟩:=gOs h
   refine eV [[],[],[1],[0,1,2],[],[],[5],[0,1,2,3,4,5,6],[0,1,2,3,4,5,6,7],[],[0,1,2,3,4,5,6,7,8,9]] [(none,1,[true,true,true]),(none,0,[true,true,true,false]),(none,0,[true,true,true,false]),(some 3,0,[true,true,true,true]),(none,1,[true,true,true,false]),(none,0,[true,true,true,false,false]),(none,0,[true,true,true,false,false]),(some 4,0,[true,true,true,true,true]),(none,0,[true,true,true,true,true]),(none,1,[true,true,true,false,false]),(some 5,0,[true,true,true,true,true,true])] [⟨fun ξ10=>.slice (some ⟨(ξ10 0 0).2.1,0,none⟩) 0 0,fun _=>noR,fun ξ10=>[aO (some ⟨(ξ10 0 0).2.1,0,none⟩) 0 97 3 0 (encL TNode_cells ([]:List TN))]⟩,⟨fun _=>.pointer (some ⟨b1,0+0,none⟩),fun _=>noR,fun _=>[]⟩,⟨fun _=>.slice Aa p0.fNo.length ca,fun _=>noR,fun _=>[]⟩,⟨fun ξ10=>.slice (ξ10 3 0).1 (0+p0.fNo.length) (ξ10 3 0).2.2.1,fun ξ10=>aO (ξ10 3 0).1 (ξ10 3 0).2.2.1 97 3 (0+p0.fNo.length) (encL TNode_cells (([]:List TN)++p0.fNo)),fun _=>[]⟩,⟨fun ξ10=>.slice (some ⟨(ξ10 4 0).2.1,0,none⟩) 0 0,fun _=>noR,fun ξ10=>[aO (some ⟨(ξ10 4 0).2.1,0,none⟩) 0 90 2 0 (encL TClaim_cells2 ([]:List (Hd × TC)))]⟩,⟨fun _=>.pointer (some ⟨b1,0+1,none⟩),fun _=>noR,fun _=>[]⟩,⟨fun _=>.slice Ab p0.fC.length cb,fun _=>noR,fun _=>[]⟩,⟨fun ξ10=>.slice (ξ10 7 0).1 (0+p0.fC.length) (ξ10 7 0).2.2.1,fun ξ10=>aO (ξ10 7 0).1 (ξ10 7 0).2.2.1 90 2 (0+p0.fC.length) (encL TClaim_cells2 (([]:List (Hd × TC))++r)),fun _=>[]⟩,⟨fun ξ10=>.agg #[.slice (ξ10 3 0).1 (0+p0.fNo.length) (ξ10 3 0).2.2.1,.slice (ξ10 7 0).1 (0+p0.fC.length) (ξ10 7 0).2.2.1],fun _=>noR,fun _=>[]⟩,⟨fun ξ10=>.pointer (some ⟨(ξ10 9 0).2.1,0,none⟩),fun _=>noR,fun ξ10=>[aj (ξ10 9 0).2.1 25 [.slice none 0 0,.slice none 0 0]]⟩,⟨fun _=>undef,fun ξ10=>aj (ξ10 9 0).2.1 25 [.slice (ξ10 3 0).1 (0+p0.fNo.length) (ξ10 3 0).2.2.1,.slice (ξ10 7 0).1 (0+p0.fC.length) (ξ10 7 0).2.2.1],fun _=>[]⟩] 3 cD (by kernel_rfl) (by kernel_rfl) ⟨⟨fun ξ10 ξ10' h=>⟨by simp only[h 0 (.inl O)],O,by simp only[h 0 (.inl O)]⟩,fun _=>O⟩,⟨fun ξ10 ξ10' h=>⟨O,O,O⟩,fun _=>O⟩,⟨fun ξ10 ξ10' h=>⟨O,O,O⟩,fun _=>O⟩,⟨fun ξ10 ξ10' h=>⟨by simp only[h 3 (.inl O)],by simp only[h 3 (.inl O)],O⟩,fun _=>O⟩,⟨fun ξ10 ξ10' h=>⟨by simp only[h 4 (.inl O)],O,by simp only[h 4 (.inl O)]⟩,fun _=>O⟩,⟨fun ξ10 ξ10' h=>⟨O,O,O⟩,fun _=>O⟩,⟨fun ξ10 ξ10' h=>⟨O,O,O⟩,fun _=>O⟩,⟨fun ξ10 ξ10' h=>⟨by simp only[h 7 (.inl O)],by simp only[h 7 (.inl O)],O⟩,fun _=>O⟩,⟨fun ξ10 ξ10' h=>⟨by simp only[h 3 (.inr O),h 7 (.inr O)],O,O⟩,fun _=>O⟩,⟨fun ξ10 ξ10' h=>⟨by simp only[h 9 (.inl O)],O,by simp only[h 9 (.inl O)]⟩,fun _=>O⟩,⟨fun ξ10 ξ10' h=>⟨O,by simp only[h 3 (.inr O),h 7 (.inr O),h 9 (.inr O)],O⟩,fun _=>O⟩,trivial⟩ O (fun ξ10=>?_)
   refine cf O (fun L2=>?_) ?_
   ·dsimp only[aA,lca,lna]
    refine eH TNode_cells gE j7 o9 O (fun DE=>?_)
    refine oN ?_
    exact al (fun _=>(none,DE,0,[],noR)) O O
   dsimp only[bG,lsz,lss,lna,lca,List.append_nil]
   refine cf O (fun L2=>?_) ?_
   ·dsimp only[aA,lca,lna]
    refine oY O (yFA aY O) (oN ?_)
    exact al (fun _=>(none,0,0,[],noR)) O (List.append_nil _)
   dsimp only[bG,lsz,lss,lna,lca,List.append_nil]
   refine cf O (fun L2=>?_) ?_
   ·dsimp only[aA,lca,lna]
    refine oY O (yL 0 dK O O O) (oN ?_)
    exact al (fun _=>(none,0,0,[],noR)) O (List.append_nil _)
   dsimp only[bG,lsz,lss,lna,lca,List.append_nil]
   refine cf O (fun L2=>?_) ?_
   ·dsimp only[aA,lca,lna]
    refine bg 3 gE j7 o9 O O O (RdL.arg X) (eL ad O) (cg eY _) (cp w1 (by decide)) O (fun w3 w4=>?_)
    refine oN ?_
    first|exact al (fun _=>(w3,0,w4,[],noR)) O O|exact al (fun _=>(w3,0,w4,[],noR)) O (List.append_nil _)
   dsimp only[bG,lsz,lss,lna,lca,List.append_nil]
   refine cf O (fun L2=>?_) ?_
   ·dsimp only[aA,lca,lna]
    refine eH TClaim_cells2 dQ gR l8 O (fun DF=>?_)
    refine oN ?_
    exact al (fun _=>(none,DF,0,[],noR)) O O
   dsimp only[bG,lsz,lss,lna,lca,List.append_nil]
   refine cf O (fun L2=>?_) ?_
   ·dsimp only[aA,lca,lna]
    refine oY O (yFA aD O) (oN ?_)
    exact al (fun _=>(none,0,0,[],noR)) O (List.append_nil _)
   dsimp only[bG,lsz,lss,lna,lca,List.append_nil]
   refine cf O (fun L2=>?_) ?_
   ·dsimp only[aA,lca,lna]
    refine oY O (yL 0 bT O O O) (oN ?_)
    exact al (fun _=>(none,0,0,[],noR)) O (List.append_nil _)
   dsimp only[bG,lsz,lss,lna,lca,List.append_nil]
   refine cf O (fun L2=>?_) ?_
   ·dsimp only[aA,lca,lna]
    refine bg 4 dQ gR l8 O O O (RdL.arg Y) (eL aa (NestP.hn F.p O)) (cg bU _) (cp w2 (by decide)) O (fun w5 w6=>?_)
    refine oN ?_
    first|exact al (fun _=>(w5,0,w6,[],noR)) O O|exact al (fun _=>(w5,0,w6,[],noR)) O (List.append_nil _)
   dsimp only[bG,lsz,lss,lna,lca,List.append_nil]
   refine cf O (fun L2=>?_) ?_
   ·dsimp only[aA,lca,lna]
    refine oY O (aI [.slice (ξ10 3 0).1 (0+p0.fNo.length) (ξ10 3 0).2.2.1,.slice (ξ10 7 0).1 (0+p0.fC.length) (ξ10 7 0).2.2.1] [(0,1),(1,1)] kg ft (by kernel_rfl)) ?_
    refine oN ?_
    exact al (fun _=>(none,0,0,[],noR)) O (List.append_nil _)
   dsimp only[bG,lsz,lss,lna,lca,List.append_nil]
   refine cf O (fun L2=>?_) ?_
   ·dsimp only[aA,lca,lna]
    refine aC ft O (fun DG=>?_)
    refine oN ?_
    exact al (fun _=>(none,DG,0,[],noR)) O O
   dsimp only[bG,lsz,lss,lna,lca,List.append_nil]
   refine gx_n O (fun L2=>?_) ?_
   ·dsimp only[aA,lca,lna]
    refine cr O (yS 5 [.slice (ξ10 3 0).1 (0+p0.fNo.length) (ξ10 3 0).2.2.1,.slice (ξ10 7 0).1 (0+p0.fC.length) (ξ10 7 0).2.2.1] gN O (nB O) O O O) (oN ?_)
    first|exact bK (fun _=>(none,0,0,[],noR)) O|exact bK (fun _=>(none,0,0,[],noR)) (List.append_nil _)
   dsimp only[bG,lsz,lss,lna,lca,List.append_nil]
   refine lK (eT (cS (cS (cR ?_))))
   try dsimp only[lna,lca,lsz,lss]
   refine oY O (yAI O) (oN (eT (cB ?_)))
   obtain⟨DH,w7,h⟩:=bOs h
   refine cN 97 3 (cN 90 2 (jC (jC ?_)))
   refine bW (fun(s:(Int × (List TN) × Int)) L tm=>∃(u2:Nat→Value) (ok:Option Addr) (r0:Nat) (oq:Nat),oq=s.2.1.length∧L=[aj b1 25 [.slice Aa p0.fNo.length ca,.slice Ab p0.fC.length cb],aj b2 25 [.slice Ac p1.fNo.length cc,.slice E p1.fC.length R],aj b3 77 [.slice none 0 0,.slice none 0 0,vI s.2.2],aO ok r0 97 3 oq (encL TNode_cells s.2.1),aO (ξ10 7 0).1 (ξ10 7 0).2.2.1 90 2 (0+p0.fC.length) (encL TClaim_cells2 (([]:List (Hd × TC))++r)),aj (ξ10 9 0).2.1 25 [.slice ok oq r0,.slice (ξ10 7 0).1 (0+p0.fC.length) (ξ10 7 0).2.2.1],aO none 0 97 3 0 (encL TNode_cells ([]:List TN)),aO none 0 90 2 0 (encL TClaim_cells2 ([]:List (Hd × TC))),noR,noR]∧tm=(upd (upd (upd (upd (upd (upd u2 2 (.pointer (some ⟨b1,0,none⟩))) 3 (.pointer (some ⟨b2,0,none⟩))) 4 (.pointer (some ⟨b3,0,none⟩))) 5 (vI y7)) 6 (.pointer (some ⟨(ξ10 9 0).2.1,0,none⟩))) 7 (vI s.1))) 0 w7 ⟨_,(ξ10 3 0).1,(ξ10 3 0).2.2.1,(0+p0.fNo.length),(fD O O),O,(kp4 (kp (kp O)))⟩ ?_ ?_
   ·rintro w L tm st ⟨w8,g2,g3,D1,rfl,rfl,rfl⟩ h
    unfold fo at h
    refine cS (cS (cR ?_))
    try dsimp only[lna,lca,lsz,lss]
    refine oY O (yMI O) (oY O (yFA aY O) (oY O (yL 1 dK O O O) (oY O (bd (us:=[]) gE O) (oY O (bA O O) (oN (eT ?_))))))
    rcases iOs h with⟨uN,h⟩|⟨uN,h⟩
    ·refine cT (vB uN) (cK (eT (cS (cB (cS ?_)))))
     refine aU 9 cD (by kernel_rfl) (by kernel_rfl) ?_
     refine qY O (yN 0 [.slice Aa p0.fNo.length ca,.slice Ab p0.fC.length cb] aF O O O) (qY O (yFA aY O) (qY O (yL 1 dK O O O) (qY O (yMI O) ?_)))
     obtain⟨u7,h⟩:=gOs h
     refine qY O (yI jL (by decide) u7.1 u7.2 (RdL.arg M) (eL ad O) O O) ?_
     refine qY O (yFR (A:=Ac) (j:=(Int.toNat w.1*3)) gd O) (qY O (yR (A:=Ac) (j:=((Int.toNat w.1*3)+0)) (v:=vI ((rdL p1.fNo w.1).fID)) bN (RdL.arg M) O (eG ad u7.1 (ao u7.2 O) O)) ?_)
     obtain⟨r1,w9,h⟩:=bOs h
     refine qY O (yC [.agg #[.slice Aa p0.fNo.length ca,.slice Ab p0.fC.length cb],vI ((rdL p1.fNo w.1).fID)] go_67 O (fun W2 o=>iC p0 ((rdL p1.fNo w.1).fID) r1 w9 W2 Aa p0.fNo.length ca O ((RdL.arg X) W2 o) Ab p0.fC.length cb r O ((RdL.arg Y) W2 o) (NestL.at (NestL.arg F) W2 o)) O) (qY O (yAI O) (ck (oN (eT (cS (cR (oY O (yMI O) (oY O (bA O O) (oN (eT ?_))))))))))
     rcases iOs h with⟨uO,h⟩|⟨uO,h⟩
     ·refine cT (vB uO) ?_
      obtain⟨u8,h⟩:=gOs h
      obtain⟨wf,h⟩:=gOs h
      refine eV [[],[0],[],[2],[],[2,3,4],[2,3,4,5],[2,3,4,5,6],[0,1,2,3,4,5,6,7],[0,1,2,3,4,5,6,7,8],[0,1,2,3,4,5,6,7,8,9]] [(none,0,[true,true,true,true,true,true,true,true,true,true]),(none,0,[true,true,true,true,true,true,true,true,true,true]),(none,0,[true,true,true,true,true,true,true,true,true,true]),(none,0,[true,true,true,true,true,true,true,true,true,true]),(none,0,[true,true,true,true,true,true,true,true,true,true]),(none,0,[true,true,true,true,true,true,true,true,true,true]),(none,0,[true,true,true,true,true,true,true,true,true,true]),(none,1,[true,true,true,true,true,true,true,true,true,true]),(some 3,0,[true,true,true,true,true,true,true,true,true,true,true]),(none,0,[true,true,true,true,true,true,true,true,true,true,true]),(some 5,0,[true,true,true,true,true,true,true,true,true,true,true])] [⟨fun _=>.pointer (some ⟨(ξ10 9 0).2.1,0+0,none⟩),fun _=>noR,fun _=>[]⟩,⟨fun _=>.slice g2 w.2.1.length g3,fun _=>noR,fun _=>[]⟩,⟨fun _=>.pointer (some ⟨b2,0+0,none⟩),fun _=>noR,fun _=>[]⟩,⟨fun _=>.slice Ac p1.fNo.length cc,fun _=>noR,fun _=>[]⟩,⟨fun _=>vI w.1,fun _=>noR,fun _=>[]⟩,⟨fun _=>slA Ac (Int.toNat w.1*3),fun _=>noR,fun _=>[]⟩,⟨fun _=>.agg #[vI ((rdL p1.fNo w.1).fID),vI ((rdL p1.fNo w.1).fLevel),vI ((rdL p1.fNo w.1).fCost)],fun _=>noR,fun _=>[]⟩,⟨fun ξ29=>.slice (some ⟨(ξ29 7 0).2.1,0,none⟩) 1 1,fun _=>noR,fun ξ29=>[aO (some ⟨(ξ29 7 0).2.1,0,none⟩) 1 97 3 1 (encL TNode_cells [(TN.mk ((rdL p1.fNo w.1).fID) ((rdL p1.fNo w.1).fLevel) ((rdL p1.fNo w.1).fCost))])]⟩,⟨fun ξ29=>.slice (ξ29 8 0).1 (w.2.1.length+1) (ξ29 8 0).2.2.1,fun ξ29=>aO (ξ29 8 0).1 (ξ29 8 0).2.2.1 97 3 (w.2.1.length+1) (encL TNode_cells (w.2.1++[(TN.mk ((rdL p1.fNo w.1).fID) ((rdL p1.fNo w.1).fLevel) ((rdL p1.fNo w.1).fCost))])),fun _=>[]⟩,⟨fun _=>.pointer (some ⟨(ξ10 9 0).2.1,0+0,none⟩),fun _=>noR,fun _=>[]⟩,⟨fun _=>undef,fun ξ29=>aj (ξ10 9 0).2.1 25 [.slice (ξ29 8 0).1 (w.2.1.length+1) (ξ29 8 0).2.2.1,.slice (ξ10 7 0).1 (0+p0.fC.length) (ξ10 7 0).2.2.1],fun _=>[]⟩] 10 cD (by kernel_rfl) (by kernel_rfl) ⟨⟨fun ξ29 ξ29' h=>⟨O,O,O⟩,fun _=>O⟩,⟨fun ξ29 ξ29' h=>⟨O,O,O⟩,fun _=>O⟩,⟨fun ξ29 ξ29' h=>⟨O,O,O⟩,fun _=>O⟩,⟨fun ξ29 ξ29' h=>⟨O,O,O⟩,fun _=>O⟩,⟨fun ξ29 ξ29' h=>⟨O,O,O⟩,fun _=>O⟩,⟨fun ξ29 ξ29' h=>⟨O,O,O⟩,fun _=>O⟩,⟨fun ξ29 ξ29' h=>⟨O,O,O⟩,fun _=>O⟩,⟨fun ξ29 ξ29' h=>⟨by simp only[h 7 (.inl O)],O,by simp only[h 7 (.inl O)]⟩,fun _=>O⟩,⟨fun ξ29 ξ29' h=>⟨by simp only[h 8 (.inl O)],by simp only[h 8 (.inl O)],O⟩,fun _=>O⟩,⟨fun ξ29 ξ29' h=>⟨O,O,O⟩,fun _=>O⟩,⟨fun ξ29 ξ29' h=>⟨O,by simp only[h 8 (.inr O)],O⟩,fun _=>O⟩,trivial⟩ O (fun ξ29=>?_)
      refine cf O (fun L2=>?_) ?_
      ·dsimp only[aA,lca,lna]
       refine oY O (yFA aY O) (oN ?_)
       exact al (fun _=>(none,0,0,[],noR)) O (List.append_nil _)
      dsimp only[bG,lsz,lss,lna,lca,List.append_nil]
      refine cf O (fun L2=>?_) ?_
      ·dsimp only[aA,lca,lna]
       refine oY O (yL 5 dK O O O) (oN ?_)
       exact al (fun _=>(none,0,0,[],noR)) O (List.append_nil _)
      dsimp only[bG,lsz,lss,lna,lca,List.append_nil]
      refine cf O (fun L2=>?_) ?_
      ·dsimp only[aA,lca,lna]
       refine oY O (yFA aY O) (oN ?_)
       exact al (fun _=>(none,0,0,[],noR)) O (List.append_nil _)
      dsimp only[bG,lsz,lss,lna,lca,List.append_nil]
      refine cf O (fun L2=>?_) ?_
      ·dsimp only[aA,lca,lna]
       refine oY O (yL 1 dK O O O) (oN ?_)
       exact al (fun _=>(none,0,0,[],noR)) O (List.append_nil _)
      dsimp only[bG,lsz,lss,lna,lca,List.append_nil]
      refine cf O (fun L2=>?_) ?_
      ·dsimp only[aA,lca,lna]
       refine oY O (yMI O) (oN ?_)
       exact al (fun _=>(none,0,0,[],noR)) O (List.append_nil _)
      dsimp only[bG,lsz,lss,lna,lca,List.append_nil]
      refine cf O (fun L2=>?_) ?_
      ·dsimp only[aA,lca,lna]
       refine oY O (yI jL (by decide) u8.1 u8.2 (RdL.arg M) (eL ad O) O O) ?_
       refine oN ?_
       exact al (fun _=>(none,0,0,[],noR)) O (List.append_nil _)
      dsimp only[bG,lsz,lss,lna,lca,List.append_nil]
      refine cf O (fun L2=>?_) ?_
      ·dsimp only[aA,lca,lna]
       refine oY O (yM (A:=Ac) (j:=(Int.toNat w.1*3)) [vI ((rdL p1.fNo w.1).fID),vI ((rdL p1.fNo w.1).fLevel),vI ((rdL p1.fNo w.1).fCost)] mr (Nat.succ_pos _) (RdL.arg M) O (aM ad u8.1 (ao u8.2 O))) (oN ?_)
       exact al (fun _=>(none,0,0,[],noR)) O (List.append_nil _)
      dsimp only[bG,lsz,lss,lna,lca,List.append_nil]
      refine cf O (fun L2=>?_) ?_
      ·dsimp only[aA,lca,lna]
       refine ap 1 (encL TNode_cells [(TN.mk ((rdL p1.fNo w.1).fID) ((rdL p1.fNo w.1).fLevel) ((rdL p1.fNo w.1).fCost))]) _ sY gE j7 o9 (by decide) (by decide) (by kernel_rfl) (eL ad O) O (fun DI=>?_)
       refine oN ?_
       exact al (fun _=>(none,DI,0,[],noR)) O O
      dsimp only[bG,lsz,lss,lna,lca,List.append_nil]
      refine cf O (fun L2=>?_) ?_
      ·dsimp only[aA,lca,lna]
       refine bg 3 gE j7 o9 O O O (RdL.row 10 O) (eL ad O) (cg eY _) (cp wf (by decide)) O (fun wg wo=>?_)
       refine oN ?_
       first|exact al (fun _=>(wg,0,wo,[],noR)) O O|exact al (fun _=>(wg,0,wo,[],noR)) O (List.append_nil _)
      dsimp only[bG,lsz,lss,lna,lca,List.append_nil]
      refine cf O (fun L2=>?_) ?_
      ·dsimp only[aA,lca,lna]
       refine oY O (yFA aY O) (oN ?_)
       exact al (fun _=>(none,0,0,[],noR)) O (List.append_nil _)
      dsimp only[bG,lsz,lss,lna,lca,List.append_nil]
      refine gx_n O (fun L2=>?_) ?_
      ·dsimp only[aA,lca,lna]
       refine cr O (cn 5 (v:=.slice (ξ29 8 0).1 (w.2.1.length+1) (ξ29 8 0).2.2.1) sz_22 O (Nat.lt_of_lt_of_le (Nat.lt_succ_self _) (nB O)) O O O) (oN ?_)
       first|exact bK (fun _=>(none,0,0,[],noR)) O|exact bK (fun _=>(none,0,0,[],noR)) (List.append_nil _)
      dsimp only[bG,lsz,lss,lna,lca,List.append_nil]
      refine lK (aq (eT (cR ?_)))
      try dsimp only[lna,lca,lsz,lss]
      refine oY O (yMI O) (oY O (bc O O) (oY O (yAI O) (oN (aS 10 ?_))))
      obtain rfl:=sI h
      exact eN ⟨_,(ξ29 8 0).1,(ξ29 8 0).2.2.1,(w.2.1.length+1),(fD O O),O,(kp4 (kp (kp O)))⟩
     ·refine cF (vB uO) (cS ?_)
      refine aU 11 cD (by kernel_rfl) (by kernel_rfl) ?_
      refine qY O (yFA aY O) (qY O (yL 0 dK O O O) (qY O (yMI O) ?_))
      obtain⟨u9,h⟩:=gOs h
      refine qY O (yI jL (by decide) u9.1 u9.2 (RdL.arg X) (eL ad O) O O) ?_
      refine qY O (yM (A:=Aa) (j:=(Int.toNat r1*3)) [vI ((rdL p0.fNo r1).fID),vI ((rdL p0.fNo r1).fLevel),vI ((rdL p0.fNo r1).fCost)] mr (Nat.succ_pos _) (RdL.arg X) O (aM ad u9.1 (ao u9.2 O))) (qY O (yFA aY O) (qY O (yL 1 dK O O O) (qY O (yMI O) ?_)))
      obtain⟨uf,h⟩:=gOs h
      refine qY O (yI jL (by decide) uf.1 uf.2 (RdL.arg M) (eL ad O) O O) ?_
      refine qY O (yM (A:=Ac) (j:=(Int.toNat w.1*3)) [vI ((rdL p1.fNo w.1).fID),vI ((rdL p1.fNo w.1).fLevel),vI ((rdL p1.fNo w.1).fCost)] mr (Nat.succ_pos _) (RdL.arg M) O (aM ad uf.1 (ao uf.2 O))) (qY O (ru (b:=(((rdL p0.fNo r1).fID==(rdL p1.fNo w.1).fID)&&(((rdL p0.fNo r1).fLevel==(rdL p1.fNo w.1).fLevel)&&((rdL p0.fNo r1).fCost==(rdL p1.fNo w.1).fCost)))) eg_97 O O (fun _=>(eqS3 fl_97 (ep bN O) (ep bN O) (ep bN O) (ep bN O) (ep bN O) (ep bN O) (run_equalIn_int _ _ _ _ _ _ _ pQ) (run_equalIn_int _ _ _ _ _ _ _ pQ) (run_equalIn_int _ _ _ _ _ _ _ pQ)))) (ck (oN (eT ?_))))
      rcases iOs h with⟨uQ,h⟩|⟨uQ,h⟩
      ·refine cT (vB uQ) (cS (cR ?_))
       refine oY O (aI [.slice none 0 0,.slice none 0 0,vI 9] [(0,2),(2,1)] iJ jk (by kernel_rfl)) ?_
       refine cr O (yS 2 [.slice none 0 0,.slice none 0 0,vI 9] kZ O (nB O) O O O) (oN (eT (ak (ai (ab ?_)))))
       obtain rfl:=sI h
       exact ay ⟨O,_,g2,g3,w.2.1.length,O,O,(kp4 (kp (kp O)))⟩
      ·refine cF (vB uQ) (cK (aq (eT (cR (oY O (yMI O) (oY O (bc O O) (oY O (yAI O) (oN ?_))))))))
       obtain rfl:=sI h
       exact eN ⟨_,g2,g3,w.2.1.length,O,O,(kp4 (kp (kp O)))⟩
    ·refine cF (vB uN) (aK (ah ?_))
     obtain rfl:=sI h
     exact ay ⟨O,_,g2,g3,w.2.1.length,O,O,(kp4 (kp (kp O)))⟩
   ·intro e L tm hJ
    rcases DH with DK|fd
    ·dsimp only at h hJ
     obtain⟨rfl,wr,D2,D3,D4,rfl,rfl,rfl⟩:=hJ
     refine⟨(by intro hc;cases hc),?_⟩
     refine ai (ab ?_)
     obtain rfl:=sI h
     exact am (.inl O) O (aH 2 [.slice none 0 0,.slice none 0 0,vI DK.2.2] mg O O O) (fun W2 o=>⟨((none,0,0),(none,0,0),([]:List (Hd × TC)),noR),⟨O,O,NestP.nil,(PvL.mono (Hb:=Hb) PvL.nil (fun _ _ h=>h.1))⟩,O,o.pickL [6,7,9] (by decide) O⟩)
    ·dsimp only at h hJ
     obtain⟨rfl,wu,G,H,D5,rfl,rfl,rfl⟩:=hJ
     refine⟨(by intro hc;cases hc),?_⟩
     refine ag (eT (cS (cS (cR ?_))))
     try dsimp only[lna,lca,lsz,lss]
     refine oY O (yAI O) (oN (eT (cB ?_)))
     obtain⟨DM,wd,h⟩:=bOs h
     refine bW (fun(s:(Int × (List TC) × Int)) L tm=>∃(u2:Nat→Value) (r2:Option Addr) (r3:Nat) (op:Nat) (c:List (Hd × TC)) (F4_s:Res),op=s.2.1.length∧NestP (fun z:TC=>z.fO) c s.2.1∧PvL (fun z:TC=>z.fO) THop_cells wb (fun W4=>Hb W4∧Res.holds F4_s W4) c∧L=[aj b1 25 [.slice Aa p0.fNo.length ca,.slice Ab p0.fC.length cb],aj b2 25 [.slice Ac p1.fNo.length cc,.slice E p1.fC.length R],aj b3 77 [.slice none 0 0,.slice none 0 0,vI s.2.2],aO G H 97 3 fd.2.1.length (encL TNode_cells fd.2.1),aO r2 r3 90 2 op (encL TClaim_cells2 c),aj (ξ10 9 0).2.1 25 [.slice G fd.2.1.length H,.slice r2 op r3],aO none 0 97 3 0 (encL TNode_cells ([]:List TN)),aO none 0 90 2 0 (encL TClaim_cells2 ([]:List (Hd × TC))),F4_s,noR]∧tm=(upd (upd (upd (upd (upd (upd u2 2 (.pointer (some ⟨b1,0,none⟩))) 3 (.pointer (some ⟨b2,0,none⟩))) 4 (.pointer (some ⟨b3,0,none⟩))) 5 (vI y7)) 6 (.pointer (some ⟨(ξ10 9 0).2.1,0,none⟩))) 9 (vI s.1))) 2 wd ⟨_,(ξ10 7 0).1,(ξ10 7 0).2.2.1,(0+p0.fC.length),(([]:List (Hd × TC))++r),noR,(fD O O),(NestP.app NestP.nil F.p),(PvL.mono (Hb:=Hb) (PvL.app PvL.nil uK) (fun _ _ h=>h.1)),O,(kp4 (kp (kp O)))⟩ ?_ ?_
     ·rintro u L tm st ⟨ww,gf,o0,D6,q,F4_s43,rfl,f1,f2,rfl,rfl⟩ h
      unfold fq at h
      refine cS (cS (cR (oY O (yMI O) (oY O (yFA aD O) (oY O (yL 1 bT O O O) (oY O (bd (us:=[]) dQ O) (oY O (bA O O) (oN (eT ?_)))))))))
      rcases iOs h with⟨uU,h⟩|⟨uU,h⟩
      ·refine cT (vB uU) (cK (eT (cS (cB (cS ?_)))))
       refine aU 9 cD (by kernel_rfl) (by kernel_rfl) ?_
       refine qY O (yN 0 [.slice Aa p0.fNo.length ca,.slice Ab p0.fC.length cb] aF O O O) (qY O (yFA aD O) (qY O (yL 1 bT O O O) (qY O (yMI O) ?_)))
       obtain⟨ug,h⟩:=gOs h
       refine qY O (yI dY (by decide) ug.1 ug.2 (RdL.arg N) (eL aa (NestP.hn d.p O)) O O) ?_
       refine qY O (yFR (A:=E) (j:=(Int.toNat u.1*2)) fh O) (qY O (yR (A:=E) (j:=((Int.toNat u.1*2)+0)) (v:=vI ((rdL p1.fC u.1).fID)) bN (RdL.arg N) O (eG aa ug.1 (ao ug.2 (NestP.hn d.p O)) (congrArg (fun z:TC=>some (Value.int .i64 z.fID)) (NestP.snd d.p u.1)))) ?_)
       obtain⟨f0,wD,h⟩:=bOs h
       refine qY O (yC [.agg #[.slice Aa p0.fNo.length ca,.slice Ab p0.fC.length cb],vI ((rdL p1.fC u.1).fID)] sN O (fun W2 o=>gF p0 ((rdL p1.fC u.1).fID) f0 wD W2 Aa p0.fNo.length ca O ((RdL.arg X) W2 o) Ab p0.fC.length cb r O ((RdL.arg Y) W2 o) (NestL.at (NestL.arg F) W2 o)) O) (qY O (yAI O) (ck (oN (eT (cS (cS (cR (oY O (yMI O) (oY O (bA O O) (oN (eT ?_)))))))))))
       rcases iOs h with⟨uX,h⟩|⟨uX,h⟩
       ·refine cT (vB uX) (cS ?_)
        obtain⟨fn,h⟩:=gOs h
        obtain⟨wE,h⟩:=gOs h
        refine eV [[],[0],[],[2],[],[2,3,4],[2,3,4,5],[2,3,4,5,6],[0,1,2,3,4,5,6,7],[0,1,2,3,4,5,6,7,8],[0,1,2,3,4,5,6,7,8,9]] [(none,0,[true,true,true,true,true,true,true,true,true,true]),(none,0,[true,true,true,true,true,true,true,true,true,true]),(none,0,[true,true,true,true,true,true,true,true,true,true]),(none,0,[true,true,true,true,true,true,true,true,true,true]),(none,0,[true,true,true,true,true,true,true,true,true,true]),(none,0,[true,true,true,true,true,true,true,true,true,true]),(none,0,[true,true,true,true,true,true,true,true,true,true]),(none,1,[true,true,true,true,true,true,true,true,true,true]),(some 4,0,[true,true,true,true,true,true,true,true,true,true,true]),(none,0,[true,true,true,true,true,true,true,true,true,true,true]),(some 5,0,[true,true,true,true,true,true,true,true,true,true,true])] [⟨fun _=>.pointer (some ⟨(ξ10 9 0).2.1,0+1,none⟩),fun _=>noR,fun _=>[]⟩,⟨fun _=>.slice gf u.2.1.length o0,fun _=>noR,fun _=>[]⟩,⟨fun _=>.pointer (some ⟨b2,0+1,none⟩),fun _=>noR,fun _=>[]⟩,⟨fun _=>.slice E p1.fC.length R,fun _=>noR,fun _=>[]⟩,⟨fun _=>vI u.1,fun _=>noR,fun _=>[]⟩,⟨fun _=>slA E (Int.toNat u.1*2),fun _=>noR,fun _=>[]⟩,⟨fun _=>.agg #[vI ((rdL p1.fC u.1).fID),.slice ((rdL g u.1).1.1) ((rdL p1.fC u.1).fO.length) ((rdL g u.1).1.2.2)],fun _=>noR,fun _=>[]⟩,⟨fun ξ50=>.slice (some ⟨(ξ50 7 0).2.1,0,none⟩) 1 1,fun _=>noR,fun ξ50=>[aO (some ⟨(ξ50 7 0).2.1,0,none⟩) 1 90 2 1 (encL TClaim_cells2 [(((rdL g u.1).1.1,(rdL p1.fC u.1).fO.length,(rdL g u.1).1.2.2),(TC.mk ((rdL p1.fC u.1).fID) ((rdL p1.fC u.1).fO)))])]⟩,⟨fun ξ50=>.slice (ξ50 8 0).1 (u.2.1.length+1) (ξ50 8 0).2.2.1,fun ξ50=>aO (ξ50 8 0).1 (ξ50 8 0).2.2.1 90 2 (u.2.1.length+1) (encL TClaim_cells2 (q++[(((rdL g u.1).1.1,(rdL p1.fC u.1).fO.length,(rdL g u.1).1.2.2),(TC.mk ((rdL p1.fC u.1).fID) ((rdL p1.fC u.1).fO)))])),fun _=>[]⟩,⟨fun _=>.pointer (some ⟨(ξ10 9 0).2.1,0+1,none⟩),fun _=>noR,fun _=>[]⟩,⟨fun _=>undef,fun ξ50=>aj (ξ10 9 0).2.1 25 [.slice G fd.2.1.length H,.slice (ξ50 8 0).1 (u.2.1.length+1) (ξ50 8 0).2.2.1],fun _=>[]⟩] 10 cD (by kernel_rfl) (by kernel_rfl) ⟨⟨fun ξ50 ξ50' h=>⟨O,O,O⟩,fun _=>O⟩,⟨fun ξ50 ξ50' h=>⟨O,O,O⟩,fun _=>O⟩,⟨fun ξ50 ξ50' h=>⟨O,O,O⟩,fun _=>O⟩,⟨fun ξ50 ξ50' h=>⟨O,O,O⟩,fun _=>O⟩,⟨fun ξ50 ξ50' h=>⟨O,O,O⟩,fun _=>O⟩,⟨fun ξ50 ξ50' h=>⟨O,O,O⟩,fun _=>O⟩,⟨fun ξ50 ξ50' h=>⟨O,O,O⟩,fun _=>O⟩,⟨fun ξ50 ξ50' h=>⟨by simp only[h 7 (.inl O)],O,by simp only[h 7 (.inl O)]⟩,fun _=>O⟩,⟨fun ξ50 ξ50' h=>⟨by simp only[h 8 (.inl O)],by simp only[h 8 (.inl O)],O⟩,fun _=>O⟩,⟨fun ξ50 ξ50' h=>⟨O,O,O⟩,fun _=>O⟩,⟨fun ξ50 ξ50' h=>⟨O,by simp only[h 8 (.inr O)],O⟩,fun _=>O⟩,trivial⟩ O (fun ξ50=>?_)
        refine cf O (fun L2=>?_) ?_
        ·dsimp only[aA,lca,lna]
         refine oY O (yFA aD O) (oN ?_)
         exact al (fun _=>(none,0,0,[],noR)) O (List.append_nil _)
        dsimp only[bG,lsz,lss,lna,lca,List.append_nil]
        refine cf O (fun L2=>?_) ?_
        ·dsimp only[aA,lca,lna]
         refine oY O (yL 5 bT O O O) (oN ?_)
         exact al (fun _=>(none,0,0,[],noR)) O (List.append_nil _)
        dsimp only[bG,lsz,lss,lna,lca,List.append_nil]
        refine cf O (fun L2=>?_) ?_
        ·dsimp only[aA,lca,lna]
         refine oY O (yFA aD O) (oN ?_)
         exact al (fun _=>(none,0,0,[],noR)) O (List.append_nil _)
        dsimp only[bG,lsz,lss,lna,lca,List.append_nil]
        refine cf O (fun L2=>?_) ?_
        ·dsimp only[aA,lca,lna]
         refine oY O (yL 1 bT O O O) (oN ?_)
         exact al (fun _=>(none,0,0,[],noR)) O (List.append_nil _)
        dsimp only[bG,lsz,lss,lna,lca,List.append_nil]
        refine cf O (fun L2=>?_) ?_
        ·dsimp only[aA,lca,lna]
         refine oY O (yMI O) (oN ?_)
         exact al (fun _=>(none,0,0,[],noR)) O (List.append_nil _)
        dsimp only[bG,lsz,lss,lna,lca,List.append_nil]
        refine cf O (fun L2=>?_) ?_
        ·dsimp only[aA,lca,lna]
         refine oY O (yI dY (by decide) fn.1 fn.2 (RdL.arg N) (eL aa (NestP.hn d.p O)) O O) ?_
         refine oN ?_
         exact al (fun _=>(none,0,0,[],noR)) O (List.append_nil _)
        dsimp only[bG,lsz,lss,lna,lca,List.append_nil]
        refine cf O (fun L2=>?_) ?_
        ·dsimp only[aA,lca,lna]
         refine oY O (yM (A:=E) (j:=(Int.toNat u.1*2)) [vI ((rdL p1.fC u.1).fID),.slice ((rdL g u.1).1.1) ((rdL p1.fC u.1).fO.length) ((rdL g u.1).1.2.2)] lX (Nat.succ_pos _) (RdL.arg N) O (iL (a6 (NestP.snd d.p u.1) (NestP.len d.p fn.1 (ao fn.2 O))).symm (aM aa fn.1 (ao fn.2 (NestP.hn d.p O))))) (oN ?_)
         exact al (fun _=>(none,0,0,[],noR)) O (List.append_nil _)
        dsimp only[bG,lsz,lss,lna,lca,List.append_nil]
        refine cf O (fun L2=>?_) ?_
        ·dsimp only[aA,lca,lna]
         refine ap 1 (encL TClaim_cells2 [(((rdL g u.1).1.1,(rdL p1.fC u.1).fO.length,(rdL g u.1).1.2.2),(TC.mk ((rdL p1.fC u.1).fID) ((rdL p1.fC u.1).fO)))]) _ oW dQ gR l8 (by decide) (by decide) (by kernel_rfl) (eL aa O) O (fun DN=>?_)
         refine oN ?_
         exact al (fun _=>(none,DN,0,[],noR)) O O
        dsimp only[bG,lsz,lss,lna,lca,List.append_nil]
        refine cf O (fun L2=>?_) ?_
        ·dsimp only[aA,lca,lna]
         refine bg 4 dQ gR l8 O O O (RdL.row 10 O) (eL aa (NestP.hn (NestP.cons (sel:=(fun z:TC=>z.fO)) O NestP.nil) O)) (cg bU _) (cp wE (by decide)) O (fun wF wG=>?_)
         refine oN ?_
         first|exact al (fun _=>(wF,0,wG,[],noR)) O O|exact al (fun _=>(wF,0,wG,[],noR)) O (List.append_nil _)
        dsimp only[bG,lsz,lss,lna,lca,List.append_nil]
        refine cf O (fun L2=>?_) ?_
        ·dsimp only[aA,lca,lna]
         refine oY O (yFA aD O) (oN ?_)
         exact al (fun _=>(none,0,0,[],noR)) O (List.append_nil _)
        dsimp only[bG,lsz,lss,lna,lca,List.append_nil]
        refine gx_n O (fun L2=>?_) ?_
        ·dsimp only[aA,lca,lna]
         refine cr O (cn 5 (v:=.slice (ξ50 8 0).1 (u.2.1.length+1) (ξ50 8 0).2.2.1) sz_23 O (Nat.lt_of_lt_of_le (Nat.lt_succ_self _) (nB O)) O O O) (oN ?_)
         first|exact bK (fun _=>(none,0,0,[],noR)) O|exact bK (fun _=>(none,0,0,[],noR)) (List.append_nil _)
        dsimp only[bG,lsz,lss,lna,lca,List.append_nil]
        refine lK (eT (aK (ah (ag (eT (cR ?_))))))
        try dsimp only[lna,lca,lsz,lss]
        refine oY O (yMI O) (oY O (bc O O) (oY O (yAI O) (oN (aS 10 ?_))))
        obtain rfl:=sI h
        exact eN ⟨_,(ξ50 8 0).1,(ξ50 8 0).2.2.1,(u.2.1.length+1),(q++[(((rdL g u.1).1.1,(rdL p1.fC u.1).fO.length,(rdL g u.1).1.2.2),(TC.mk ((rdL p1.fC u.1).fID) ((rdL p1.fC u.1).fO)))]),F4_s43,(fD O O),(NestP.app f1 (NestP.cons (sel:=(fun z:TC=>z.fO)) O NestP.nil)),(PvL.app f2 (PvL.mono (Hb:=Hb) (PvL.cons (PvL.get uM d.p fn.1 (ao fn.2 O)) PvL.nil) (fun _ _ h=>h.1))),O,(kp4 (kp (kp O)))⟩
       ·refine cF (vB uX) (cK (eT (cS ?_)))
        refine aU 14 cD (by kernel_rfl) (by kernel_rfl) ?_
        refine qY O (yFA aD O) (qY O (yL 0 bT O O O) (qY O (yMI O) ?_))
        obtain⟨fl,h⟩:=gOs h
        refine qY O (yI dY (by decide) fl.1 fl.2 (RdL.arg Y) (eL aa (NestP.hn F.p O)) O O) ?_
        refine qY O (yFR (A:=Ab) (j:=(Int.toNat f0*2)) bQ O) (qY O (yR (A:=Ab) (j:=((Int.toNat f0*2)+1)) (v:=.slice ((rdL r f0).1.1) ((rdL p0.fC f0).fO.length) ((rdL r f0).1.2.2)) gL (RdL.arg Y) O (eG aa fl.1 (ao fl.2 (NestP.hn F.p O)) (congrArg (fun n:Nat=>some (Value.slice (rdL r f0).1.1 n (rdL r f0).1.2.2)) (NestP.len F.p fl.1 (ao fl.2 O))))) (qY O (yFA aD O) (qY O (yL 1 bT O O O) (qY O (yMI O) ?_))))
        obtain⟨g1,h⟩:=gOs h
        refine qY O (yI dY (by decide) g1.1 g1.2 (RdL.arg N) (eL aa (NestP.hn d.p O)) O O) ?_
        refine qY O (yFR (A:=E) (j:=(Int.toNat u.1*2)) bQ O) (qY O (yR (A:=E) (j:=((Int.toNat u.1*2)+1)) (v:=.slice ((rdL g u.1).1.1) ((rdL p1.fC u.1).fO.length) ((rdL g u.1).1.2.2)) gL (RdL.arg N) O (eG aa g1.1 (ao g1.2 (NestP.hn d.p O)) (congrArg (fun n:Nat=>some (Value.slice (rdL g u.1).1.1 n (rdL g u.1).1.2.2)) (NestP.len d.p g1.1 (ao g1.2 O))))) ?_)
        obtain⟨DO,wH,h⟩:=bOs h
        refine qY O (yC [.slice ((rdL r f0).1.1) ((rdL p0.fC f0).fO.length) ((rdL r f0).1.2.2),.slice ((rdL g u.1).1.1) ((rdL p1.fC u.1).fO.length) ((rdL g u.1).1.2.2)] go_116 O (fun W2 o=>jj ((rdL p0.fC f0).fO) ((rdL p1.fC u.1).fO) DO wH W2 ((rdL r f0).1.1) ((rdL p0.fC f0).fO.length) ((rdL r f0).1.2.2) O ((NestL.rd (NestL.arg F) fl.1 (ao fl.2 O)) W2 o) ((rdL g u.1).1.1) ((rdL p1.fC u.1).fO.length) ((rdL g u.1).1.2.2) O ((NestL.rd (NestL.arg d) g1.1 (ao g1.2 O)) W2 o)) O) (qY O (yAB O) (ck (oN (eT (cS (cR (oY O (yMB O) (oY O (fe O) (oN (eT ?_))))))))))
        rcases iOs h with⟨uY,h⟩|⟨uY,h⟩
        ·refine cT (vB uY) (cS (cR ?_))
         refine oY O (aI [.slice none 0 0,.slice none 0 0,vI 9] [(0,2),(2,1)] iJ jk (by kernel_rfl)) ?_
         refine cr O (yS 2 [.slice none 0 0,.slice none 0 0,vI 9] kZ O (nB O) O O O) (oN (eT (ak (ai (ab ?_)))))
         obtain rfl:=sI h
         exact ay ⟨O,_,gf,o0,u.2.1.length,q,F4_s43,O,f1,f2,O,(kp4 (kp (kp O)))⟩
        ·refine cF (vB uY) (cK (aq (eT (cR (oY O (yMI O) (oY O (bc O O) (oY O (yAI O) (oN ?_))))))))
         obtain rfl:=sI h
         exact eN ⟨_,gf,o0,u.2.1.length,q,F4_s43,O,f1,f2,O,(kp4 (kp (kp O)))⟩
      ·refine cF (vB uU) (aK (ah ?_))
       obtain rfl:=sI h
       exact ay ⟨O,_,gf,o0,u.2.1.length,q,F4_s43,O,f1,f2,O,(kp4 (kp (kp O)))⟩
     ·intro e L tm hJ
      rcases DM with DQ|oi
      ·dsimp only at h hJ
       obtain⟨rfl,wI,D7,D8,D9,wK,F4_u62,rfl,wM,wN,rfl,rfl⟩:=hJ
       refine⟨(by intro hc;cases hc),?_⟩
       refine ai (ab ?_)
       obtain rfl:=sI h
       exact am (.inl O) O (aH 2 [.slice none 0 0,.slice none 0 0,vI DQ.2.2] mg O O O) (fun W2 o=>⟨((none,0,0),(none,0,0),([]:List (Hd × TC)),noR),⟨O,O,NestP.nil,(PvL.mono (Hb:=Hb) PvL.nil (fun _ _ h=>h.1))⟩,O,o.pickL [6,7,9] (by decide) O⟩)
      ·dsimp only at h hJ
       obtain⟨rfl,wO,V,T,Df,r4,F4_u63,rfl,rx,u0,rfl,rfl⟩:=hJ
       refine⟨(by intro hc;cases hc),?_⟩
       refine ag (eT (cS (cR (oY O (yN 5 [.slice G fd.2.1.length H,.slice V oi.2.1.length T] aF O O O) ?_))))
       obtain⟨uq,wQ,h⟩:=bOs h
       refine oY O (yC [.agg #[.slice G fd.2.1.length H,.slice V oi.2.1.length T]] go_66 O (fun W2 o=>fF (TL.mk fd.2.1 oi.2.1) uq wQ W2 G fd.2.1.length H O ((RdL.row 3 O) W2 o) V oi.2.1.length T r4 O ((RdL.row 4 O) W2 o) (NestL.at (PvL.nestL rx u0 (fun W2 o=>⟨(hB W2 o.below).1,(hB W2 o.below).2,o.mem (i:=8) O⟩)) W2 o)) O) (oY O (yAI O) (oN (eT (cS (cS (cR (oY O (yMI O) (oY O (dD O O) (oN (eT ?_))))))))))
       rcases iOs h with⟨uZ,h⟩|⟨uZ,h⟩
       ·refine cT (vB uZ) (cS (cR (oY O (yMI O) ?_)))
        refine oY O (aI [.slice none 0 0,.slice none 0 0,vI uq] [(0,2),(2,1)] iJ jk (by kernel_rfl)) ?_
        refine cr O (yS 2 [.slice none 0 0,.slice none 0 0,vI uq] kZ O (nB O) O O O) (oN (eT (ak (ab ?_))))
        obtain rfl:=sI h
        exact am (.inl O) O (aH 2 [.slice none 0 0,.slice none 0 0,vI uq] mg O O O) (fun W2 o=>⟨((none,0,0),(none,0,0),[],noR),⟨O,O,NestP.nil,PvL.nil⟩,O,((o.nilrow 97 3).nilrow 90 2).addNo.pickL [10,11,12] (by decide) O⟩)
       ·refine cF (vB uZ) (cK (eT (cS (cR (oY O (yN 5 [.slice G fd.2.1.length H,.slice V oi.2.1.length T] aF O O O) ?_)))))
        refine oY O (aI [.slice G fd.2.1.length H,.slice V oi.2.1.length T,vI 0] [(0,2),(2,1)] iJ jk (by kernel_rfl)) ?_
        refine cr O (yS 2 [.slice G fd.2.1.length H,.slice V oi.2.1.length T,vI 0] kZ O (nB O) O O O) (oN (eT (ak ?_)))
        obtain rfl:=sI h
        exact am (.inl O) O (aH 2 [.slice G fd.2.1.length H,.slice V oi.2.1.length T,vI 0] mg O O O) (fun W2 o=>⟨((G,fd.2.1.length,H),(V,oi.2.1.length,T),r4,F4_u63),⟨O,O,rx,u0⟩,O,o.pickL [3,4,8] (by decide) O⟩)
 ·refine cF (vB ui) (cK (eT (cS (cS (cR (oY O (yMI O) (oY O (dD O O) (oN (eT ?_)))))))))
  rcases iOs h with⟨uV,h⟩|⟨uV,h⟩
  ·refine cT (vB uV) (cS (cR (oY O (yMI O) ?_)))
   refine oY O (aI [.slice none 0 0,.slice none 0 0,vI y4] [(0,2),(2,1)] iJ jk (by kernel_rfl)) ?_
   refine cr O (yS 2 [.slice none 0 0,.slice none 0 0,vI y4] kZ O (nB O) O O O) (oN (eT (ak (ab ?_))))
   obtain rfl:=sI h
   exact am (.inl O) O (aH 2 [.slice none 0 0,.slice none 0 0,vI y4] mg O O O) (fun W2 o=>⟨((none,0,0),(none,0,0),[],noR),⟨O,O,NestP.nil,PvL.nil⟩,O,((o.nilrow 97 3).nilrow 90 2).addNo.pickL [3,4,5] (by decide) O⟩)
  ·refine cF (vB uV) (cK (eT (cS ?_)))
   obtain⟨wU,h⟩:=gOs h
   obtain⟨wX,h⟩:=gOs h
   refine eV [[],[],[1],[0,1,2],[],[],[5],[0,1,2,3,4,5,6],[0,1,2,3,4,5,6,7],[],[0,1,2,3,4,5,6,7,8,9]] [(none,1,[true,true,true]),(none,0,[true,true,true,false]),(none,0,[true,true,true,false]),(some 3,0,[true,true,true,true]),(none,1,[true,true,true,false]),(none,0,[true,true,true,false,false]),(none,0,[true,true,true,false,false]),(some 4,0,[true,true,true,true,true]),(none,0,[true,true,true,true,true]),(none,1,[true,true,true,false,false]),(some 5,0,[true,true,true,true,true,true])] [⟨fun ξ68=>.slice (some ⟨(ξ68 0 0).2.1,0,none⟩) 0 0,fun _=>noR,fun ξ68=>[aO (some ⟨(ξ68 0 0).2.1,0,none⟩) 0 97 3 0 (encL TNode_cells ([]:List TN))]⟩,⟨fun _=>.pointer (some ⟨b1,0+0,none⟩),fun _=>noR,fun _=>[]⟩,⟨fun _=>.slice Aa p0.fNo.length ca,fun _=>noR,fun _=>[]⟩,⟨fun ξ68=>.slice (ξ68 3 0).1 (0+p0.fNo.length) (ξ68 3 0).2.2.1,fun ξ68=>aO (ξ68 3 0).1 (ξ68 3 0).2.2.1 97 3 (0+p0.fNo.length) (encL TNode_cells (([]:List TN)++p0.fNo)),fun _=>[]⟩,⟨fun ξ68=>.slice (some ⟨(ξ68 4 0).2.1,0,none⟩) 0 0,fun _=>noR,fun ξ68=>[aO (some ⟨(ξ68 4 0).2.1,0,none⟩) 0 90 2 0 (encL TClaim_cells2 ([]:List (Hd × TC)))]⟩,⟨fun _=>.pointer (some ⟨b1,0+1,none⟩),fun _=>noR,fun _=>[]⟩,⟨fun _=>.slice Ab p0.fC.length cb,fun _=>noR,fun _=>[]⟩,⟨fun ξ68=>.slice (ξ68 7 0).1 (0+p0.fC.length) (ξ68 7 0).2.2.1,fun ξ68=>aO (ξ68 7 0).1 (ξ68 7 0).2.2.1 90 2 (0+p0.fC.length) (encL TClaim_cells2 (([]:List (Hd × TC))++r)),fun _=>[]⟩,⟨fun ξ68=>.agg #[.slice (ξ68 3 0).1 (0+p0.fNo.length) (ξ68 3 0).2.2.1,.slice (ξ68 7 0).1 (0+p0.fC.length) (ξ68 7 0).2.2.1],fun _=>noR,fun _=>[]⟩,⟨fun ξ68=>.pointer (some ⟨(ξ68 9 0).2.1,0,none⟩),fun _=>noR,fun ξ68=>[aj (ξ68 9 0).2.1 25 [.slice none 0 0,.slice none 0 0]]⟩,⟨fun _=>undef,fun ξ68=>aj (ξ68 9 0).2.1 25 [.slice (ξ68 3 0).1 (0+p0.fNo.length) (ξ68 3 0).2.2.1,.slice (ξ68 7 0).1 (0+p0.fC.length) (ξ68 7 0).2.2.1],fun _=>[]⟩] 3 cD (by kernel_rfl) (by kernel_rfl) ⟨⟨fun ξ68 ξ68' h=>⟨by simp only[h 0 (.inl O)],O,by simp only[h 0 (.inl O)]⟩,fun _=>O⟩,⟨fun ξ68 ξ68' h=>⟨O,O,O⟩,fun _=>O⟩,⟨fun ξ68 ξ68' h=>⟨O,O,O⟩,fun _=>O⟩,⟨fun ξ68 ξ68' h=>⟨by simp only[h 3 (.inl O)],by simp only[h 3 (.inl O)],O⟩,fun _=>O⟩,⟨fun ξ68 ξ68' h=>⟨by simp only[h 4 (.inl O)],O,by simp only[h 4 (.inl O)]⟩,fun _=>O⟩,⟨fun ξ68 ξ68' h=>⟨O,O,O⟩,fun _=>O⟩,⟨fun ξ68 ξ68' h=>⟨O,O,O⟩,fun _=>O⟩,⟨fun ξ68 ξ68' h=>⟨by simp only[h 7 (.inl O)],by simp only[h 7 (.inl O)],O⟩,fun _=>O⟩,⟨fun ξ68 ξ68' h=>⟨by simp only[h 3 (.inr O),h 7 (.inr O)],O,O⟩,fun _=>O⟩,⟨fun ξ68 ξ68' h=>⟨by simp only[h 9 (.inl O)],O,by simp only[h 9 (.inl O)]⟩,fun _=>O⟩,⟨fun ξ68 ξ68' h=>⟨O,by simp only[h 3 (.inr O),h 7 (.inr O),h 9 (.inr O)],O⟩,fun _=>O⟩,trivial⟩ O (fun ξ68=>?_)
   refine cf O (fun L2=>?_) ?_
   ·dsimp only[aA,lca,lna]
    refine eH TNode_cells gE j7 o9 O (fun DU=>?_)
    refine oN ?_
    exact al (fun _=>(none,DU,0,[],noR)) O O
   dsimp only[bG,lsz,lss,lna,lca,List.append_nil]
   refine cf O (fun L2=>?_) ?_
   ·dsimp only[aA,lca,lna]
    refine oY O (yFA aY O) (oN ?_)
    exact al (fun _=>(none,0,0,[],noR)) O (List.append_nil _)
   dsimp only[bG,lsz,lss,lna,lca,List.append_nil]
   refine cf O (fun L2=>?_) ?_
   ·dsimp only[aA,lca,lna]
    refine oY O (yL 0 dK O O O) (oN ?_)
    exact al (fun _=>(none,0,0,[],noR)) O (List.append_nil _)
   dsimp only[bG,lsz,lss,lna,lca,List.append_nil]
   refine cf O (fun L2=>?_) ?_
   ·dsimp only[aA,lca,lna]
    refine bg 3 gE j7 o9 O O O (RdL.arg X) (eL ad O) (cg eY _) (cp wU (by decide)) O (fun wY wZ=>?_)
    refine oN ?_
    first|exact al (fun _=>(wY,0,wZ,[],noR)) O O|exact al (fun _=>(wY,0,wZ,[],noR)) O (List.append_nil _)
   dsimp only[bG,lsz,lss,lna,lca,List.append_nil]
   refine cf O (fun L2=>?_) ?_
   ·dsimp only[aA,lca,lna]
    refine eH TClaim_cells2 dQ gR l8 O (fun DX=>?_)
    refine oN ?_
    exact al (fun _=>(none,DX,0,[],noR)) O O
   dsimp only[bG,lsz,lss,lna,lca,List.append_nil]
   refine cf O (fun L2=>?_) ?_
   ·dsimp only[aA,lca,lna]
    refine oY O (yFA aD O) (oN ?_)
    exact al (fun _=>(none,0,0,[],noR)) O (List.append_nil _)
   dsimp only[bG,lsz,lss,lna,lca,List.append_nil]
   refine cf O (fun L2=>?_) ?_
   ·dsimp only[aA,lca,lna]
    refine oY O (yL 0 bT O O O) (oN ?_)
    exact al (fun _=>(none,0,0,[],noR)) O (List.append_nil _)
   dsimp only[bG,lsz,lss,lna,lca,List.append_nil]
   refine cf O (fun L2=>?_) ?_
   ·dsimp only[aA,lca,lna]
    refine bg 4 dQ gR l8 O O O (RdL.arg Y) (eL aa (NestP.hn F.p O)) (cg bU _) (cp wX (by decide)) O (fun wV wT=>?_)
    refine oN ?_
    first|exact al (fun _=>(wV,0,wT,[],noR)) O O|exact al (fun _=>(wV,0,wT,[],noR)) O (List.append_nil _)
   dsimp only[bG,lsz,lss,lna,lca,List.append_nil]
   refine cf O (fun L2=>?_) ?_
   ·dsimp only[aA,lca,lna]
    refine oY O (aI [.slice (ξ68 3 0).1 (0+p0.fNo.length) (ξ68 3 0).2.2.1,.slice (ξ68 7 0).1 (0+p0.fC.length) (ξ68 7 0).2.2.1] [(0,1),(1,1)] kg ft (by kernel_rfl)) ?_
    refine oN ?_
    exact al (fun _=>(none,0,0,[],noR)) O (List.append_nil _)
   dsimp only[bG,lsz,lss,lna,lca,List.append_nil]
   refine cf O (fun L2=>?_) ?_
   ·dsimp only[aA,lca,lna]
    refine aC ft O (fun DY=>?_)
    refine oN ?_
    exact al (fun _=>(none,DY,0,[],noR)) O O
   dsimp only[bG,lsz,lss,lna,lca,List.append_nil]
   refine gx_n O (fun L2=>?_) ?_
   ·dsimp only[aA,lca,lna]
    refine cr O (yS 5 [.slice (ξ68 3 0).1 (0+p0.fNo.length) (ξ68 3 0).2.2.1,.slice (ξ68 7 0).1 (0+p0.fC.length) (ξ68 7 0).2.2.1] gN O (nB O) O O O) (oN ?_)
    first|exact bK (fun _=>(none,0,0,[],noR)) O|exact bK (fun _=>(none,0,0,[],noR)) (List.append_nil _)
   dsimp only[bG,lsz,lss,lna,lca,List.append_nil]
   refine lK (eT (cS (cS (cR ?_))))
   try dsimp only[lna,lca,lsz,lss]
   refine oY O (yAI O) (oN (eT (cB ?_)))
   obtain⟨DZ,wS,h⟩:=bOs h
   refine cN 97 3 (cN 90 2 (jC (jC ?_)))
   refine bW (fun(s:(Int × (List TN) × Int)) L tm=>∃(u2:Nat→Value) (ok:Option Addr) (r0:Nat) (oq:Nat),oq=s.2.1.length∧L=[aj b1 25 [.slice Aa p0.fNo.length ca,.slice Ab p0.fC.length cb],aj b2 25 [.slice Ac p1.fNo.length cc,.slice E p1.fC.length R],aj b3 77 [.slice none 0 0,.slice none 0 0,vI s.2.2],aO ok r0 97 3 oq (encL TNode_cells s.2.1),aO (ξ68 7 0).1 (ξ68 7 0).2.2.1 90 2 (0+p0.fC.length) (encL TClaim_cells2 (([]:List (Hd × TC))++r)),aj (ξ68 9 0).2.1 25 [.slice ok oq r0,.slice (ξ68 7 0).1 (0+p0.fC.length) (ξ68 7 0).2.2.1],aO none 0 97 3 0 (encL TNode_cells ([]:List TN)),aO none 0 90 2 0 (encL TClaim_cells2 ([]:List (Hd × TC))),noR,noR]∧tm=(upd (upd (upd (upd (upd (upd u2 2 (.pointer (some ⟨b1,0,none⟩))) 3 (.pointer (some ⟨b2,0,none⟩))) 4 (.pointer (some ⟨b3,0,none⟩))) 5 (vI y4)) 6 (.pointer (some ⟨(ξ68 9 0).2.1,0,none⟩))) 7 (vI s.1))) 0 wS ⟨_,(ξ68 3 0).1,(ξ68 3 0).2.2.1,(0+p0.fNo.length),(fD O O),O,(kp4 (kp (kp O)))⟩ ?_ ?_
   ·rintro D L tm st ⟨wR,o1,o2,Dg,rfl,rfl,rfl⟩ h
    unfold nw at h
    refine cS (cS (cR ?_))
    try dsimp only[lna,lca,lsz,lss]
    refine oY O (yMI O) (oY O (yFA aY O) (oY O (yL 1 dK O O O) (oY O (bd (us:=[]) gE O) (oY O (bA O O) (oN (eT ?_))))))
    rcases iOs h with⟨uT,h⟩|⟨uT,h⟩
    ·refine cT (vB uT) (cK (eT (cS (cB (cS ?_)))))
     refine aU 9 cD (by kernel_rfl) (by kernel_rfl) ?_
     refine qY O (yN 0 [.slice Aa p0.fNo.length ca,.slice Ab p0.fC.length cb] aF O O O) (qY O (yFA aY O) (qY O (yL 1 dK O O O) (qY O (yMI O) ?_)))
     obtain⟨uo,h⟩:=gOs h
     refine qY O (yI jL (by decide) uo.1 uo.2 (RdL.arg M) (eL ad O) O O) ?_
     refine qY O (yFR (A:=Ac) (j:=(Int.toNat D.1*3)) gd O) (qY O (yR (A:=Ac) (j:=((Int.toNat D.1*3)+0)) (v:=vI ((rdL p1.fNo D.1).fID)) bN (RdL.arg M) O (eG ad uo.1 (ao uo.2 O) O)) ?_)
     obtain⟨u1,wq,h⟩:=bOs h
     refine qY O (yC [.agg #[.slice Aa p0.fNo.length ca,.slice Ab p0.fC.length cb],vI ((rdL p1.fNo D.1).fID)] go_67 O (fun W2 o=>iC p0 ((rdL p1.fNo D.1).fID) u1 wq W2 Aa p0.fNo.length ca O ((RdL.arg X) W2 o) Ab p0.fC.length cb r O ((RdL.arg Y) W2 o) (NestL.at (NestL.arg F) W2 o)) O) (qY O (yAI O) (ck (oN (eT (cS (cR (oY O (yMI O) (oY O (bA O O) (oN (eT ?_))))))))))
     rcases iOs h with⟨uS,h⟩|⟨uS,h⟩
     ·refine cT (vB uS) ?_
      obtain⟨ur,h⟩:=gOs h
      obtain⟨wp,h⟩:=gOs h
      refine eV [[],[0],[],[2],[],[2,3,4],[2,3,4,5],[2,3,4,5,6],[0,1,2,3,4,5,6,7],[0,1,2,3,4,5,6,7,8],[0,1,2,3,4,5,6,7,8,9]] [(none,0,[true,true,true,true,true,true,true,true,true,true]),(none,0,[true,true,true,true,true,true,true,true,true,true]),(none,0,[true,true,true,true,true,true,true,true,true,true]),(none,0,[true,true,true,true,true,true,true,true,true,true]),(none,0,[true,true,true,true,true,true,true,true,true,true]),(none,0,[true,true,true,true,true,true,true,true,true,true]),(none,0,[true,true,true,true,true,true,true,true,true,true]),(none,1,[true,true,true,true,true,true,true,true,true,true]),(some 3,0,[true,true,true,true,true,true,true,true,true,true,true]),(none,0,[true,true,true,true,true,true,true,true,true,true,true]),(some 5,0,[true,true,true,true,true,true,true,true,true,true,true])] [⟨fun _=>.pointer (some ⟨(ξ68 9 0).2.1,0+0,none⟩),fun _=>noR,fun _=>[]⟩,⟨fun _=>.slice o1 D.2.1.length o2,fun _=>noR,fun _=>[]⟩,⟨fun _=>.pointer (some ⟨b2,0+0,none⟩),fun _=>noR,fun _=>[]⟩,⟨fun _=>.slice Ac p1.fNo.length cc,fun _=>noR,fun _=>[]⟩,⟨fun _=>vI D.1,fun _=>noR,fun _=>[]⟩,⟨fun _=>slA Ac (Int.toNat D.1*3),fun _=>noR,fun _=>[]⟩,⟨fun _=>.agg #[vI ((rdL p1.fNo D.1).fID),vI ((rdL p1.fNo D.1).fLevel),vI ((rdL p1.fNo D.1).fCost)],fun _=>noR,fun _=>[]⟩,⟨fun ξ87=>.slice (some ⟨(ξ87 7 0).2.1,0,none⟩) 1 1,fun _=>noR,fun ξ87=>[aO (some ⟨(ξ87 7 0).2.1,0,none⟩) 1 97 3 1 (encL TNode_cells [(TN.mk ((rdL p1.fNo D.1).fID) ((rdL p1.fNo D.1).fLevel) ((rdL p1.fNo D.1).fCost))])]⟩,⟨fun ξ87=>.slice (ξ87 8 0).1 (D.2.1.length+1) (ξ87 8 0).2.2.1,fun ξ87=>aO (ξ87 8 0).1 (ξ87 8 0).2.2.1 97 3 (D.2.1.length+1) (encL TNode_cells (D.2.1++[(TN.mk ((rdL p1.fNo D.1).fID) ((rdL p1.fNo D.1).fLevel) ((rdL p1.fNo D.1).fCost))])),fun _=>[]⟩,⟨fun _=>.pointer (some ⟨(ξ68 9 0).2.1,0+0,none⟩),fun _=>noR,fun _=>[]⟩,⟨fun _=>undef,fun ξ87=>aj (ξ68 9 0).2.1 25 [.slice (ξ87 8 0).1 (D.2.1.length+1) (ξ87 8 0).2.2.1,.slice (ξ68 7 0).1 (0+p0.fC.length) (ξ68 7 0).2.2.1],fun _=>[]⟩] 10 cD (by kernel_rfl) (by kernel_rfl) ⟨⟨fun ξ87 ξ87' h=>⟨O,O,O⟩,fun _=>O⟩,⟨fun ξ87 ξ87' h=>⟨O,O,O⟩,fun _=>O⟩,⟨fun ξ87 ξ87' h=>⟨O,O,O⟩,fun _=>O⟩,⟨fun ξ87 ξ87' h=>⟨O,O,O⟩,fun _=>O⟩,⟨fun ξ87 ξ87' h=>⟨O,O,O⟩,fun _=>O⟩,⟨fun ξ87 ξ87' h=>⟨O,O,O⟩,fun _=>O⟩,⟨fun ξ87 ξ87' h=>⟨O,O,O⟩,fun _=>O⟩,⟨fun ξ87 ξ87' h=>⟨by simp only[h 7 (.inl O)],O,by simp only[h 7 (.inl O)]⟩,fun _=>O⟩,⟨fun ξ87 ξ87' h=>⟨by simp only[h 8 (.inl O)],by simp only[h 8 (.inl O)],O⟩,fun _=>O⟩,⟨fun ξ87 ξ87' h=>⟨O,O,O⟩,fun _=>O⟩,⟨fun ξ87 ξ87' h=>⟨O,by simp only[h 8 (.inr O)],O⟩,fun _=>O⟩,trivial⟩ O (fun ξ87=>?_)
      refine cf O (fun L2=>?_) ?_
      ·dsimp only[aA,lca,lna]
       refine oY O (yFA aY O) (oN ?_)
       exact al (fun _=>(none,0,0,[],noR)) O (List.append_nil _)
      dsimp only[bG,lsz,lss,lna,lca,List.append_nil]
      refine cf O (fun L2=>?_) ?_
      ·dsimp only[aA,lca,lna]
       refine oY O (yL 5 dK O O O) (oN ?_)
       exact al (fun _=>(none,0,0,[],noR)) O (List.append_nil _)
      dsimp only[bG,lsz,lss,lna,lca,List.append_nil]
      refine cf O (fun L2=>?_) ?_
      ·dsimp only[aA,lca,lna]
       refine oY O (yFA aY O) (oN ?_)
       exact al (fun _=>(none,0,0,[],noR)) O (List.append_nil _)
      dsimp only[bG,lsz,lss,lna,lca,List.append_nil]
      refine cf O (fun L2=>?_) ?_
      ·dsimp only[aA,lca,lna]
       refine oY O (yL 1 dK O O O) (oN ?_)
       exact al (fun _=>(none,0,0,[],noR)) O (List.append_nil _)
      dsimp only[bG,lsz,lss,lna,lca,List.append_nil]
      refine cf O (fun L2=>?_) ?_
      ·dsimp only[aA,lca,lna]
       refine oY O (yMI O) (oN ?_)
       exact al (fun _=>(none,0,0,[],noR)) O (List.append_nil _)
      dsimp only[bG,lsz,lss,lna,lca,List.append_nil]
      refine cf O (fun L2=>?_) ?_
      ·dsimp only[aA,lca,lna]
       refine oY O (yI jL (by decide) ur.1 ur.2 (RdL.arg M) (eL ad O) O O) ?_
       refine oN ?_
       exact al (fun _=>(none,0,0,[],noR)) O (List.append_nil _)
      dsimp only[bG,lsz,lss,lna,lca,List.append_nil]
      refine cf O (fun L2=>?_) ?_
      ·dsimp only[aA,lca,lna]
       refine oY O (yM (A:=Ac) (j:=(Int.toNat D.1*3)) [vI ((rdL p1.fNo D.1).fID),vI ((rdL p1.fNo D.1).fLevel),vI ((rdL p1.fNo D.1).fCost)] mr (Nat.succ_pos _) (RdL.arg M) O (aM ad ur.1 (ao ur.2 O))) (oN ?_)
       exact al (fun _=>(none,0,0,[],noR)) O (List.append_nil _)
      dsimp only[bG,lsz,lss,lna,lca,List.append_nil]
      refine cf O (fun L2=>?_) ?_
      ·dsimp only[aA,lca,lna]
       refine ap 1 (encL TNode_cells [(TN.mk ((rdL p1.fNo D.1).fID) ((rdL p1.fNo D.1).fLevel) ((rdL p1.fNo D.1).fCost))]) _ sY gE j7 o9 (by decide) (by decide) (by kernel_rfl) (eL ad O) O (fun DV=>?_)
       refine oN ?_
       exact al (fun _=>(none,DV,0,[],noR)) O O
      dsimp only[bG,lsz,lss,lna,lca,List.append_nil]
      refine cf O (fun L2=>?_) ?_
      ·dsimp only[aA,lca,lna]
       refine bg 3 gE j7 o9 O O O (RdL.row 10 O) (eL ad O) (cg eY _) (cp wp (by decide)) O (fun wn wm=>?_)
       refine oN ?_
       first|exact al (fun _=>(wn,0,wm,[],noR)) O O|exact al (fun _=>(wn,0,wm,[],noR)) O (List.append_nil _)
      dsimp only[bG,lsz,lss,lna,lca,List.append_nil]
      refine cf O (fun L2=>?_) ?_
      ·dsimp only[aA,lca,lna]
       refine oY O (yFA aY O) (oN ?_)
       exact al (fun _=>(none,0,0,[],noR)) O (List.append_nil _)
      dsimp only[bG,lsz,lss,lna,lca,List.append_nil]
      refine gx_n O (fun L2=>?_) ?_
      ·dsimp only[aA,lca,lna]
       refine cr O (cn 5 (v:=.slice (ξ87 8 0).1 (D.2.1.length+1) (ξ87 8 0).2.2.1) sz_22 O (Nat.lt_of_lt_of_le (Nat.lt_succ_self _) (nB O)) O O O) (oN ?_)
       first|exact bK (fun _=>(none,0,0,[],noR)) O|exact bK (fun _=>(none,0,0,[],noR)) (List.append_nil _)
      dsimp only[bG,lsz,lss,lna,lca,List.append_nil]
      refine lK (aq (eT (cR ?_)))
      try dsimp only[lna,lca,lsz,lss]
      refine oY O (yMI O) (oY O (bc O O) (oY O (yAI O) (oN (aS 10 ?_))))
      obtain rfl:=sI h
      exact eN ⟨_,(ξ87 8 0).1,(ξ87 8 0).2.2.1,(D.2.1.length+1),(fD O O),O,(kp4 (kp (kp O)))⟩
     ·refine cF (vB uS) (cS ?_)
      refine aU 11 cD (by kernel_rfl) (by kernel_rfl) ?_
      refine qY O (yFA aY O) (qY O (yL 0 dK O O O) (qY O (yMI O) ?_))
      obtain⟨uu,h⟩:=gOs h
      refine qY O (yI jL (by decide) uu.1 uu.2 (RdL.arg X) (eL ad O) O O) ?_
      refine qY O (yM (A:=Aa) (j:=(Int.toNat u1*3)) [vI ((rdL p0.fNo u1).fID),vI ((rdL p0.fNo u1).fLevel),vI ((rdL p0.fNo u1).fCost)] mr (Nat.succ_pos _) (RdL.arg X) O (aM ad uu.1 (ao uu.2 O))) (qY O (yFA aY O) (qY O (yL 1 dK O O O) (qY O (yMI O) ?_)))
      obtain⟨ud,h⟩:=gOs h
      refine qY O (yI jL (by decide) ud.1 ud.2 (RdL.arg M) (eL ad O) O O) ?_
      refine qY O (yM (A:=Ac) (j:=(Int.toNat D.1*3)) [vI ((rdL p1.fNo D.1).fID),vI ((rdL p1.fNo D.1).fLevel),vI ((rdL p1.fNo D.1).fCost)] mr (Nat.succ_pos _) (RdL.arg M) O (aM ad ud.1 (ao ud.2 O))) (qY O (ru (b:=(((rdL p0.fNo u1).fID==(rdL p1.fNo D.1).fID)&&(((rdL p0.fNo u1).fLevel==(rdL p1.fNo D.1).fLevel)&&((rdL p0.fNo u1).fCost==(rdL p1.fNo D.1).fCost)))) eg_97 O O (fun _=>(eqS3 fl_97 (ep bN O) (ep bN O) (ep bN O) (ep bN O) (ep bN O) (ep bN O) (run_equalIn_int _ _ _ _ _ _ _ pQ) (run_equalIn_int _ _ _ _ _ _ _ pQ) (run_equalIn_int _ _ _ _ _ _ _ pQ)))) (ck (oN (eT ?_))))
      rcases iOs h with⟨uR,h⟩|⟨uR,h⟩
      ·refine cT (vB uR) (cS (cR ?_))
       refine oY O (aI [.slice none 0 0,.slice none 0 0,vI 9] [(0,2),(2,1)] iJ jk (by kernel_rfl)) ?_
       refine cr O (yS 2 [.slice none 0 0,.slice none 0 0,vI 9] kZ O (nB O) O O O) (oN (eT (ak (ai (ab ?_)))))
       obtain rfl:=sI h
       exact ay ⟨O,_,o1,o2,D.2.1.length,O,O,(kp4 (kp (kp O)))⟩
      ·refine cF (vB uR) (cK (aq (eT (cR (oY O (yMI O) (oY O (bc O O) (oY O (yAI O) (oN ?_))))))))
       obtain rfl:=sI h
       exact eN ⟨_,o1,o2,D.2.1.length,O,O,(kp4 (kp (kp O)))⟩
    ·refine cF (vB uT) (aK (ah ?_))
     obtain rfl:=sI h
     exact ay ⟨O,_,o1,o2,D.2.1.length,O,O,(kp4 (kp (kp O)))⟩
   ·intro e L tm hJ
    rcases DZ with DT|fN
    ·dsimp only at h hJ
     obtain⟨rfl,wl,Do,Dr,Du,rfl,rfl,rfl⟩:=hJ
     refine⟨(by intro hc;cases hc),?_⟩
     refine ai (ab ?_)
     obtain rfl:=sI h
     exact am (.inl O) O (aH 2 [.slice none 0 0,.slice none 0 0,vI DT.2.2] mg O O O) (fun W2 o=>⟨((none,0,0),(none,0,0),([]:List (Hd × TC)),noR),⟨O,O,NestP.nil,(PvL.mono (Hb:=Hb) PvL.nil (fun _ _ h=>h.1))⟩,O,o.pickL [6,7,9] (by decide) O⟩)
    ·dsimp only at h hJ
     obtain⟨rfl,wt,I,K,Dd,rfl,rfl,rfl⟩:=hJ
     refine⟨(by intro hc;cases hc),?_⟩
     refine ag (eT (cS (cS (cR ?_))))
     try dsimp only[lna,lca,lsz,lss]
     refine oY O (yAI O) (oN (eT (cB ?_)))
     obtain⟨wa,uk,h⟩:=bOs h
     refine bW (fun(s:(Int × (List TC) × Int)) L tm=>∃(u2:Nat→Value) (r2:Option Addr) (r3:Nat) (op:Nat) (c:List (Hd × TC)) (F4_s:Res),op=s.2.1.length∧NestP (fun z:TC=>z.fO) c s.2.1∧PvL (fun z:TC=>z.fO) THop_cells wb (fun W4=>Hb W4∧Res.holds F4_s W4) c∧L=[aj b1 25 [.slice Aa p0.fNo.length ca,.slice Ab p0.fC.length cb],aj b2 25 [.slice Ac p1.fNo.length cc,.slice E p1.fC.length R],aj b3 77 [.slice none 0 0,.slice none 0 0,vI s.2.2],aO I K 97 3 fN.2.1.length (encL TNode_cells fN.2.1),aO r2 r3 90 2 op (encL TClaim_cells2 c),aj (ξ68 9 0).2.1 25 [.slice I fN.2.1.length K,.slice r2 op r3],aO none 0 97 3 0 (encL TNode_cells ([]:List TN)),aO none 0 90 2 0 (encL TClaim_cells2 ([]:List (Hd × TC))),F4_s,noR]∧tm=(upd (upd (upd (upd (upd (upd u2 2 (.pointer (some ⟨b1,0,none⟩))) 3 (.pointer (some ⟨b2,0,none⟩))) 4 (.pointer (some ⟨b3,0,none⟩))) 5 (vI y4)) 6 (.pointer (some ⟨(ξ68 9 0).2.1,0,none⟩))) 9 (vI s.1))) 2 uk ⟨_,(ξ68 7 0).1,(ξ68 7 0).2.2.1,(0+p0.fC.length),(([]:List (Hd × TC))++r),noR,(fD O O),(NestP.app NestP.nil F.p),(PvL.mono (Hb:=Hb) (PvL.app PvL.nil uK) (fun _ _ h=>h.1)),O,(kp4 (kp (kp O)))⟩ ?_ ?_
     ·rintro f L tm st ⟨d2,f3,f4,wz,S,F4_s101,rfl,k,y,rfl,rfl⟩ h
      unfold ob at h
      refine cS (cS (cR (oY O (yMI O) (oY O (yFA aD O) (oY O (yL 1 bT O O O) (oY O (bd (us:=[]) dQ O) (oY O (bA O O) (oN (eT ?_)))))))))
      rcases iOs h with⟨u3,h⟩|⟨u3,h⟩
      ·refine cT (vB u3) (cK (eT (cS (cB (cS ?_)))))
       refine aU 9 cD (by kernel_rfl) (by kernel_rfl) ?_
       refine qY O (yN 0 [.slice Aa p0.fNo.length ca,.slice Ab p0.fC.length cb] aF O O O) (qY O (yFA aD O) (qY O (yL 1 bT O O O) (qY O (yMI O) ?_)))
       obtain⟨oj,h⟩:=gOs h
       refine qY O (yI dY (by decide) oj.1 oj.2 (RdL.arg N) (eL aa (NestP.hn d.p O)) O O) ?_
       refine qY O (yFR (A:=E) (j:=(Int.toNat f.1*2)) fh O) (qY O (yR (A:=E) (j:=((Int.toNat f.1*2)+0)) (v:=vI ((rdL p1.fC f.1).fID)) bN (RdL.arg N) O (eG aa oj.1 (ao oj.2 (NestP.hn d.p O)) (congrArg (fun z:TC=>some (Value.int .i64 z.fID)) (NestP.snd d.p f.1)))) ?_)
       obtain⟨Z,ux,h⟩:=bOs h
       refine qY O (yC [.agg #[.slice Aa p0.fNo.length ca,.slice Ab p0.fC.length cb],vI ((rdL p1.fC f.1).fID)] sN O (fun W2 o=>gF p0 ((rdL p1.fC f.1).fID) Z ux W2 Aa p0.fNo.length ca O ((RdL.arg X) W2 o) Ab p0.fC.length cb r O ((RdL.arg Y) W2 o) (NestL.at (NestL.arg F) W2 o)) O) (qY O (yAI O) (ck (oN (eT (cS (cS (cR (oY O (yMI O) (oY O (bA O O) (oN (eT ?_)))))))))))
       rcases iOs h with⟨u4,h⟩|⟨u4,h⟩
       ·refine cT (vB u4) (cS ?_)
        obtain⟨l,h⟩:=gOs h
        obtain⟨uy,h⟩:=gOs h
        refine eV [[],[0],[],[2],[],[2,3,4],[2,3,4,5],[2,3,4,5,6],[0,1,2,3,4,5,6,7],[0,1,2,3,4,5,6,7,8],[0,1,2,3,4,5,6,7,8,9]] [(none,0,[true,true,true,true,true,true,true,true,true,true]),(none,0,[true,true,true,true,true,true,true,true,true,true]),(none,0,[true,true,true,true,true,true,true,true,true,true]),(none,0,[true,true,true,true,true,true,true,true,true,true]),(none,0,[true,true,true,true,true,true,true,true,true,true]),(none,0,[true,true,true,true,true,true,true,true,true,true]),(none,0,[true,true,true,true,true,true,true,true,true,true]),(none,1,[true,true,true,true,true,true,true,true,true,true]),(some 4,0,[true,true,true,true,true,true,true,true,true,true,true]),(none,0,[true,true,true,true,true,true,true,true,true,true,true]),(some 5,0,[true,true,true,true,true,true,true,true,true,true,true])] [⟨fun _=>.pointer (some ⟨(ξ68 9 0).2.1,0+1,none⟩),fun _=>noR,fun _=>[]⟩,⟨fun _=>.slice f3 f.2.1.length f4,fun _=>noR,fun _=>[]⟩,⟨fun _=>.pointer (some ⟨b2,0+1,none⟩),fun _=>noR,fun _=>[]⟩,⟨fun _=>.slice E p1.fC.length R,fun _=>noR,fun _=>[]⟩,⟨fun _=>vI f.1,fun _=>noR,fun _=>[]⟩,⟨fun _=>slA E (Int.toNat f.1*2),fun _=>noR,fun _=>[]⟩,⟨fun _=>.agg #[vI ((rdL p1.fC f.1).fID),.slice ((rdL g f.1).1.1) ((rdL p1.fC f.1).fO.length) ((rdL g f.1).1.2.2)],fun _=>noR,fun _=>[]⟩,⟨fun ξ108=>.slice (some ⟨(ξ108 7 0).2.1,0,none⟩) 1 1,fun _=>noR,fun ξ108=>[aO (some ⟨(ξ108 7 0).2.1,0,none⟩) 1 90 2 1 (encL TClaim_cells2 [(((rdL g f.1).1.1,(rdL p1.fC f.1).fO.length,(rdL g f.1).1.2.2),(TC.mk ((rdL p1.fC f.1).fID) ((rdL p1.fC f.1).fO)))])]⟩,⟨fun ξ108=>.slice (ξ108 8 0).1 (f.2.1.length+1) (ξ108 8 0).2.2.1,fun ξ108=>aO (ξ108 8 0).1 (ξ108 8 0).2.2.1 90 2 (f.2.1.length+1) (encL TClaim_cells2 (S++[(((rdL g f.1).1.1,(rdL p1.fC f.1).fO.length,(rdL g f.1).1.2.2),(TC.mk ((rdL p1.fC f.1).fID) ((rdL p1.fC f.1).fO)))])),fun _=>[]⟩,⟨fun _=>.pointer (some ⟨(ξ68 9 0).2.1,0+1,none⟩),fun _=>noR,fun _=>[]⟩,⟨fun _=>undef,fun ξ108=>aj (ξ68 9 0).2.1 25 [.slice I fN.2.1.length K,.slice (ξ108 8 0).1 (f.2.1.length+1) (ξ108 8 0).2.2.1],fun _=>[]⟩] 10 cD (by kernel_rfl) (by kernel_rfl) ⟨⟨fun ξ108 ξ108' h=>⟨O,O,O⟩,fun _=>O⟩,⟨fun ξ108 ξ108' h=>⟨O,O,O⟩,fun _=>O⟩,⟨fun ξ108 ξ108' h=>⟨O,O,O⟩,fun _=>O⟩,⟨fun ξ108 ξ108' h=>⟨O,O,O⟩,fun _=>O⟩,⟨fun ξ108 ξ108' h=>⟨O,O,O⟩,fun _=>O⟩,⟨fun ξ108 ξ108' h=>⟨O,O,O⟩,fun _=>O⟩,⟨fun ξ108 ξ108' h=>⟨O,O,O⟩,fun _=>O⟩,⟨fun ξ108 ξ108' h=>⟨by simp only[h 7 (.inl O)],O,by simp only[h 7 (.inl O)]⟩,fun _=>O⟩,⟨fun ξ108 ξ108' h=>⟨by simp only[h 8 (.inl O)],by simp only[h 8 (.inl O)],O⟩,fun _=>O⟩,⟨fun ξ108 ξ108' h=>⟨O,O,O⟩,fun _=>O⟩,⟨fun ξ108 ξ108' h=>⟨O,by simp only[h 8 (.inr O)],O⟩,fun _=>O⟩,trivial⟩ O (fun ξ108=>?_)
        refine cf O (fun L2=>?_) ?_
        ·dsimp only[aA,lca,lna]
         refine oY O (yFA aD O) (oN ?_)
         exact al (fun _=>(none,0,0,[],noR)) O (List.append_nil _)
        dsimp only[bG,lsz,lss,lna,lca,List.append_nil]
        refine cf O (fun L2=>?_) ?_
        ·dsimp only[aA,lca,lna]
         refine oY O (yL 5 bT O O O) (oN ?_)
         exact al (fun _=>(none,0,0,[],noR)) O (List.append_nil _)
        dsimp only[bG,lsz,lss,lna,lca,List.append_nil]
        refine cf O (fun L2=>?_) ?_
        ·dsimp only[aA,lca,lna]
         refine oY O (yFA aD O) (oN ?_)
         exact al (fun _=>(none,0,0,[],noR)) O (List.append_nil _)
        dsimp only[bG,lsz,lss,lna,lca,List.append_nil]
        refine cf O (fun L2=>?_) ?_
        ·dsimp only[aA,lca,lna]
         refine oY O (yL 1 bT O O O) (oN ?_)
         exact al (fun _=>(none,0,0,[],noR)) O (List.append_nil _)
        dsimp only[bG,lsz,lss,lna,lca,List.append_nil]
        refine cf O (fun L2=>?_) ?_
        ·dsimp only[aA,lca,lna]
         refine oY O (yMI O) (oN ?_)
         exact al (fun _=>(none,0,0,[],noR)) O (List.append_nil _)
        dsimp only[bG,lsz,lss,lna,lca,List.append_nil]
        refine cf O (fun L2=>?_) ?_
        ·dsimp only[aA,lca,lna]
         refine oY O (yI dY (by decide) l.1 l.2 (RdL.arg N) (eL aa (NestP.hn d.p O)) O O) ?_
         refine oN ?_
         exact al (fun _=>(none,0,0,[],noR)) O (List.append_nil _)
        dsimp only[bG,lsz,lss,lna,lca,List.append_nil]
        refine cf O (fun L2=>?_) ?_
        ·dsimp only[aA,lca,lna]
         refine oY O (yM (A:=E) (j:=(Int.toNat f.1*2)) [vI ((rdL p1.fC f.1).fID),.slice ((rdL g f.1).1.1) ((rdL p1.fC f.1).fO.length) ((rdL g f.1).1.2.2)] lX (Nat.succ_pos _) (RdL.arg N) O (iL (a6 (NestP.snd d.p f.1) (NestP.len d.p l.1 (ao l.2 O))).symm (aM aa l.1 (ao l.2 (NestP.hn d.p O))))) (oN ?_)
         exact al (fun _=>(none,0,0,[],noR)) O (List.append_nil _)
        dsimp only[bG,lsz,lss,lna,lca,List.append_nil]
        refine cf O (fun L2=>?_) ?_
        ·dsimp only[aA,lca,lna]
         refine ap 1 (encL TClaim_cells2 [(((rdL g f.1).1.1,(rdL p1.fC f.1).fO.length,(rdL g f.1).1.2.2),(TC.mk ((rdL p1.fC f.1).fID) ((rdL p1.fC f.1).fO)))]) _ oW dQ gR l8 (by decide) (by decide) (by kernel_rfl) (eL aa O) O (fun wi=>?_)
         refine oN ?_
         exact al (fun _=>(none,wi,0,[],noR)) O O
        dsimp only[bG,lsz,lss,lna,lca,List.append_nil]
        refine cf O (fun L2=>?_) ?_
        ·dsimp only[aA,lca,lna]
         refine bg 4 dQ gR l8 O O O (RdL.row 10 O) (eL aa (NestP.hn (NestP.cons (sel:=(fun z:TC=>z.fO)) O NestP.nil) O)) (cg bU _) (cp uy (by decide)) O (fun un um=>?_)
         refine oN ?_
         first|exact al (fun _=>(un,0,um,[],noR)) O O|exact al (fun _=>(un,0,um,[],noR)) O (List.append_nil _)
        dsimp only[bG,lsz,lss,lna,lca,List.append_nil]
        refine cf O (fun L2=>?_) ?_
        ·dsimp only[aA,lca,lna]
         refine oY O (yFA aD O) (oN ?_)
         exact al (fun _=>(none,0,0,[],noR)) O (List.append_nil _)
        dsimp only[bG,lsz,lss,lna,lca,List.append_nil]
        refine gx_n O (fun L2=>?_) ?_
        ·dsimp only[aA,lca,lna]
         refine cr O (cn 5 (v:=.slice (ξ108 8 0).1 (f.2.1.length+1) (ξ108 8 0).2.2.1) sz_23 O (Nat.lt_of_lt_of_le (Nat.lt_succ_self _) (nB O)) O O O) (oN ?_)
         first|exact bK (fun _=>(none,0,0,[],noR)) O|exact bK (fun _=>(none,0,0,[],noR)) (List.append_nil _)
        dsimp only[bG,lsz,lss,lna,lca,List.append_nil]
        refine lK (eT (aK (ah (ag (eT (cR ?_))))))
        try dsimp only[lna,lca,lsz,lss]
        refine oY O (yMI O) (oY O (bc O O) (oY O (yAI O) (oN (aS 10 ?_))))
        obtain rfl:=sI h
        exact eN ⟨_,(ξ108 8 0).1,(ξ108 8 0).2.2.1,(f.2.1.length+1),(S++[(((rdL g f.1).1.1,(rdL p1.fC f.1).fO.length,(rdL g f.1).1.2.2),(TC.mk ((rdL p1.fC f.1).fID) ((rdL p1.fC f.1).fO)))]),F4_s101,(fD O O),(NestP.app k (NestP.cons (sel:=(fun z:TC=>z.fO)) O NestP.nil)),(PvL.app y (PvL.mono (Hb:=Hb) (PvL.cons (PvL.get uM d.p l.1 (ao l.2 O)) PvL.nil) (fun _ _ h=>h.1))),O,(kp4 (kp (kp O)))⟩
       ·refine cF (vB u4) (cK (eT (cS ?_)))
        refine aU 14 cD (by kernel_rfl) (by kernel_rfl) ?_
        refine qY O (yFA aD O) (qY O (yL 0 bT O O O) (qY O (yMI O) ?_))
        obtain⟨t,h⟩:=gOs h
        refine qY O (yI dY (by decide) t.1 t.2 (RdL.arg Y) (eL aa (NestP.hn F.p O)) O O) ?_
        refine qY O (yFR (A:=Ab) (j:=(Int.toNat Z*2)) bQ O) (qY O (yR (A:=Ab) (j:=((Int.toNat Z*2)+1)) (v:=.slice ((rdL r Z).1.1) ((rdL p0.fC Z).fO.length) ((rdL r Z).1.2.2)) gL (RdL.arg Y) O (eG aa t.1 (ao t.2 (NestP.hn F.p O)) (congrArg (fun n:Nat=>some (Value.slice (rdL r Z).1.1 n (rdL r Z).1.2.2)) (NestP.len F.p t.1 (ao t.2 O))))) (qY O (yFA aD O) (qY O (yL 1 bT O O O) (qY O (yMI O) ?_))))
        obtain⟨a,h⟩:=gOs h
        refine qY O (yI dY (by decide) a.1 a.2 (RdL.arg N) (eL aa (NestP.hn d.p O)) O O) ?_
        refine qY O (yFR (A:=E) (j:=(Int.toNat f.1*2)) bQ O) (qY O (yR (A:=E) (j:=((Int.toNat f.1*2)+1)) (v:=.slice ((rdL g f.1).1.1) ((rdL p1.fC f.1).fO.length) ((rdL g f.1).1.2.2)) gL (RdL.arg N) O (eG aa a.1 (ao a.2 (NestP.hn d.p O)) (congrArg (fun n:Nat=>some (Value.slice (rdL g f.1).1.1 n (rdL g f.1).1.2.2)) (NestP.len d.p a.1 (ao a.2 O))))) ?_)
        obtain⟨wj,ub,h⟩:=bOs h
        refine qY O (yC [.slice ((rdL r Z).1.1) ((rdL p0.fC Z).fO.length) ((rdL r Z).1.2.2),.slice ((rdL g f.1).1.1) ((rdL p1.fC f.1).fO.length) ((rdL g f.1).1.2.2)] go_116 O (fun W2 o=>jj ((rdL p0.fC Z).fO) ((rdL p1.fC f.1).fO) wj ub W2 ((rdL r Z).1.1) ((rdL p0.fC Z).fO.length) ((rdL r Z).1.2.2) O ((NestL.rd (NestL.arg F) t.1 (ao t.2 O)) W2 o) ((rdL g f.1).1.1) ((rdL p1.fC f.1).fO.length) ((rdL g f.1).1.2.2) O ((NestL.rd (NestL.arg d) a.1 (ao a.2 O)) W2 o)) O) (qY O (yAB O) (ck (oN (eT (cS (cR (oY O (yMB O) (oY O (fe O) (oN (eT ?_))))))))))
        rcases iOs h with⟨u5,h⟩|⟨u5,h⟩
        ·refine cT (vB u5) (cS (cR ?_))
         refine oY O (aI [.slice none 0 0,.slice none 0 0,vI 9] [(0,2),(2,1)] iJ jk (by kernel_rfl)) ?_
         refine cr O (yS 2 [.slice none 0 0,.slice none 0 0,vI 9] kZ O (nB O) O O O) (oN (eT (ak (ai (ab ?_)))))
         obtain rfl:=sI h
         exact ay ⟨O,_,f3,f4,f.2.1.length,S,F4_s101,O,k,y,O,(kp4 (kp (kp O)))⟩
        ·refine cF (vB u5) (cK (aq (eT (cR (oY O (yMI O) (oY O (bc O O) (oY O (yAI O) (oN ?_))))))))
         obtain rfl:=sI h
         exact eN ⟨_,f3,f4,f.2.1.length,S,F4_s101,O,k,y,O,(kp4 (kp (kp O)))⟩
      ·refine cF (vB u3) (aK (ah ?_))
       obtain rfl:=sI h
       exact ay ⟨O,_,f3,f4,f.2.1.length,S,F4_s101,O,k,y,O,(kp4 (kp (kp O)))⟩
     ·intro e L tm hJ
      rcases wa with wk|fr
      ·dsimp only at h hJ
       obtain⟨rfl,d3,wx,wy,wc,d4,F4_u120,rfl,dd,dy,rfl,rfl⟩:=hJ
       refine⟨(by intro hc;cases hc),?_⟩
       refine ai (ab ?_)
       obtain rfl:=sI h
       exact am (.inl O) O (aH 2 [.slice none 0 0,.slice none 0 0,vI wk.2.2] mg O O O) (fun W2 o=>⟨((none,0,0),(none,0,0),([]:List (Hd × TC)),noR),⟨O,O,NestP.nil,(PvL.mono (Hb:=Hb) PvL.nil (fun _ _ h=>h.1))⟩,O,o.pickL [6,7,9] (by decide) O⟩)
      ·dsimp only at h hJ
       obtain⟨rfl,w0,Q,U,D0,om,F4_u121,rfl,ot,oa,rfl,rfl⟩:=hJ
       refine⟨(by intro hc;cases hc),?_⟩
       refine ag (eT (cS (cR (oY O (yN 5 [.slice I fN.2.1.length K,.slice Q fr.2.1.length U] aF O O O) ?_))))
       obtain⟨uw,uc,h⟩:=bOs h
       refine oY O (yC [.agg #[.slice I fN.2.1.length K,.slice Q fr.2.1.length U]] go_66 O (fun W2 o=>fF (TL.mk fN.2.1 fr.2.1) uw uc W2 I fN.2.1.length K O ((RdL.row 3 O) W2 o) Q fr.2.1.length U om O ((RdL.row 4 O) W2 o) (NestL.at (PvL.nestL ot oa (fun W2 o=>⟨(hB W2 o.below).1,(hB W2 o.below).2,o.mem (i:=8) O⟩)) W2 o)) O) (oY O (yAI O) (oN (eT (cS (cS (cR (oY O (yMI O) (oY O (dD O O) (oN (eT ?_))))))))))
       rcases iOs h with⟨u6,h⟩|⟨u6,h⟩
       ·refine cT (vB u6) (cS (cR (oY O (yMI O) ?_)))
        refine oY O (aI [.slice none 0 0,.slice none 0 0,vI uw] [(0,2),(2,1)] iJ jk (by kernel_rfl)) ?_
        refine cr O (yS 2 [.slice none 0 0,.slice none 0 0,vI uw] kZ O (nB O) O O O) (oN (eT (ak (ab ?_))))
        obtain rfl:=sI h
        exact am (.inl O) O (aH 2 [.slice none 0 0,.slice none 0 0,vI uw] mg O O O) (fun W2 o=>⟨((none,0,0),(none,0,0),[],noR),⟨O,O,NestP.nil,PvL.nil⟩,O,((o.nilrow 97 3).nilrow 90 2).addNo.pickL [10,11,12] (by decide) O⟩)
       ·refine cF (vB u6) (cK (eT (cS (cR (oY O (yN 5 [.slice I fN.2.1.length K,.slice Q fr.2.1.length U] aF O O O) ?_)))))
        refine oY O (aI [.slice I fN.2.1.length K,.slice Q fr.2.1.length U,vI 0] [(0,2),(2,1)] iJ jk (by kernel_rfl)) ?_
        refine cr O (yS 2 [.slice I fN.2.1.length K,.slice Q fr.2.1.length U,vI 0] kZ O (nB O) O O O) (oN (eT (ak ?_)))
        obtain rfl:=sI h
        exact am (.inl O) O (aH 2 [.slice I fN.2.1.length K,.slice Q fr.2.1.length U,vI 0] mg O O O) (fun W2 o=>⟨((I,fN.2.1.length,K),(Q,fr.2.1.length,U),om,F4_u121),⟨O,O,ot,oa⟩,O,o.pickL [3,4,8] (by decide) O⟩)
end Go.Proofs.YtbblpokfbmekfaaGreat
set_option maxHeartbeats 4000000
set_option maxRecDepth 100000
namespace Go.Proofs.YtbblpokfbmekfaaGreat
open Go.RowKit (Below)
attribute [local irreducible] OX QX CX EX OpY Calls CallsIn
theorem eQ (p0:TL) (p1:TL) (res:Bool) (h:cx p0 p1=some res) (W:World) (Aa:Option Addr) (Y ca:Nat) (i:Y=p0.fNo.length) (Z:Rd W Aa Y ca (encL TNode_cells p0.fNo)) (Ab:Option Addr) (V cb:Nat) (g:List (Hd × TC)) (k:V=p0.fC.length) (H:Rd W Ab V cb (encL TClaim_cells2 g)) (u:NestW W (fun z:TC=>z.fO) THop_cells g p0.fC) (Ac:Option Addr) (T cc:Nat) (x:T=p1.fNo.length) (S:Rd W Ac T cc (encL TNode_cells p1.fNo)) (w:Option Addr) (R M:Nat) (o:List (Hd × TC)) (y:R=p1.fC.length) (I:Rd W w R M (encL TClaim_cells2 o)) (d:NestW W (fun z:TC=>z.fO) THop_cells o p1.fC) :
  Calls Tryz.prog 58 [.agg #[.slice Aa Y ca,.slice Ab V cb],.agg #[.slice Ac T cc,.slice w R M]].toArray W fun e W2=>e=.returned (.bool res)∧Ext W W2 []:=by
 subst i
 subst k
 subst x
 subst y
 unfold cx at h
 refine ae (m:=79) Tryz.func58 O O (nB O) (cS (cR ?_))
 refine aP [.slice Aa p0.fNo.length ca,.slice Ab p0.fC.length cb] O O O (fun b1=>?_)
 refine aP [.slice Ac p1.fNo.length cc,.slice w p1.fC.length M] O O O (fun b2=>?_)
 refine oY O (yAB O) (oN (eT (cS (cS (cR (oY O (yFA aY O) (oY O (yL 0 dK O O O) (oY O (bd (us:=[]) gE O) (oY O (yFA aY O) (oY O (yL 1 dK O O O) (oY O (bd (us:=[]) gE O) (oY O (dD O O) (oY O (yMB O) ?_)))))))))))))
 refine oJ 8 (fun K=>(upd (upd (upd (upd K 2 (.pointer (some ⟨b1,0,none⟩))) 3 (.pointer (some ⟨b2,0,none⟩))) 4 (.bool false)) 23 (.bool (((p0.fNo.length:Int) !=(p1.fNo.length:Int))||((p0.fC.length:Int) !=(p1.fC.length:Int)))))) (fun K=>?_) (fun key=>?_)
 ·refine oN (eT ?_)
  rcases iOs h with⟨c,h⟩|⟨c,h⟩
  ·refine cT (vB c) (cS (cR (oY O (yAB O) (oN (eT (ak (ab ?_)))))))
   obtain rfl:=sI h
   exact am (.inl O) O (rVt (v:=.bool false) O) (fun W2 G=>⟨O,G.none⟩)
  ·refine cF (vB c) (cK (eT (cS (cS (cR (oY O (yAI O) (oN (eT (cB ?_)))))))))
   obtain⟨u7,f4,h⟩:=bOs h
   refine bW (fun(s:(Bool × Int)) L tm=>∃(K:Nat→Value),L=[aj b1 25 [.slice Aa p0.fNo.length ca,.slice Ab p0.fC.length cb],aj b2 25 [.slice Ac p1.fNo.length cc,.slice w p1.fC.length M]]∧tm=(upd (upd (upd (upd K 2 (.pointer (some ⟨b1,0,none⟩))) 3 (.pointer (some ⟨b2,0,none⟩))) 4 (.bool s.1)) 5 (vI s.2))) 0 f4 ⟨_,O,(kp4 O)⟩ ?_ ?_
   ·rintro N L tm st ⟨g2,rfl,rfl⟩ h
    unfold cP at h
    refine cS (cS (cR (oY O (yMI O) (oY O (yFA aY O) (oY O (yL 0 dK O O O) (oY O (bd (us:=[]) gE O) (oY O (bA O O) (oN (eT ?_)))))))))
    rcases iOs h with⟨f0,h⟩|⟨f0,h⟩
    ·refine cT (vB f0) (cK (eT (cS (cB (cS ?_)))))
     refine aU 11 cD (by kernel_rfl) (by kernel_rfl) ?_
     refine qY O (yFA aY O) (qY O (yL 0 dK O O O) (qY O (yMI O) ?_))
     obtain⟨a,h⟩:=gOs h
     refine qY O (yI jL (by decide) a.1 a.2 (RdL.arg Z) (eL ad O) O O) ?_
     refine qY O (yM (A:=Aa) (j:=(Int.toNat N.2*3)) [vI ((rdL p0.fNo N.2).fID),vI ((rdL p0.fNo N.2).fLevel),vI ((rdL p0.fNo N.2).fCost)] mr (Nat.succ_pos _) (RdL.arg Z) O (aM ad a.1 (ao a.2 O))) (qY O (yFA aY O) (qY O (yL 1 dK O O O) (qY O (yMI O) ?_)))
     obtain⟨Q,h⟩:=gOs h
     refine qY O (yI jL (by decide) Q.1 Q.2 (RdL.arg S) (eL ad O) O O) ?_
     refine qY O (yM (A:=Ac) (j:=(Int.toNat N.2*3)) [vI ((rdL p1.fNo N.2).fID),vI ((rdL p1.fNo N.2).fLevel),vI ((rdL p1.fNo N.2).fCost)] mr (Nat.succ_pos _) (RdL.arg S) O (aM ad Q.1 (ao Q.2 O))) (qY O (ru (b:=(((rdL p0.fNo N.2).fID==(rdL p1.fNo N.2).fID)&&(((rdL p0.fNo N.2).fLevel==(rdL p1.fNo N.2).fLevel)&&((rdL p0.fNo N.2).fCost==(rdL p1.fNo N.2).fCost)))) eg_97 O O (fun _=>(eqS3 fl_97 (ep bN O) (ep bN O) (ep bN O) (ep bN O) (ep bN O) (ep bN O) (run_equalIn_int _ _ _ _ _ _ _ pQ) (run_equalIn_int _ _ _ _ _ _ _ pQ) (run_equalIn_int _ _ _ _ _ _ _ pQ)))) (ck (oN (eT ?_))))
     rcases iOs h with⟨q,h⟩|⟨q,h⟩
     ·refine cT (vB q) (cS (cR (oY O (yAB O) (oN (eT (ak (ai (ab ?_))))))))
      obtain rfl:=sI h
      exact ay ⟨O,_,O,(kp4 O)⟩
     ·refine cF (vB q) (cK (aq (eT (cR (oY O (yMI O) (oY O (bc O O) (oY O (yAI O) (oN ?_))))))))
      obtain rfl:=sI h
      exact eN ⟨_,O,(kp4 O)⟩
    ·refine cF (vB f0) (aK (ah ?_))
     obtain rfl:=sI h
     exact ay ⟨O,_,O,(kp4 O)⟩
   ·intro e L tm hJ
    rcases u7 with g3|o2
    ·dsimp only at h hJ
     obtain⟨rfl,fr,rfl,rfl⟩:=hJ
     refine⟨(by intro hc;cases hc),?_⟩
     refine ai (ab ?_)
     obtain rfl:=sI h
     exact am (.inl O) O (rVt (v:=.bool g3.1) O) (fun W2 G=>⟨O,G.none⟩)
    ·dsimp only at h hJ
     obtain⟨rfl,fd,rfl,rfl⟩:=hJ
     refine⟨(by intro hc;cases hc),?_⟩
     refine ag (eT (cS (cS (cR (oY O (yAI O) (oN (eT (cB ?_))))))))
     obtain⟨gf,fE,h⟩:=bOs h
     refine bW (fun(s:(Bool × Int)) L tm=>∃(K:Nat→Value),L=[aj b1 25 [.slice Aa p0.fNo.length ca,.slice Ab p0.fC.length cb],aj b2 25 [.slice Ac p1.fNo.length cc,.slice w p1.fC.length M]]∧tm=(upd (upd (upd (upd K 2 (.pointer (some ⟨b1,0,none⟩))) 3 (.pointer (some ⟨b2,0,none⟩))) 4 (.bool s.1)) 6 (vI s.2))) 2 fE ⟨_,O,(kp4 O)⟩ ?_ ?_
     ·rintro f L tm st ⟨fN,rfl,rfl⟩ h
      unfold cO at h
      refine cS (cS (cR (oY O (yMI O) (oY O (yFA aD O) (oY O (yL 0 bT O O O) (oY O (bd (us:=[]) dQ O) (oY O (bA O O) (oN (eT ?_)))))))))
      rcases iOs h with⟨l,h⟩|⟨l,h⟩
      ·refine cT (vB l) (cK (eT (cS (cB (cS ?_)))))
       refine aU 14 cD (by kernel_rfl) (by kernel_rfl) ?_
       refine qY O (yFA aD O) (qY O (yL 0 bT O O O) (qY O (yMI O) ?_))
       obtain⟨E,h⟩:=gOs h
       refine qY O (yI dY (by decide) E.1 E.2 (RdL.arg H) (eL aa (NestP.hn u.p O)) O O) ?_
       refine qY O (yFR (A:=Ab) (j:=(Int.toNat f.2*2)) bQ O) (qY O (yR (A:=Ab) (j:=((Int.toNat f.2*2)+1)) (v:=.slice ((rdL g f.2).1.1) ((rdL p0.fC f.2).fO.length) ((rdL g f.2).1.2.2)) gL (RdL.arg H) O (eG aa E.1 (ao E.2 (NestP.hn u.p O)) (congrArg (fun n:Nat=>some (Value.slice (rdL g f.2).1.1 n (rdL g f.2).1.2.2)) (NestP.len u.p E.1 (ao E.2 O))))) (qY O (yFA aD O) (qY O (yL 1 bT O O O) (qY O (yMI O) ?_))))
       obtain⟨F,h⟩:=gOs h
       refine qY O (yI dY (by decide) F.1 F.2 (RdL.arg I) (eL aa (NestP.hn d.p O)) O O) ?_
       refine qY O (yFR (A:=w) (j:=(Int.toNat f.2*2)) bQ O) (qY O (yR (A:=w) (j:=((Int.toNat f.2*2)+1)) (v:=.slice ((rdL o f.2).1.1) ((rdL p1.fC f.2).fO.length) ((rdL o f.2).1.2.2)) gL (RdL.arg I) O (eG aa F.1 (ao F.2 (NestP.hn d.p O)) (congrArg (fun n:Nat=>some (Value.slice (rdL o f.2).1.1 n (rdL o f.2).1.2.2)) (NestP.len d.p F.1 (ao F.2 O))))) ?_)
       obtain⟨f1,fn,h⟩:=bOs h
       refine qY O (yC [.slice ((rdL g f.2).1.1) ((rdL p0.fC f.2).fO.length) ((rdL g f.2).1.2.2),.slice ((rdL o f.2).1.1) ((rdL p1.fC f.2).fO.length) ((rdL o f.2).1.2.2)] go_116 O (fun W2 G=>jj ((rdL p0.fC f.2).fO) ((rdL p1.fC f.2).fO) f1 fn W2 ((rdL g f.2).1.1) ((rdL p0.fC f.2).fO.length) ((rdL g f.2).1.2.2) O ((NestL.rd (NestL.arg u) E.1 (ao E.2 O)) W2 G) ((rdL o f.2).1.1) ((rdL p1.fC f.2).fO.length) ((rdL o f.2).1.2.2) O ((NestL.rd (NestL.arg d) F.1 (ao F.2 O)) W2 G)) O) (qY O (yAB O) (ck (oN (eT (cS ?_)))))
       refine aU 17 cD (by kernel_rfl) (by kernel_rfl) ?_
       refine qY O (yFA aD O) (qY O (yL 0 bT O O O) (qY O (yMI O) ?_))
       obtain⟨U,h⟩:=gOs h
       refine qY O (yI dY (by decide) U.1 U.2 (RdL.arg H) (eL aa (NestP.hn u.p O)) O O) ?_
       refine qY O (yFR (A:=Ab) (j:=(Int.toNat f.2*2)) fh O) (qY O (yR (A:=Ab) (j:=((Int.toNat f.2*2)+0)) (v:=vI ((rdL p0.fC f.2).fID)) bN (RdL.arg H) O (eG aa U.1 (ao U.2 (NestP.hn u.p O)) (congrArg (fun z:TC=>some (Value.int .i64 z.fID)) (NestP.snd u.p f.2)))) (qY O (yFA aD O) (qY O (yL 1 bT O O O) (qY O (yMI O) ?_))))
       obtain⟨X,h⟩:=gOs h
       refine qY O (yI dY (by decide) X.1 X.2 (RdL.arg I) (eL aa (NestP.hn d.p O)) O O) ?_
       refine qY O (yFR (A:=w) (j:=(Int.toNat f.2*2)) fh O) (qY O (yR (A:=w) (j:=((Int.toNat f.2*2)+0)) (v:=vI ((rdL p1.fC f.2).fID)) bN (RdL.arg I) O (eG aa X.1 (ao X.2 (NestP.hn d.p O)) (congrArg (fun z:TC=>some (Value.int .i64 z.fID)) (NestP.snd d.p f.2)))) (qY O (dD O O) (qY O (yMB O) ?_)))
       refine qJ 3 (fun K=>(upd (upd (upd (upd (upd (upd (upd K 2 (.pointer (some ⟨b1,0,none⟩))) 3 (.pointer (some ⟨b2,0,none⟩))) 4 (.bool f.1)) 6 (vI f.2)) 46 (.bool (decide (f.2<(p0.fC.length:Int))))) 7 (.bool f1)) 78 (.bool ((((rdL p0.fC f.2).fID) !=((rdL p1.fC f.2).fID))||(!f1))))) (fun K=>?_) (fun key=>?_)
       ·refine ck (oN (eT ?_))
        rcases iOs h with⟨t,h⟩|⟨t,h⟩
        ·refine cT (vB t) (cS (cR (oY O (yAB O) (oN (eT (ak (ai (ab ?_))))))))
         obtain rfl:=sI h
         exact ay ⟨O,_,O,(kp4 O)⟩
        ·refine cF (vB t) (cK (aq (eT (cR (oY O (yMI O) (oY O (bc O O) (oY O (yAI O) (oN ?_))))))))
         obtain rfl:=sI h
         exact eN ⟨_,O,(kp4 O)⟩
       ·rcases aB (((rdL p0.fC f.2).fID) !=((rdL p1.fC f.2).fID))with D|D
        ·refine ar (sF O O O O D) (ar (sF O O O O D) (qY O (aw (vB D) O) ?_))
         exact key _ _ (keep (keep (keep (keep (keep (keep (keep O O) O) O) O) O) O) (vB (rf D)))
        ·refine qY (sT O O O O D) (yMB O) (qY (sT O O O O D) (fe O) (qY O (av (vB D) O) ?_))
         exact key _ _ (keep (keep (keep (keep (keep (keep (keep O O) O) O) O) O) O) (vB (re D)))
      ·refine cF (vB l) (aK (ah ?_))
       obtain rfl:=sI h
       exact ay ⟨O,_,O,(kp4 O)⟩
     ·intro e L tm hJ
      rcases gf with o0|oq
      ·dsimp only at h hJ
       obtain⟨rfl,fl,rfl,rfl⟩:=hJ
       refine⟨(by intro hc;cases hc),?_⟩
       refine ai (ab ?_)
       obtain rfl:=sI h
       exact am (.inl O) O (rVt (v:=.bool o0.1) O) (fun W2 G=>⟨O,G.none⟩)
      ·dsimp only at h hJ
       obtain⟨rfl,g1,rfl,rfl⟩:=hJ
       refine⟨(by intro hc;cases hc),?_⟩
       refine ag (eT (cS (cR (oY O (yAB O) (oN (eT (ak ?_)))))))
       obtain rfl:=sI h
       exact am (.inl O) O (rVt (v:=.bool true) O) (fun W2 G=>⟨O,G.none⟩)
 ·rcases aB ((p0.fNo.length:Int) !=(p1.fNo.length:Int))with r|r
  ·refine oSk (sF O O O O r) (oSk (sF O O O O r) (oSk (sF O O O O r) (oSk (sF O O O O r) (oSk (sF O O O O r) (oSk (sF O O O O r) (oSk (sF O O O O r) (oY O (aw (vB r) O) ?_)))))))
   exact key _ _ (keep (keep (keep (keep O O) O) O) (vB (rf r)))
  ·refine oY (sT O O O O r) (yFA aD O) (oY (sT O O O O r) (yL 0 bT O O O) (oY (sT O O O O r) (bd (us:=[]) dQ O) (oY (sT O O O O r) (yFA aD O) (oY (sT O O O O r) (yL 1 bT O O O) (oY (sT O O O O r) (bd (us:=[]) dQ O) (oY (sT O O O O r) (dD O O) (oY O (av (vB r) O) ?_)))))))
   exact key _ _ (keep (keep (keep (keep O O) O) O) (vB (re r)))
theorem calxlaw09_RecallOthers_ok (p0:TL) (p1:TL) (p2:Int) (p3:Int) (p4:(List Int)) (res:Bool) (h:dU p0 p1 p2 p3 p4=some res) (W:World) (Aa:Option Addr) (oj ca:Nat) (uN:oj=p0.fNo.length) (F:Rd W Aa oj ca (encL TNode_cells p0.fNo)) (Ab:Option Addr) (ok cb:Nat) (H:List (Hd × TC)) (uO:ok=p0.fC.length) (Y:Rd W Ab ok cb (encL TClaim_cells2 H)) (g:NestW W (fun z:TC=>z.fO) THop_cells H p0.fC) (Ac:Option Addr) (r0 cc:Nat) (uQ:r0=p1.fNo.length) (y:Rd W Ac r0 cc (encL TNode_cells p1.fNo)) (V:Option Addr) (r1 T:Nat) (l:List (Hd × TC)) (uU:r1=p1.fC.length) (b:Rd W V r1 T (encL TClaim_cells2 l)) (t:NestW W (fun z:TC=>z.fO) THop_cells l p1.fC) (p:Option Addr) (r2 n:Nat) (uX:r2=p4.length) (r3:Rd W p r2 n (encL cI p4)) :
  Calls Tryz.prog 12 [.agg #[.slice Aa oj ca,.slice Ab ok cb],.agg #[.slice Ac r0 cc,.slice V r1 T],vI p2,vI p3,.slice p r2 n].toArray W fun e W2=>e=.returned (.bool res)∧Ext W W2 []:=by
 subst uN
 subst uO
 subst uQ
 subst uU
 subst uX
 unfold dU at h
 refine ae (m:=130) Tryz.func12 O O (nB O) (cS (cR ?_))
 refine aP [.slice Aa p0.fNo.length ca,.slice Ab p0.fC.length cb] O O O (fun b1=>?_)
 refine aP [.slice Ac p1.fNo.length cc,.slice V p1.fC.length T] O O O (fun b2=>?_)
 refine oY O (yAB O) (oN (eT (cS (cR ?_))))
 obtain⟨x,wS,h⟩:=bOs h
 refine oY O (yC [] go_13 O (fun W2 f=>oS  x wS W2 ) O) (oY O (yAB O) (oN (eT (cS (cS (cR (oY O (yN 0 [.slice Aa p0.fNo.length ca,.slice Ab p0.fC.length cb] aF O O O) ?_)))))))
 obtain⟨y5,wR,h⟩:=bOs h
 refine oY O (yC [.agg #[.slice Aa p0.fNo.length ca,.slice Ab p0.fC.length cb]] go_14 O (fun W2 f=>ml p0 y5 wR W2 Aa p0.fNo.length ca O ((RdL.arg F) W2 f) Ab p0.fC.length cb H O ((RdL.arg Y) W2 f) (NestL.at (NestL.arg g) W2 f)) O) (oY O (fe O) (oY O (yMB O) ?_))
 obtain⟨b8,wp,h⟩:=bOs h
 refine oJ 4 (fun r=>(upd (upd (upd (upd (upd (upd (upd (upd r 2 (vI p2)) 3 (vI p3)) 4 (.slice p p4.length n)) 5 (.pointer (some ⟨b1,0,none⟩))) 6 (.pointer (some ⟨b2,0,none⟩))) 10 (.bool false)) 11 (.bool x)) 33 (.bool b8))) (fun r=>?_) (fun key=>?_)
 ·refine oY O (yMB O) ?_
  refine oJ 4 (fun r=>(upd (upd (upd (upd (upd (upd (upd (upd r 2 (vI p2)) 3 (vI p3)) 4 (.slice p p4.length n)) 5 (.pointer (some ⟨b1,0,none⟩))) 6 (.pointer (some ⟨b2,0,none⟩))) 10 (.bool false)) 11 (.bool x)) 38 (.bool (b8||(decide (100<(p4.length:Int))))))) (fun r=>?_) (fun key=>?_)
  ·refine oN (eT ?_)
   rcases iOs h with⟨r4,h⟩|⟨r4,h⟩
   ·refine cT (vB r4) (cS (cR (oY O (yMB O) (oY O (yAB O) (oN (eT (ak (ab ?_))))))))
    obtain rfl:=sI h
    exact am (.inl O) O (rVt (v:=.bool x) O) (fun W2 f=>⟨O,f.none⟩)
   ·refine cF (vB r4) (cK (eT (cS (cR (oY O (yN 0 [.slice Aa p0.fNo.length ca,.slice Ab p0.fC.length cb] aF O O O) (oY O (yMI O) (oY O (yMI O) ?_)))))))
    obtain⟨G,d4,h⟩:=bOs h
    refine oC [.agg #[.slice Aa p0.fNo.length ca,.slice Ab p0.fC.length cb],vI p2,vI p3] _ _ _ O go_50 O (fun W2 f=>q5 p0 p2 p3 G d4 W2 Aa p0.fNo.length ca O ((RdL.arg F) W2 f) Ab p0.fC.length cb H O ((RdL.arg Y) W2 f) (NestL.at (NestL.arg g) W2 f) W (fun _=>True) (fun W3 hb=>⟨fy f.below hb,trivial⟩) (PvL.of_nest g)) ?_
    rintro⟨⟨u7,wn,u8⟩,⟨u9,wm,uf⟩,dd,F28⟩ ⟨rd,rx,dy,w0⟩
    replace rd:wn=G.1.fNo.length:=rd;subst rd
    replace rx:wm=G.1.fC.length:=rx;subst rx
    refine oY O (aZ O) (oY O (yE O O) (oY O (yE O O) ?_))
    refine aC ft O (fun wb=>?_)
    try dsimp only[lna,lca,lsz,lss]
    refine cr O (yS 5 [.slice u7 G.1.fNo.length u8,.slice u9 G.1.fC.length uf] gN O (nB O) O O O) (oY O (yAI O) (oN (eT (cS (cR (oY O (yN 0 [.slice Aa p0.fNo.length ca,.slice Ab p0.fC.length cb] aF O O O) (oY O (yMI O) (oY O (yMI O) ?_))))))))
    obtain⟨X,w1,h⟩:=bOs h
    refine oC [.agg #[.slice Aa p0.fNo.length ca,.slice Ab p0.fC.length cb],vI p2,vI p3] _ _ _ O go_51 O (fun W2 f=>r7 p0 p2 p3 X w1 W2 Aa p0.fNo.length ca O ((RdL.arg F) W2 f) Ab p0.fC.length cb H O ((RdL.arg Y) W2 f) (NestL.at (NestL.arg g) W2 f) W (fun _=>True) (fun W3 hb=>⟨fy f.below hb,trivial⟩) (Pv.of_rd F) (PvL.of_nest g)) ?_
    rintro⟨⟨⟨ug,wl,uo⟩,F41⟩,⟨⟨ur,wt,uu⟩,F47,F49,w2⟩⟩ ⟨u0,w3,u1,w4,w5,w6⟩
    replace u0:wl=X.fL.fNo.length:=u0;subst u0
    replace u1:wt=X.fL.fC.length:=u1;subst u1
    try dsimp only[lna,lca,lsz,lss]
    refine aC jk O (fun ud=>?_)
    try dsimp only[lna,lca,lsz,lss]
    refine cr O (yS 9 [.slice ug X.fL.fNo.length uo,.slice ur X.fL.fC.length uu,vI X.fE] kZ O (nB O) O O O) (oN (eT (cS (cR (oY O (yN 0 [.slice Aa p0.fNo.length ca,.slice Ab p0.fC.length cb] aF O O O) (oY O (yMI O) (oY O (yMI O) ?_)))))))
    obtain⟨I,w7,h⟩:=bOs h
    refine oC [.agg #[.slice Aa p0.fNo.length ca,.slice Ab p0.fC.length cb],vI p2,vI p3] _ _ _ O go_52 O (fun W2 f=>py p0 p2 p3 I w7 W2 Aa p0.fNo.length ca O ((RdL.arg F) W2 f) Ab p0.fC.length cb H O ((RdL.arg Y) W2 f) (NestL.at (NestL.arg g) W2 f) W (fun _=>True) (fun W3 hb=>⟨fy f.below hb,trivial⟩) (PvL.of_nest g)) ?_
    rintro⟨⟨uw,wa,uD⟩,⟨uE,wz,uF⟩,w8,F70⟩ ⟨u2,u3,w9,wf⟩
    replace u2:wa=I.1.fNo.length:=u2;subst u2
    replace u3:wz=I.1.fC.length:=u3;subst u3
    try dsimp only[lna,lca,lsz,lss]
    refine oY O (aZ O) (oY O (yE O O) (oY O (yE O O) ?_))
    refine aC ft O (fun wc=>?_)
    try dsimp only[lna,lca,lsz,lss]
    refine cr O (yS 13 [.slice uw I.1.fNo.length uD,.slice uE I.1.fC.length uF] gN O (nB O) O O O) (oY O (yAI O) (oN (eT (cS (cR (oY O (yN 0 [.slice Aa p0.fNo.length ca,.slice Ab p0.fC.length cb] aF O O O) (oY O (yMI O) (oY O (yMI O) ?_))))))))
    obtain⟨Z,wg,h⟩:=bOs h
    refine oC [.agg #[.slice Aa p0.fNo.length ca,.slice Ab p0.fC.length cb],vI p2,vI p3] _ _ _ O go_53 O (fun W2 f=>qE p0 p2 p3 Z wg W2 Aa p0.fNo.length ca O ((RdL.arg F) W2 f) Ab p0.fC.length cb H O ((RdL.arg Y) W2 f) (NestL.at (NestL.arg g) W2 f) W (fun _=>True) (fun W3 hb=>⟨fy f.below hb,trivial⟩) (Pv.of_rd F) (PvL.of_nest g)) ?_
    rintro⟨⟨⟨uG,wi,uH⟩,F83⟩,⟨⟨uI,wj,uK⟩,F89,F91,wo⟩⟩ ⟨u4,wr,u5,wu,wd,ww⟩
    replace u4:wi=Z.fL.fNo.length:=u4;subst u4
    replace u5:wj=Z.fL.fC.length:=u5;subst u5
    try dsimp only[lna,lca,lsz,lss]
    refine aC jk O (fun u6=>?_)
    try dsimp only[lna,lca,lsz,lss]
    refine cr O (yS 17 [.slice uG Z.fL.fNo.length uH,.slice uI Z.fL.fC.length uK,vI Z.fE] kZ O (nB O) O O O) (oN (eT (cS (cR (oY O (yN 0 [.slice Aa p0.fNo.length ca,.slice Ab p0.fC.length cb] aF O O O) (oY O (yMS O) ?_))))))
    obtain⟨U,wD,h⟩:=bOs h
    refine oC [.agg #[.slice Aa p0.fNo.length ca,.slice Ab p0.fC.length cb],.slice p p4.length n] _ _ _ O go_54 O (fun W2 f=>oM p0 p4 U wD W2 Aa p0.fNo.length ca O ((RdL.arg F) W2 f) Ab p0.fC.length cb H O ((RdL.arg Y) W2 f) (NestL.at (NestL.arg g) W2 f) p p4.length n O ((RdL.arg r3) W2 f) W (fun _=>True) (fun W3 hb=>⟨fy f.below hb,trivial⟩) (PvL.of_nest g)) ?_
    rintro⟨⟨fN,wE,fn⟩,⟨fl,wF,g1⟩,uY,F112⟩ ⟨c,f0,uZ,uV⟩
    replace c:wE=U.1.fNo.length:=c;subst c
    replace f0:wF=U.1.fC.length:=f0;subst f0
    try dsimp only[lna,lca,lsz,lss]
    refine oY O (aZ O) (oY O (yE O O) (oY O (yE O O) ?_))
    refine aC ft O (fun wG=>?_)
    try dsimp only[lna,lca,lsz,lss]
    refine cr O (yS 21 [.slice fN U.1.fNo.length fn,.slice fl U.1.fC.length g1] gN O (nB O) O O O) (oY O (yAI O) (oN (eT (cS (cR (oY O (yN 0 [.slice Aa p0.fNo.length ca,.slice Ab p0.fC.length cb] aF O O O) (oY O (yMS O) ?_)))))))
    obtain⟨E,uT,h⟩:=bOs h
    refine oC [.agg #[.slice Aa p0.fNo.length ca,.slice Ab p0.fC.length cb],.slice p p4.length n] _ _ _ O go_55 O (fun W2 f=>pB p0 p4 E uT W2 Aa p0.fNo.length ca O ((RdL.arg F) W2 f) Ab p0.fC.length cb H O ((RdL.arg Y) W2 f) (NestL.at (NestL.arg g) W2 f) p p4.length n O ((RdL.arg r3) W2 f) W (fun _=>True) (fun W3 hb=>⟨fy f.below hb,trivial⟩) (Pv.of_rd F) (PvL.of_nest g)) ?_
    rintro⟨⟨⟨g2,wH,g3⟩,F125⟩,⟨⟨gf,wI,o0⟩,F131,F133,uS⟩⟩ ⟨f1,uR,f2,uq,up,un⟩
    replace f1:wH=E.fL.fNo.length:=f1;subst f1
    replace f2:wI=E.fL.fC.length:=f2;subst f2
    try dsimp only[lna,lca,lsz,lss]
    refine aC jk O (fun j=>?_)
    try dsimp only[lna,lca,lsz,lss]
    refine cr O (yS 25 [.slice g2 E.fL.fNo.length g3,.slice gf E.fL.fC.length o0,vI E.fE] kZ O (nB O) O O O) (oN (eT (cS (cR (oY O (yN 0 [.slice Aa p0.fNo.length ca,.slice Ab p0.fC.length cb] aF O O O) (oY O (yN 1 [.slice Ac p1.fNo.length cc,.slice V p1.fC.length T] aF O O O) ?_))))))
    obtain⟨o,um,h⟩:=bOs h
    refine oC [.agg #[.slice Aa p0.fNo.length ca,.slice Ab p0.fC.length cb],.agg #[.slice Ac p1.fNo.length cc,.slice V p1.fC.length T]] _ _ _ O go_56 O (fun W2 f=>qV p0 p1 o um W2 Aa p0.fNo.length ca O ((RdL.arg F) W2 f) Ab p0.fC.length cb H O ((RdL.arg Y) W2 f) (NestL.at (NestL.arg g) W2 f) Ac p1.fNo.length cc O ((RdL.arg y) W2 f) V p1.fC.length T l O ((RdL.arg b) W2 f) (NestL.at (NestL.arg t) W2 f) W (fun _=>True) (fun W3 hb=>⟨fy f.below hb,trivial⟩) (PvL.of_nest g) (PvL.of_nest t)) ?_
    rintro⟨⟨o1,wK,o2⟩,⟨oq,wM,op⟩,ul,F154⟩ ⟨f3,f4,ut,ua⟩
    replace f3:wK=o.1.fNo.length:=f3;subst f3
    replace f4:wM=o.1.fC.length:=f4;subst f4
    try dsimp only[lna,lca,lsz,lss]
    refine oY O (aZ O) (oY O (yE O O) (oY O (yE O O) ?_))
    refine aC ft O (fun uM=>?_)
    try dsimp only[lna,lca,lsz,lss]
    refine cr O (yS 29 [.slice o1 o.1.fNo.length o2,.slice oq o.1.fC.length op] gN O (nB O) O O O) (oY O (yAI O) (oN (eT (cS (cR (oY O (yN 0 [.slice Aa p0.fNo.length ca,.slice Ab p0.fC.length cb] aF O O O) (oY O (yN 1 [.slice Ac p1.fNo.length cc,.slice V p1.fC.length T] aF O O O) ?_)))))))
    obtain⟨K,uz,h⟩:=bOs h
    refine oC [.agg #[.slice Aa p0.fNo.length ca,.slice Ab p0.fC.length cb],.agg #[.slice Ac p1.fNo.length cc,.slice V p1.fC.length T]] _ _ _ O go_57 O (fun W2 f=>r5 p0 p1 K uz W2 Aa p0.fNo.length ca O ((RdL.arg F) W2 f) Ab p0.fC.length cb H O ((RdL.arg Y) W2 f) (NestL.at (NestL.arg g) W2 f) Ac p1.fNo.length cc O ((RdL.arg y) W2 f) V p1.fC.length T l O ((RdL.arg b) W2 f) (NestL.at (NestL.arg t) W2 f) W (fun _=>True) (fun W3 hb=>⟨fy f.below hb,trivial⟩) (PvL.of_nest g) (PvL.of_nest t)) ?_
    rintro⟨⟨om,wN,ot⟩,⟨oa,wO,oi⟩,ui,F173⟩ ⟨fr,fd,uj,uk⟩
    replace fr:wN=K.fL.fNo.length:=fr;subst fr
    replace fd:wO=K.fL.fC.length:=fd;subst fd
    try dsimp only[lna,lca,lsz,lss]
    refine aC jk O (fun a=>?_)
    try dsimp only[lna,lca,lsz,lss]
    refine cr O (yS 33 [.slice om K.fL.fNo.length ot,.slice oa K.fL.fC.length oi,vI K.fE] kZ O (nB O) O O O) (oN (eT (cS (cR (oY O (yN 5 [.slice u7 G.1.fNo.length u8,.slice u9 G.1.fC.length uf] aF O O O) (oY O (yFA rC O) (oY O (yN 9 [.slice ug X.fL.fNo.length uo,.slice ur X.fL.fC.length uu] aF O O O) ?_)))))))
    obtain⟨wQ,ux,h⟩:=bOs h
    refine oY O (yC [.agg #[.slice u7 G.1.fNo.length u8,.slice u9 G.1.fC.length uf],.agg #[.slice ug X.fL.fNo.length uo,.slice ur X.fL.fC.length uu]] go_58 O (fun W2 f=>eQ G.1 X.fL wQ ux W2 u7 G.1.fNo.length u8 O ((RdL.row 2 O) W2 f) u9 G.1.fC.length uf dd O ((RdL.row 3 O) W2 f) (NestL.at (PvL.nestL dy w0 (fun W2 f=>⟨f.below,trivial,f.mem (i:=4) O⟩)) W2 f) ug X.fL.fNo.length uo O ((Pv.rdl w3 (fun W2 f=>⟨f.below,trivial,f.mem (i:=6) O⟩)) W2 f) ur X.fL.fC.length uu w2 O ((Pv.rdl w4 (fun W2 f=>⟨f.below,trivial,f.mem (i:=7) O⟩)) W2 f) (NestL.at (PvL.nestL w5 w6 (fun W2 f=>⟨f.below,trivial,f.mem (i:=8) O⟩)) W2 f)) O) (oY O (yMB O) ?_)
    obtain⟨wU,uy,h⟩:=bOs h
    refine oJ 5 (fun r=>(upd (upd (upd (upd (upd (upd (upd (upd (upd (upd (upd (upd (upd r 10 (.bool false)) 11 (.bool x)) 13 (vI G.2)) 14 (.pointer (some ⟨ud,0,none⟩))) 16 (vI I.2)) 17 (.pointer (some ⟨u6,0,none⟩))) 18 (.pointer (some ⟨wG,0,none⟩))) 19 (vI U.2)) 20 (.pointer (some ⟨j,0,none⟩))) 21 (.pointer (some ⟨uM,0,none⟩))) 22 (vI o.2)) 23 (.pointer (some ⟨a,0,none⟩))) 89 (.bool wU))) (fun r=>?_) (fun key=>?_)
    ·refine oY O (yMB O) ?_
     obtain⟨wX,ub,h⟩:=bOs h
     refine oJ 5 (fun r=>(upd (upd (upd (upd (upd (upd (upd (upd (upd (upd (upd (upd r 10 (.bool false)) 11 (.bool x)) 13 (vI G.2)) 14 (.pointer (some ⟨ud,0,none⟩))) 16 (vI I.2)) 17 (.pointer (some ⟨u6,0,none⟩))) 19 (vI U.2)) 20 (.pointer (some ⟨j,0,none⟩))) 21 (.pointer (some ⟨uM,0,none⟩))) 22 (vI o.2)) 23 (.pointer (some ⟨a,0,none⟩))) 95 (.bool wX))) (fun r=>?_) (fun key=>?_)
     ·refine oY O (yMB O) ?_
      obtain⟨S,uc,h⟩:=bOs h
      refine oJ 5 (fun r=>(upd (upd (upd (upd (upd (upd (upd (upd (upd (upd (upd r 10 (.bool false)) 11 (.bool x)) 13 (vI G.2)) 14 (.pointer (some ⟨ud,0,none⟩))) 16 (vI I.2)) 17 (.pointer (some ⟨u6,0,none⟩))) 19 (vI U.2)) 20 (.pointer (some ⟨j,0,none⟩))) 22 (vI o.2)) 23 (.pointer (some ⟨a,0,none⟩))) 101 (.bool S))) (fun r=>?_) (fun key=>?_)
      ·refine oY O (yAB O) (oN (eT (cS (cR (oY O (yMB O) (oY O (yMB O) ?_))))))
       refine oJ 2 (fun r=>(upd (upd (upd (upd (upd (upd (upd (upd (upd (upd r 10 (.bool false)) 13 (vI G.2)) 14 (.pointer (some ⟨ud,0,none⟩))) 16 (vI I.2)) 17 (.pointer (some ⟨u6,0,none⟩))) 19 (vI U.2)) 20 (.pointer (some ⟨j,0,none⟩))) 22 (vI o.2)) 23 (.pointer (some ⟨a,0,none⟩))) 105 (.bool (x&&S)))) (fun r=>?_) (fun key=>?_)
       ·refine oY O (yMB O) ?_
        refine oJ 5 (fun r=>(upd (upd (upd (upd (upd (upd (upd (upd r 10 (.bool false)) 16 (vI I.2)) 17 (.pointer (some ⟨u6,0,none⟩))) 19 (vI U.2)) 20 (.pointer (some ⟨j,0,none⟩))) 22 (vI o.2)) 23 (.pointer (some ⟨a,0,none⟩))) 111 (.bool ((x&&S)&&(G.2==X.fE))))) (fun r=>?_) (fun key=>?_)
        ·refine oY O (yMB O) ?_
         refine oJ 5 (fun r=>(upd (upd (upd (upd (upd (upd r 10 (.bool false)) 19 (vI U.2)) 20 (.pointer (some ⟨j,0,none⟩))) 22 (vI o.2)) 23 (.pointer (some ⟨a,0,none⟩))) 117 (.bool (((x&&S)&&(G.2==X.fE))&&(I.2==Z.fE))))) (fun r=>?_) (fun key=>?_)
         ·refine oY O (yMB O) ?_
          refine oJ 5 (fun r=>(upd (upd (upd (upd r 10 (.bool false)) 22 (vI o.2)) 23 (.pointer (some ⟨a,0,none⟩))) 123 (.bool ((((x&&S)&&(G.2==X.fE))&&(I.2==Z.fE))&&(U.2==E.fE))))) (fun r=>?_) (fun key=>?_)
          ·refine oY O (yMB O) ?_
           refine oJ 5 (fun r=>(upd (upd r 10 (.bool false)) 129 (.bool (((((x&&S)&&(G.2==X.fE))&&(I.2==Z.fE))&&(U.2==E.fE))&&(o.2==K.fE))))) (fun r=>?_) (fun key=>?_)
           ·refine oY O (yAB O) (oN (eT (ak ?_)))
            obtain rfl:=sI h
            exact am (.inl O) O (rVt (v:=.bool (((((x&&S)&&(G.2==X.fE))&&(I.2==Z.fE))&&(U.2==E.fE))&&(o.2==K.fE))) O) (fun W2 f=>⟨O,f.none⟩)
           ·rcases aB ((((x&&S)&&(G.2==X.fE))&&(I.2==Z.fE))&&(U.2==E.fE))with u|u
            ·refine oY (sT O O O O u) (yMI O) (oY (sT O O O O u) (yFA rR O) (oY (sT O O O O u) (yL 33 sc_29 O O O) (oY (sT O O O O u) (ig O O) (oY O (aw (vB u) O) ?_))))
             exact key _ _ (keep (keep O O) (vB (mv u)))
            ·refine oSk (sF O O O O u) (oSk (sF O O O O u) (oSk (sF O O O O u) (oSk (sF O O O O u) (oY O (av (vB u) O) ?_))))
             exact key _ _ (keep (keep O O) (vB (mu u)))
          ·rcases aB (((x&&S)&&(G.2==X.fE))&&(I.2==Z.fE))with d|d
           ·refine oY (sT O O O O d) (yMI O) (oY (sT O O O O d) (yFA rR O) (oY (sT O O O O d) (yL 25 sc_29 O O O) (oY (sT O O O O d) (ig O O) (oY O (aw (vB d) O) ?_))))
            exact key _ _ (keep (keep (keep (keep O O) O) O) (vB (mv d)))
           ·refine oSk (sF O O O O d) (oSk (sF O O O O d) (oSk (sF O O O O d) (oSk (sF O O O O d) (oY O (av (vB d) O) ?_))))
            exact key _ _ (keep (keep (keep (keep O O) O) O) (vB (mu d)))
         ·rcases aB ((x&&S)&&(G.2==X.fE))with w|w
          ·refine oY (sT O O O O w) (yMI O) (oY (sT O O O O w) (yFA rR O) (oY (sT O O O O w) (yL 17 sc_29 O O O) (oY (sT O O O O w) (ig O O) (oY O (aw (vB w) O) ?_))))
           exact key _ _ (keep (keep (keep (keep (keep (keep O O) O) O) O) O) (vB (mv w)))
          ·refine oSk (sF O O O O w) (oSk (sF O O O O w) (oSk (sF O O O O w) (oSk (sF O O O O w) (oY O (av (vB w) O) ?_))))
           exact key _ _ (keep (keep (keep (keep (keep (keep O O) O) O) O) O) (vB (mu w)))
        ·rcases aB (x&&S)with D|D
         ·refine oY (sT O O O O D) (yMI O) (oY (sT O O O O D) (yFA rR O) (oY (sT O O O O D) (yL 9 sc_29 O O O) (oY (sT O O O O D) (ig O O) (oY O (aw (vB D) O) ?_))))
          exact key _ _ (keep (keep (keep (keep (keep (keep (keep (keep O O) O) O) O) O) O) O) (vB (mv D)))
         ·refine oSk (sF O O O O D) (oSk (sF O O O O D) (oSk (sF O O O O D) (oSk (sF O O O O D) (oY O (av (vB D) O) ?_))))
          exact key _ _ (keep (keep (keep (keep (keep (keep (keep (keep O O) O) O) O) O) O) O) (vB (mu D)))
       ·rcases aB x with q|q
        ·refine oY (sT O O O O q) (yMB O) (oY O (aw (vB q) O) ?_)
         exact key _ _ (keep (keep (keep (keep (keep (keep (keep (keep (keep (keep O O) O) O) O) O) O) O) O) O) (vB (mv q)))
        ·refine oSk (sF O O O O q) (oY O (av (vB q) O) ?_)
         exact key _ _ (keep (keep (keep (keep (keep (keep (keep (keep (keep (keep O O) O) O) O) O) O) O) O) O) (vB (mu q)))
      ·clear h;rcases iOs uc with⟨M,h⟩|⟨M,h⟩
       ·refine oY (sT O O O O M) (yN 29 [.slice o1 o.1.fNo.length o2,.slice oq o.1.fC.length op] aF O O O) (oY (sT O O O O M) (yFA rC O) (oY (sT O O O O M) (yN 33 [.slice om K.fL.fNo.length ot,.slice oa K.fL.fC.length oi] aF O O O) ?_))
        obtain⟨wY,d0,h⟩:=bOs h
        refine oY (sT O O O O M) (yC [.agg #[.slice o1 o.1.fNo.length o2,.slice oq o.1.fC.length op],.agg #[.slice om K.fL.fNo.length ot,.slice oa K.fL.fC.length oi]] go_58 O (fun W2 f=>eQ o.1 K.fL wY d0 W2 o1 o.1.fNo.length o2 O ((RdL.row 26 O) W2 f) oq o.1.fC.length op ul O ((RdL.row 27 O) W2 f) (NestL.at (PvL.nestL ut ua (fun W2 f=>⟨f.below,trivial,f.mem (i:=28) O⟩)) W2 f) om K.fL.fNo.length ot O ((RdL.row 30 O) W2 f) oa K.fL.fC.length oi ui O ((RdL.row 31 O) W2 f) (NestL.at (PvL.nestL uj uk (fun W2 f=>⟨f.below,trivial,f.mem (i:=32) O⟩)) W2 f)) O) (oY O (aw (vB M) O) ?_)
        obtain rfl:=sI h
        exact key _ _ (kp4 (kp4 (kp (kp (kp O)))))
       ·refine oSk (sF O O O O M) (oSk (sF O O O O M) (oSk (sF O O O O M) (oSk (sF O O O O M) (oY O (av (vB M) O) ?_))))
        obtain rfl:=sI h
        exact key _ _ (kp4 (kp4 (kp (kp (kp O)))))
     ·clear h;rcases iOs ub with⟨N,h⟩|⟨N,h⟩
      ·refine oY (sT O O O O N) (yN 21 [.slice fN U.1.fNo.length fn,.slice fl U.1.fC.length g1] aF O O O) (oY (sT O O O O N) (yFA rC O) (oY (sT O O O O N) (yN 25 [.slice g2 E.fL.fNo.length g3,.slice gf E.fL.fC.length o0] aF O O O) ?_))
       obtain⟨wZ,d1,h⟩:=bOs h
       refine oY (sT O O O O N) (yC [.agg #[.slice fN U.1.fNo.length fn,.slice fl U.1.fC.length g1],.agg #[.slice g2 E.fL.fNo.length g3,.slice gf E.fL.fC.length o0]] go_58 O (fun W2 f=>eQ U.1 E.fL wZ d1 W2 fN U.1.fNo.length fn O ((RdL.row 18 O) W2 f) fl U.1.fC.length g1 uY O ((RdL.row 19 O) W2 f) (NestL.at (PvL.nestL uZ uV (fun W2 f=>⟨f.below,trivial,f.mem (i:=20) O⟩)) W2 f) g2 E.fL.fNo.length g3 O ((Pv.rdl uR (fun W2 f=>⟨f.below,trivial,f.mem (i:=22) O⟩)) W2 f) gf E.fL.fC.length o0 uS O ((Pv.rdl uq (fun W2 f=>⟨f.below,trivial,f.mem (i:=23) O⟩)) W2 f) (NestL.at (PvL.nestL up un (fun W2 f=>⟨f.below,trivial,f.mem (i:=24) O⟩)) W2 f)) O) (oY O (aw (vB N) O) ?_)
       obtain rfl:=sI h
       exact key _ _ (kp4 (kp4 (kp4 O)))
      ·refine oSk (sF O O O O N) (oSk (sF O O O O N) (oSk (sF O O O O N) (oSk (sF O O O O N) (oY O (av (vB N) O) ?_))))
       obtain rfl:=sI h
       exact key _ _ (kp4 (kp4 (kp4 O)))
    ·clear h;rcases iOs uy with⟨Q,h⟩|⟨Q,h⟩
     ·refine oY (sT O O O O Q) (yN 13 [.slice uw I.1.fNo.length uD,.slice uE I.1.fC.length uF] aF O O O) (oY (sT O O O O Q) (yFA rC O) (oY (sT O O O O Q) (yN 17 [.slice uG Z.fL.fNo.length uH,.slice uI Z.fL.fC.length uK] aF O O O) ?_))
      obtain⟨wV,d2,h⟩:=bOs h
      refine oY (sT O O O O Q) (yC [.agg #[.slice uw I.1.fNo.length uD,.slice uE I.1.fC.length uF],.agg #[.slice uG Z.fL.fNo.length uH,.slice uI Z.fL.fC.length uK]] go_58 O (fun W2 f=>eQ I.1 Z.fL wV d2 W2 uw I.1.fNo.length uD O ((RdL.row 10 O) W2 f) uE I.1.fC.length uF w8 O ((RdL.row 11 O) W2 f) (NestL.at (PvL.nestL w9 wf (fun W2 f=>⟨f.below,trivial,f.mem (i:=12) O⟩)) W2 f) uG Z.fL.fNo.length uH O ((Pv.rdl wr (fun W2 f=>⟨f.below,trivial,f.mem (i:=14) O⟩)) W2 f) uI Z.fL.fC.length uK wo O ((Pv.rdl wu (fun W2 f=>⟨f.below,trivial,f.mem (i:=15) O⟩)) W2 f) (NestL.at (PvL.nestL wd ww (fun W2 f=>⟨f.below,trivial,f.mem (i:=16) O⟩)) W2 f)) O) (oY O (aw (vB Q) O) ?_)
      obtain rfl:=sI h
      exact key _ _ (kp4 (kp4 (kp4 (kp O))))
     ·refine oSk (sF O O O O Q) (oSk (sF O O O O Q) (oSk (sF O O O O Q) (oSk (sF O O O O Q) (oY O (av (vB Q) O) ?_))))
      obtain rfl:=sI h
      exact key _ _ (kp4 (kp4 (kp4 (kp O))))
  ·rcases aB b8 with R|R
   ·refine oSk (sF O O O O R) (oSk (sF O O O O R) (oSk (sF O O O O R) (oY O (aw (vB R) O) ?_)))
    exact key _ _ (keep (keep (keep (keep (keep (keep (keep (keep O O) O) O) O) O) O) O) (vB (rf R)))
   ·refine oY (sT O O O O R) (yMS O) (oY (sT O O O O R) (bd (us:=[]) c6 O) (oY (sT O O O O R) (mq O O) (oY O (av (vB R) O) ?_)))
    exact key _ _ (keep (keep (keep (keep (keep (keep (keep (keep O O) O) O) O) O) O) O) (vB (re R)))
 ·clear h;rcases iOs wp with⟨k,h⟩|⟨k,h⟩
  ·refine oSk (sF O O O O k) (oSk (sF O O O O k) (oSk (sF O O O O k) (oY O (aw (vB k) O) ?_)))
   obtain rfl:=sI h
   exact key _ _ (kp4 (kp4 O))
  ·refine oY (sT O O O O k) (yN 1 [.slice Ac p1.fNo.length cc,.slice V p1.fC.length T] aF O O O) ?_
   obtain⟨wT,d3,h⟩:=bOs h
   refine oY (sT O O O O k) (yC [.agg #[.slice Ac p1.fNo.length cc,.slice V p1.fC.length T]] go_14 O (fun W2 f=>ml p1 wT d3 W2 Ac p1.fNo.length cc O ((RdL.arg y) W2 f) V p1.fC.length T l O ((RdL.arg b) W2 f) (NestL.at (NestL.arg t) W2 f)) O) (oY (sT O O O O k) (fe O) (oY O (av (vB k) O) ?_))
   obtain rfl:=sI h
   exact key _ _ (kp4 (kp4 O))
end Go.Proofs.YtbblpokfbmekfaaGreat
