import Derived.Test.YthndghnkebboaaaGreatF
import Derived.Test.YthndghnkebboaaaGreatGF
import Derived.Test.YthndghnkebboaaaGreatGy
import Derived.Test.YthndghnkebboaaaGreatC4
import Derived.Test.YthndghnkebboaaaGreatC0
import Derived.Test.YthndghnkebboaaaGreatC2
set_option maxHeartbeats 4000000
set_option maxRecDepth 100000
set_option linter.unusedVariables false
namespace Go.Proofs.YthndghnkebboaaaGreat
open Go.RowKit (Below)
attribute [local irreducible] OX QX CX EX OpY Calls CallsIn
theorem qK (p0:TY) (p1:(List (Int × Int))) (res:TPlan) (h:nZ p0 p1=some res) (W:World) (Aa:Option Addr) (O ca:Nat) (p:O=p0.fB.length) (F:Rd W Aa O ca (encL aG p0.fB)) (Ab:Option Addr) (Q cb:Nat) (n:Q=p0.fR.length) (I:Rd W Ab Q cb (encL aC p0.fR)) (g:Nat) (hm1_0:(mapV Tryz.prog 3 kI eg kI 0 g p1).holds W) :
  Calls Tryz.prog 99 [.agg #[.slice Aa O ca,.slice Ab Q cb],.map (some g)].toArray W fun e W2=>∃x:((Option Addr × Nat × Nat) × (Option Addr × Nat × Nat)),(x.1.2.1=res.fG.length∧x.2.2.1=res.fPrices.length)∧e=.returned (.agg #[.slice x.1.1 x.1.2.1 x.1.2.2,vI res.fW,.slice x.2.1 x.2.2.1 x.2.2.2])∧Ext W W2 [aP x.1.1 x.1.2.2 3 1 x.1.2.1 (encL cI res.fG),aP x.2.1 x.2.2.2 3 1 x.2.2.1 (encL cI res.fPrices)]:=by
 subst p
 subst n
 unfold nZ at h
 refine ag (m:=54) Tryz.func99 E E (nB E) (cS (cR ?_))
 refine aI [.slice Aa p0.fB.length ca,.slice Ab p0.fR.length cb] E E E (fun l=>?_)
 refine aF sV E (fun b2=>?_)
 refine oN (eT (cS ?_))
 obtain⟨t,h⟩:=gOs h
 obtain⟨G,fH,h⟩:=bOs h
 refine gm [[],[0],[0,1],[0,1,2],[],[],[4,5],[0,1,2,3,4,5,6],[],[0,1,2,3,4,5,6,7,8]] [(none,0,[true,true]),(none,0,[true,true]),(none,0,[true,true]),(none,1,[true,true]),(none,0,[true,true,false]),(none,0,[true,true,false]),(none,0,[true,true,false]),(none,0,[true,true,true]),(none,1,[true,true,false]),(some 3,0,[true,true,true,true])] [⟨fun _=>.pointer (some ⟨l,0+1,none⟩),fun _=>noR,fun _=>[]⟩,⟨fun _=>.slice Ab p0.fR.length cb,fun _=>noR,fun _=>[]⟩,⟨fun _=>vI (p0.fR.length:Int),fun _=>noR,fun _=>[]⟩,⟨fun ξ3=>.slice (some ⟨(ξ3 3 0).2.1,0,none⟩) (Int.toNat (p0.fR.length:Int)) (Int.toNat (p0.fR.length:Int)),fun _=>noR,fun ξ3=>[aP (some ⟨(ξ3 3 0).2.1,0,none⟩) (Int.toNat (p0.fR.length:Int)) 3 1 (Int.toNat (p0.fR.length:Int)) (encL cI (List.replicate (Int.toNat (p0.fR.length:Int)) 0))]⟩,⟨fun _=>.map (some g),fun _=>noR,fun _=>[]⟩,⟨fun _=>.agg #[.slice Aa p0.fB.length ca,.slice Ab p0.fR.length cb],fun _=>noR,fun _=>[]⟩,⟨fun _=>vI G,fun _=>noR,fun _=>[]⟩,⟨fun ξ3=>.agg #[.slice (some ⟨(ξ3 3 0).2.1,0,none⟩) (Int.toNat (p0.fR.length:Int)) (Int.toNat (p0.fR.length:Int)),vI G,.slice none 0 0],fun _=>noR,fun _=>[]⟩,⟨fun ξ3=>.pointer (some ⟨(ξ3 8 0).2.1,0,none⟩),fun _=>noR,fun ξ3=>[al (ξ3 8 0).2.1 71 [.slice none 0 0,vI 0,.slice none 0 0]]⟩,⟨fun _=>undef,fun ξ3=>al (ξ3 8 0).2.1 71 [.slice (some ⟨(ξ3 3 0).2.1,0,none⟩) (Int.toNat (p0.fR.length:Int)) (Int.toNat (p0.fR.length:Int)),vI G,.slice none 0 0],fun _=>[]⟩] 2 bZ (by kernel_rfl) (by kernel_rfl) ⟨⟨fun ξ3 ξ3' h=>⟨E,E,E⟩,fun _=>E⟩,⟨fun ξ3 ξ3' h=>⟨E,E,E⟩,fun _=>E⟩,⟨fun ξ3 ξ3' h=>⟨E,E,E⟩,fun _=>E⟩,⟨fun ξ3 ξ3' h=>⟨by simp only[h 3 (.inl E)],E,by simp only[h 3 (.inl E)]⟩,fun _=>E⟩,⟨fun ξ3 ξ3' h=>⟨E,E,E⟩,fun _=>E⟩,⟨fun ξ3 ξ3' h=>⟨E,E,E⟩,fun _=>E⟩,⟨fun ξ3 ξ3' h=>⟨E,E,E⟩,fun _=>E⟩,⟨fun ξ3 ξ3' h=>⟨by simp only[h 3 (.inr E)],E,E⟩,fun _=>E⟩,⟨fun ξ3 ξ3' h=>⟨by simp only[h 8 (.inl E)],E,by simp only[h 8 (.inl E)]⟩,fun _=>E⟩,⟨fun ξ3 ξ3' h=>⟨E,by simp only[h 3 (.inr E),h 8 (.inr E)],E⟩,fun _=>E⟩,trivial⟩ E (fun ξ3=>?_)
 refine cy E (fun L2=>?_) ?_
 ·dsimp only[aJ,lca,lna]
  refine oY E (yFA cg E) (oN ?_)
  exact az (fun _=>(none,0,0,[],noR)) E (List.append_nil _)
 dsimp only[bQ,lsz,lss,lna,lca,List.append_nil]
 refine cy E (fun L2=>?_) ?_
 ·dsimp only[aJ,lca,lna]
  refine oY E (yL 0 gT E E E) (oN ?_)
  exact az (fun _=>(none,0,0,[],noR)) E (List.append_nil _)
 dsimp only[bQ,lsz,lss,lna,lca,List.append_nil]
 refine cy E (fun L2=>?_) ?_
 ·dsimp only[aJ,lca,lna]
  refine oY E (bg (us:=[]) lD E) (oN ?_)
  exact az (fun _=>(none,0,0,[],noR)) E (List.append_nil _)
 dsimp only[bQ,lsz,lss,lna,lca,List.append_nil]
 refine cy E (fun L2=>?_) ?_
 ·dsimp only[aJ,lca,lna]
  refine rO (encL cI (List.replicate (Int.toNat (p0.fR.length:Int)) 0)) cO mF pu t.1 t.2 E (qn _ _ _ E E) E (fun b4=>?_)
  refine oN ?_
  exact az (fun _=>(none,b4,0,[],noR)) E E
 dsimp only[bQ,lsz,lss,lna,lca,List.append_nil]
 refine cy E (fun L2=>?_) ?_
 ·dsimp only[aJ,lca,lna]
  refine oY E (cw E) (oN ?_)
  exact az (fun _=>(none,0,0,[],noR)) E (List.append_nil _)
 dsimp only[bQ,lsz,lss,lna,lca,List.append_nil]
 refine cy E (fun L2=>?_) ?_
 ·dsimp only[aJ,lca,lna]
  refine oY E (yN 0 [.slice Aa p0.fB.length ca,.slice Ab p0.fR.length cb] dl E E E) (oN ?_)
  exact az (fun _=>(none,0,0,[],noR)) E (List.append_nil _)
 dsimp only[bQ,lsz,lss,lna,lca,List.append_nil]
 refine cy E (fun L2=>?_) ?_
 ·dsimp only[aJ,lca,lna]
  refine oY E (yC [.map (some g),.agg #[.slice Aa p0.fB.length ca,.slice Ab p0.fR.length cb]] go_130 E (fun W2 d=>i5 p1 p0 G fH W2 g ((MpL.arg hm1_0) W2 d) Aa p0.fB.length ca E ((RdL.arg F) W2 d) Ab p0.fR.length cb E ((RdL.arg I) W2 d)) E) (oN ?_)
  exact az (fun _=>(none,0,0,[],noR)) E (List.append_nil _)
 dsimp only[bQ,lsz,lss,lna,lca,List.append_nil]
 refine cy E (fun L2=>?_) ?_
 ·dsimp only[aJ,lca,lna]
  refine oY E (bc [.slice (some ⟨(ξ3 3 0).2.1,0,none⟩) (Int.toNat (p0.fR.length:Int)) (Int.toNat (p0.fR.length:Int)),vI G,.slice none 0 0] [(0,1),(1,1),(2,1)] ust_71 sV (by kernel_rfl)) ?_
  refine oN ?_
  exact az (fun _=>(none,0,0,[],noR)) E (List.append_nil _)
 dsimp only[bQ,lsz,lss,lna,lca,List.append_nil]
 refine cy E (fun L2=>?_) ?_
 ·dsimp only[aJ,lca,lna]
  refine aF sV E (fun b8=>?_)
  refine oN ?_
  exact az (fun _=>(none,b8,0,[],noR)) E E
 dsimp only[bQ,lsz,lss,lna,lca,List.append_nil]
 refine gx_n E (fun L2=>?_) ?_
 ·dsimp only[aJ,lca,lna]
  refine co E (yS 3 [.slice (some ⟨(ξ3 3 0).2.1,0,none⟩) (Int.toNat (p0.fR.length:Int)) (Int.toNat (p0.fR.length:Int)),vI G,.slice none 0 0] sz_71 E (nB E) E E E) (oN ?_)
  first|exact bR (fun _=>(none,0,0,[],noR)) E|exact bR (fun _=>(none,0,0,[],noR)) (List.append_nil _)
 dsimp only[bQ,lsz,lss,lna,lca,List.append_nil]
 refine lJ (eT (cS (cS (cR (oY E (cw E) (qQ hm1_0 ke_3 ra E E (fun b9 k10 hk11=>(oN (eT ?_)))))))))
 obtain⟨o,h⟩:=gOs h
 obtain⟨hd24,h⟩:=gOs h
 refine cB (r8 (fun(w:Nat × (Int→Bool) × (List Int)) L tm=>FoldI eg p1 (fun a f=>a.set (Int.toNat (aA 0 p1 f)) ((rdL p0.fB f).fID)) (List.replicate (Int.toNat (p0.fR.length:Int)) 0) w∧Int.toNat (p0.fR.length:Int)=w.2.2.length∧∃(V:Nat→Value),L=[al l 53 [.slice Aa p0.fB.length ca,.slice Ab p0.fR.length cb],al b2 71 [.slice none 0 0,vI 0,.slice none 0 0],aP (some ⟨(ξ3 3 0).2.1,0,none⟩) (Int.toNat (p0.fR.length:Int)) 3 1 (Int.toNat (p0.fR.length:Int)) (encL cI w.2.2),al (ξ3 8 0).2.1 71 [.slice (some ⟨(ξ3 3 0).2.1,0,none⟩) (Int.toNat (p0.fR.length:Int)) (Int.toNat (p0.fR.length:Int)),vI G,.slice none 0 0],rngA W Tryz.prog 3 kI eg kI 0 g b9 p1 w.2.1 w.1 none]∧tm=(upd (upd (upd (upd (upd (upd V 0 (.agg #[.slice Aa p0.fB.length ca,.slice Ab p0.fR.length cb])) 1 (.map (some g))) 2 (.pointer (some ⟨l,0,none⟩))) 4 (.pointer (some ⟨b2,0,none⟩))) 5 (.pointer (some ⟨(ξ3 8 0).2.1,0,none⟩))) 18 (.pointer (some ⟨b9,0,none⟩)))) (fun s=>s.1) (k10,(fun y=>bm p1 y),(List.replicate (Int.toNat (p0.fR.length:Int)) 0)) ⟨FoldI.start,(List.length_replicate).symm,_,E,(kp4 (kp (kp E)))⟩ ?_)
 rintro w L tm ⟨hI20,U,V,rfl,rfl⟩
 refine cS (cR ?_)
 refine sU 4 ((mapV Tryz.prog 3 kI eg kI 0 g p1).inb _ hm1_0 _ E) E ke_3 E E (fun hno18=>?_) (fun f k13 z hly15 hM16 hk17=>?_)
 ·refine oY E (yE E E) (oN (eT (cS (cF E (aD (aj ?_))))))
  refine ex_outM (by intro h;cases h) ?_
  have hS23:=hI20.done (C:=(fun f=>((0:Int)≤f∧f<(p0.fB.length:Int))∧((0:Int)≤aA 0 p1 f∧aA 0 p1 f<((Int.toNat (p0.fR.length:Int):Nat):Int)))) o hno18 (set_comm' hd24)
  rw[hS23]
  refine ae (eT (cS (cS (cR (oY E (yFA en E) (oY E (yL 0 ku E E E) (oY E (bg (us:=[]) kc E) (oY E (yMI E) (oN (eT (cB ?_)))))))))))
  obtain⟨T,i,h⟩:=bOs h
  refine dA 3 1 (dA 3 1 (dA 3 1 ?_))
  refine bi (fun(s:(Int × (List Int))) L tm=>∃(V:Nat→Value) (S:Option Addr) (R:Nat) (X:Nat),X=s.2.length∧L=[al l 53 [.slice Aa p0.fB.length ca,.slice Ab p0.fR.length cb],al b2 71 [.slice none 0 0,vI 0,.slice none 0 0],aP (some ⟨(ξ3 3 0).2.1,0,none⟩) (Int.toNat (p0.fR.length:Int)) 3 1 (Int.toNat (p0.fR.length:Int)) (encL cI ((g7 p1).foldl (fun a f=>a.set (Int.toNat (aA 0 p1 f)) ((rdL p0.fB f).fID)) (List.replicate (Int.toNat (p0.fR.length:Int)) 0))),al (ξ3 8 0).2.1 71 [.slice (some ⟨(ξ3 3 0).2.1,0,none⟩) (Int.toNat (p0.fR.length:Int)) (Int.toNat (p0.fR.length:Int)),vI G,.slice S X R],rngA W Tryz.prog 3 kI eg kI 0 g b9 p1 w.2.1 w.1 none,aP none 0 3 1 0 (encL cI ([]:List Int)),aP none 0 3 1 0 (encL cI ([]:List Int)),aP S R 3 1 X (encL cI s.2)]∧tm=(upd (upd (upd (upd (upd V 2 (.pointer (some ⟨l,0,none⟩))) 4 (.pointer (some ⟨b2,0,none⟩))) 5 (.pointer (some ⟨(ξ3 8 0).2.1,0,none⟩))) 36 (vI (p0.fB.length:Int))) 37 (vI s.1))) 2 i ⟨_,none,0,0,E,E,(kp4 (kp E))⟩ ?_ ?_
  ·rintro D L tm st ⟨k,K,M,fD,rfl,rfl,rfl⟩ h
   unfold na at h
   refine cS (cR ?_)
   try dsimp only[lna,lca,lsz,lss]
   refine oY E (a6 E E) (oN (eT (cS ?_)))
   rcases iOs h with⟨Y,h⟩|⟨Y,h⟩
   ·refine cT (vB Y) (cK (eT (cS (cB (cS (cR (oY E (yMI E) (oY E (yAI E) (oN (eT ?_))))))))))
    obtain⟨H,b,h⟩:=bOs h
    obtain⟨N,c,h⟩:=bOs h
    obtain⟨f1,h⟩:=gOs h
    refine gm [[],[0],[],[2],[],[],[4,5],[4,5,6],[2,3,4,5,6,7],[2,3,4,5,6,7,8],[0,1,2,3,4,5,6,7,8,9],[0,1,2,3,4,5,6,7,8,9,10],[0,1,2,3,4,5,6,7,8,9,10,11]] [(none,0,[true,true,true,true,true,true,true,true]),(none,0,[true,true,true,true,true,true,true,true]),(none,0,[true,true,true,true,true,true,true,true]),(none,0,[true,true,true,true,true,true,true,true]),(none,0,[true,true,true,true,true,true,true,true]),(none,0,[true,true,true,true,true,true,true,true]),(none,1,[true,true,true,true,true,true,true,true]),(none,0,[true,true,true,true,true,true,true,true,true]),(none,0,[true,true,true,true,true,true,true,true,true]),(none,1,[true,true,true,true,true,true,true,true,true]),(some 7,0,[true,true,true,true,true,true,true,true,true,true]),(none,0,[true,true,true,true,true,true,true,true,true,true]),(some 3,0,[true,true,true,true,true,true,true,true,true,true])] [⟨fun _=>.pointer (some ⟨(ξ3 8 0).2.1,0+2,none⟩),fun _=>noR,fun _=>[]⟩,⟨fun _=>.slice K D.2.length M,fun _=>noR,fun _=>[]⟩,⟨fun _=>.pointer (some ⟨(ξ3 8 0).2.1,0+1,none⟩),fun _=>noR,fun _=>[]⟩,⟨fun _=>vI G,fun _=>noR,fun _=>[]⟩,⟨fun _=>.agg #[.slice Aa p0.fB.length ca,.slice Ab p0.fR.length cb],fun _=>noR,fun _=>[]⟩,⟨fun _=>vI D.1,fun _=>noR,fun _=>[]⟩,⟨fun ξ30=>.agg #[.slice (ξ30 6 0).1 H.fB.length (ξ30 6 0).2.2.1,.slice Ab p0.fR.length cb],fun _=>noR,fun ξ30=>[aP (ξ30 6 0).1 (ξ30 6 0).2.2.1 69 3 H.fB.length (encL aG H.fB)]⟩,⟨fun _=>vI N,fun _=>noR,fun _=>[]⟩,⟨fun _=>vI (w64 (G-N)),fun _=>noR,fun _=>[]⟩,⟨fun ξ30=>.slice (some ⟨(ξ30 9 0).2.1,0,none⟩) 1 1,fun _=>noR,fun ξ30=>[aP (some ⟨(ξ30 9 0).2.1,0,none⟩) 1 3 1 1 (encL cI [w64 (G-N)])]⟩,⟨fun ξ30=>.slice (ξ30 10 0).1 (D.2.length+1) (ξ30 10 0).2.2.1,fun ξ30=>aP (ξ30 10 0).1 (ξ30 10 0).2.2.1 3 1 (D.2.length+1) (encL cI (D.2++[w64 (G-N)])),fun _=>[]⟩,⟨fun _=>.pointer (some ⟨(ξ3 8 0).2.1,0+2,none⟩),fun _=>noR,fun _=>[]⟩,⟨fun _=>undef,fun ξ30=>al (ξ3 8 0).2.1 71 [.slice (some ⟨(ξ3 3 0).2.1,0,none⟩) (Int.toNat (p0.fR.length:Int)) (Int.toNat (p0.fR.length:Int)),vI G,.slice (ξ30 10 0).1 (D.2.length+1) (ξ30 10 0).2.2.1],fun _=>[]⟩] 8 bZ (by kernel_rfl) (by kernel_rfl) ⟨⟨fun ξ30 ξ30' h=>⟨E,E,E⟩,fun _=>E⟩,⟨fun ξ30 ξ30' h=>⟨E,E,E⟩,fun _=>E⟩,⟨fun ξ30 ξ30' h=>⟨E,E,E⟩,fun _=>E⟩,⟨fun ξ30 ξ30' h=>⟨E,E,E⟩,fun _=>E⟩,⟨fun ξ30 ξ30' h=>⟨E,E,E⟩,fun _=>E⟩,⟨fun ξ30 ξ30' h=>⟨E,E,E⟩,fun _=>E⟩,⟨fun ξ30 ξ30' h=>⟨by simp only[h 6 (.inl E)],E,by simp only[h 6 (.inl E)]⟩,fun _=>E⟩,⟨fun ξ30 ξ30' h=>⟨E,E,E⟩,fun _=>E⟩,⟨fun ξ30 ξ30' h=>⟨E,E,E⟩,fun _=>E⟩,⟨fun ξ30 ξ30' h=>⟨by simp only[h 9 (.inl E)],E,by simp only[h 9 (.inl E)]⟩,fun _=>E⟩,⟨fun ξ30 ξ30' h=>⟨by simp only[h 10 (.inl E)],by simp only[h 10 (.inl E)],E⟩,fun _=>E⟩,⟨fun ξ30 ξ30' h=>⟨E,E,E⟩,fun _=>E⟩,⟨fun ξ30 ξ30' h=>⟨E,by simp only[h 10 (.inr E)],E⟩,fun _=>E⟩,trivial⟩ E (fun ξ30=>?_)
    refine cy E (fun L2=>?_) ?_
    ·dsimp only[aJ,lca,lna]
     refine oY E (yFA rU E) (oN ?_)
     exact az (fun _=>(none,0,0,[],noR)) E (List.append_nil _)
    dsimp only[bQ,lsz,lss,lna,lca,List.append_nil]
    refine cy E (fun L2=>?_) ?_
    ·dsimp only[aJ,lca,lna]
     refine oY E (yL 3 gH E E E) (oN ?_)
     exact az (fun _=>(none,0,0,[],noR)) E (List.append_nil _)
    dsimp only[bQ,lsz,lss,lna,lca,List.append_nil]
    refine cy E (fun L2=>?_) ?_
    ·dsimp only[aJ,lca,lna]
     refine oY E (yFA ql E) (oN ?_)
     exact az (fun _=>(none,0,0,[],noR)) E (List.append_nil _)
    dsimp only[bQ,lsz,lss,lna,lca,List.append_nil]
    refine cy E (fun L2=>?_) ?_
    ·dsimp only[aJ,lca,lna]
     refine oY E (yL 3 aN E E E) (oN ?_)
     exact az (fun _=>(none,0,0,[],noR)) E (List.append_nil _)
    dsimp only[bQ,lsz,lss,lna,lca,List.append_nil]
    refine cy E (fun L2=>?_) ?_
    ·dsimp only[aJ,lca,lna]
     refine oY E (yN 0 [.slice Aa p0.fB.length ca,.slice Ab p0.fR.length cb] dl E E E) (oN ?_)
     exact az (fun _=>(none,0,0,[],noR)) E (List.append_nil _)
    dsimp only[bQ,lsz,lss,lna,lca,List.append_nil]
    refine cy E (fun L2=>?_) ?_
    ·dsimp only[aJ,lca,lna]
     refine oY E (yMI E) (oN ?_)
     exact az (fun _=>(none,0,0,[],noR)) E (List.append_nil _)
    dsimp only[bQ,lsz,lss,lna,lca,List.append_nil]
    refine cy E (fun L2=>?_) ?_
    ·dsimp only[aJ,lca,lna]
     refine oC [.agg #[.slice Aa p0.fB.length ca,.slice Ab p0.fR.length cb],vI D.1] _ _ _ E go_97 E (fun W2 d=>kj p0 D.1 H b W2 Aa p0.fB.length ca E ((RdL.arg F) W2 d) Ab p0.fR.length cb E ((RdL.arg I) W2 d)) ?_
     rintro⟨fT,fn,fl⟩ Z
     replace Z:fn=H.fB.length:=Z;subst Z
     refine oN ?_
     exact az (fun _=>(fT,0,fl,[],noR)) E E
    dsimp only[bQ,lsz,lss,lna,lca,List.append_nil]
    refine cy E (fun L2=>?_) ?_
    ·dsimp only[aJ,lca,lna]
     refine oY E (yC [.agg #[.slice (ξ30 6 0).1 H.fB.length (ξ30 6 0).2.2.1,.slice Ab p0.fR.length cb]] tz E (fun W2 d=>eO (TY.mk H.fB p0.fR) N c W2 (ξ30 6 0).1 H.fB.length (ξ30 6 0).2.2.1 E ((RdL.row 8 E) W2 d) Ab p0.fR.length cb E ((RdL.arg I) W2 d)) E) (oN ?_)
     exact az (fun _=>(none,0,0,[],noR)) E (List.append_nil _)
    dsimp only[bQ,lsz,lss,lna,lca,List.append_nil]
    refine cy E (fun L2=>?_) ?_
    ·dsimp only[aJ,lca,lna]
     refine oY E (fe E E) (oN ?_)
     exact az (fun _=>(none,0,0,[],noR)) E (List.append_nil _)
    dsimp only[bQ,lsz,lss,lna,lca,List.append_nil]
    refine cy E (fun L2=>?_) ?_
    ·dsimp only[aJ,lca,lna]
     refine aR 1 (encL cI [w64 (G-N)]) _ ob cO mF pu (by decide) (by decide) (by kernel_rfl) (eL aB E) E (fun ft=>?_)
     refine oN ?_
     exact az (fun _=>(none,ft,0,[],noR)) E E
    dsimp only[bQ,lsz,lss,lna,lca,List.append_nil]
    refine cy E (fun L2=>?_) ?_
    ·dsimp only[aJ,lca,lna]
     refine cC 7 cO mF pu E E E (RdL.row 9 E) (eL aB E) (eh pE _) (eS f1 (by decide)) E (fun f2 f3=>?_)
     refine oN ?_
     first|exact az (fun _=>(f2,0,f3,[],noR)) E E|exact az (fun _=>(f2,0,f3,[],noR)) E (List.append_nil _)
    dsimp only[bQ,lsz,lss,lna,lca,List.append_nil]
    refine cy E (fun L2=>?_) ?_
    ·dsimp only[aJ,lca,lna]
     refine oY E (yFA rU E) (oN ?_)
     exact az (fun _=>(none,0,0,[],noR)) E (List.append_nil _)
    dsimp only[bQ,lsz,lss,lna,lca,List.append_nil]
    refine gx_n E (fun L2=>?_) ?_
    ·dsimp only[aJ,lca,lna]
     refine co E (dq 3 (v:=.slice (ξ30 10 0).1 (D.2.length+1) (ξ30 10 0).2.2.1) sz_42 E (Nat.lt_of_lt_of_le (Nat.lt_succ_self _) (nB E)) E E E) (oN ?_)
     first|exact bR (fun _=>(none,0,0,[],noR)) E|exact bR (fun _=>(none,0,0,[],noR)) (List.append_nil _)
    dsimp only[bQ,lsz,lss,lna,lca,List.append_nil]
    refine lJ (aw (eT (cR ?_)))
    try dsimp only[lna,lca,lsz,lss]
    refine oY E (aM E E) (oY E (yMI E) (oN (aT 8 ?_)))
    obtain rfl:=sI h
    exact eN ⟨_,(ξ30 10 0).1,(ξ30 10 0).2.2.1,(D.2.length+1),(ju E E),E,(kp4 (kp E))⟩
   ·refine cF (vB Y) (aD (aj ?_))
    obtain rfl:=sI h
    exact au ⟨E,_,K,M,D.2.length,E,E,(kp4 (kp E))⟩
  ·intro e L tm hJ
   obtain⟨rfl,fr,r,u,fE,rfl,rfl,rfl⟩:=hJ
   refine⟨(by intro hc;cases hc),?_⟩
   refine ae (eT (cS (cR ?_)))
   try dsimp only[lna,lca,lsz,lss]
   refine oY E (yN 3 [.slice (some ⟨(ξ3 3 0).2.1,0,none⟩) (Int.toNat (p0.fR.length:Int)) (Int.toNat (p0.fR.length:Int)),vI G,.slice r T.2.length u] ag_71 E E E) (co E (yS 1 [.slice (some ⟨(ξ3 3 0).2.1,0,none⟩) (Int.toNat (p0.fR.length:Int)) (Int.toNat (p0.fR.length:Int)),vI G,.slice r T.2.length u] sz_71 E (nB E) E E E) (oN (eT (am ?_))))
   obtain rfl:=sI h
   exact ak (.inl E) E (bO 1 [.slice (some ⟨(ξ3 3 0).2.1,0,none⟩) (Int.toNat (p0.fR.length:Int)) (Int.toNat (p0.fR.length:Int)),vI G,.slice r T.2.length u] ag_71 E E E) (fun W2 d=>⟨(((some ⟨(ξ3 3 0).2.1,0,none⟩),Int.toNat (p0.fR.length:Int),Int.toNat (p0.fR.length:Int)),(r,T.2.length,u)),⟨(oT _ (List.length_replicate).symm),E⟩,E,d.pickL [2,7] (by decide) E⟩)
 ·refine oY E (yE E E) (oN (eT (cS (cT E (cK (eT (cB (cS (cR (oY E (sH 4 ((mapV Tryz.prog 3 kI eg kI 0 g p1).inb _ hm1_0 _ E) E E) (oY E (yE E E) (oY E (yE E E) (oY E (yAI E) (oY E (yAI E) (oN (eT ?_))))))))))))))))
  refine aX 10 bZ (by kernel_rfl) (by kernel_rfl) ?_
  refine qY E (yFA fo_71_0 E) (qY E (yL 3 gH E E E) (qY E (yMI E) (qY E (yFA en E) (qY E (yL 0 ku E E E) (qY E (yMI E) ?_)))))
  refine qY E (yI mV (by decide) ((jZ (C:=(fun f=>((0:Int)≤f∧f<(p0.fB.length:Int))∧((0:Int)≤aA 0 p1 f∧aA 0 p1 f<((Int.toNat (p0.fR.length:Int):Nat):Int)))) o hM16).1).1 ((jZ (C:=(fun f=>((0:Int)≤f∧f<(p0.fB.length:Int))∧((0:Int)≤aA 0 p1 f∧aA 0 p1 f<((Int.toNat (p0.fR.length:Int):Nat):Int)))) o hM16).1).2 (RdL.arg F) (eL aL E) E E) ?_
  refine qY E (yFR (A:=Aa) (j:=(Int.toNat f*3)) kH E) (qY E (yR (A:=Aa) (j:=((Int.toNat f*3)+0)) (v:=vI ((rdL p0.fB f).fID)) aN (RdL.arg F) E (eG aL ((jZ (C:=(fun f=>((0:Int)≤f∧f<(p0.fB.length:Int))∧((0:Int)≤aA 0 p1 f∧aA 0 p1 f<((Int.toNat (p0.fR.length:Int):Nat):Int)))) o hM16).1).1 (ai ((jZ (C:=(fun f=>((0:Int)≤f∧f<(p0.fB.length:Int))∧((0:Int)≤aA 0 p1 f∧aA 0 p1 f<((Int.toNat (p0.fR.length:Int):Nat):Int)))) o hM16).1).2 E) E)) ?_)
  refine qY E (yI bS (by decide) ((jZ (C:=(fun f=>((0:Int)≤f∧f<(p0.fB.length:Int))∧((0:Int)≤aA 0 p1 f∧aA 0 p1 f<((Int.toNat (p0.fR.length:Int):Nat):Int)))) o hM16).2).1 ((jZ (C:=(fun f=>((0:Int)≤f∧f<(p0.fB.length:Int))∧((0:Int)≤aA 0 p1 f∧aA 0 p1 f<((Int.toNat (p0.fR.length:Int):Nat):Int)))) o hM16).2).2 (RdL.row 2 E) (eL aB U) E E) ?_
  refine bF (co E (gS 2 (xs:=w.2.2) aB ((rdL p0.fB f).fID) qb E ((jZ (C:=(fun f=>((0:Int)≤f∧f<(p0.fB.length:Int))∧((0:Int)≤aA 0 p1 f∧aA 0 p1 f<((Int.toNat (p0.fR.length:Int):Nat):Int)))) o hM16).2).1 (ai ((jZ (C:=(fun f=>((0:Int)≤f∧f<(p0.fB.length:Int))∧((0:Int)≤aA 0 p1 f∧aA 0 p1 f<((Int.toNat (p0.fR.length:Int):Nat):Int)))) o hM16).2).2 U) E E E E) (oN (aw (ow 4 E ?_))))
  exact sb (k13,(fun q=>w.2.1 q && !decide (q=f)),(w.2.2.set (Int.toNat (aA 0 p1 f)) ((rdL p0.fB f).fID))) ⟨hI20.step z hly15 hM16,(cH U),_,E,(kp4 (kp (kp E)))⟩ hk17
theorem qa (p0:TY) (res:(TPlan × Int)) (h:mN p0=some res) (W:World) (Aa:Option Addr) (u ca:Nat) (K:u=p0.fB.length) (g:Rd W Aa u ca (encL aG p0.fB)) (Ab:Option Addr) (d cb:Nat) (M:d=p0.fR.length) (o:Rd W Ab d cb (encL aC p0.fR)) (wb:World) (Hb:World→Prop) (hB:∀W3,Below W.heap.size W W3→Below wb.heap.size wb W3∧Hb W3) :
  Calls Tryz.prog 37 [.agg #[.slice Aa u ca,.slice Ab d cb]].toArray W fun e W2=>∃x:((Hd × Res) × (Hd × Res)),(x.1.1.2.1=res.1.fG.length∧Pv cI wb (fun W4=>Hb W4∧Res.holds x.1.2 W4) x.1.1 res.1.fG∧x.2.1.2.1=res.1.fPrices.length∧Pv cI wb (fun W4=>Hb W4∧Res.holds x.2.2 W4) x.2.1 res.1.fPrices)∧e=.returned (.tuple #[.agg #[.slice x.1.1.1 x.1.1.2.1 x.1.1.2.2,vI res.1.fW,.slice x.2.1.1 x.2.1.2.1 x.2.1.2.2],vI res.2])∧Ext W W2 [x.1.2,x.2.2]:=by
 subst K
 subst M
 unfold mN at h
 refine ag (m:=15) Tryz.func37 E E (nB E) (cS (cR ?_))
 refine aI [.slice Aa p0.fB.length ca,.slice Ab p0.fR.length cb] E E E (fun S=>?_)
 refine aF sV E (fun R=>?_)
 refine oY E (yAI E) (oN (eT (cS (cS (cR (oY E (yN 0 [.slice Aa p0.fB.length ca,.slice Ab p0.fR.length cb] dl E E E) ?_))))))
 obtain⟨V,Q,h⟩:=bOs h
 refine oY E (yC [.agg #[.slice Aa p0.fB.length ca,.slice Ab p0.fR.length cb]] go_45 E (fun W2 f=>dD p0 V Q W2 Aa p0.fB.length ca E ((RdL.arg g) W2 f) Ab p0.fR.length cb E ((RdL.arg o) W2 f)) E) (oY E (yAI E) (oN (eT (cS (cR (oY E (yMI E) (oY E (cU E E) (oN (eT ?_)))))))))
 rcases iOs h with⟨N,h⟩|⟨N,h⟩
 ·refine cT (vB N) (cS (cR ?_))
  refine oY E (bc [.slice none 0 0,vI 0,.slice none 0 0] [(0,1),(1,1),(2,1)] ust_71 sV (by kernel_rfl)) ?_
  refine oY E (yMI E) (co E (yS 1 [.slice none 0 0,vI 0,.slice none 0 0] sz_71 E (nB E) E E E) (oY E (yAI E) (oN (eT (am (aa ?_))))))
  obtain rfl:=sI h
  exact bJ (.inl E) E (bO 1 [.slice none 0 0,vI 0,.slice none 0 0] ag_71 E E E) (rVt (v:=vI V) E) (fun W2 f=>⟨(((none,0,0),noR),((none,0,0),noR)),⟨E,(Pv.mono (Hb:=Hb) (Pv.nil E) (fun _ _ h=>h.1)),E,(Pv.mono (Hb:=Hb) (Pv.nil E) (fun _ _ h=>h.1))⟩,E,f.addNo.addNo.pickL [2,3] (by decide) E⟩)
 ·refine cF (vB N) (cK (eT (cS ?_)))
  obtain⟨U,X,h⟩:=bOs h
  refine cx_drawsQ 2 3 (fun v L1=>∃x:Nat,v=.map (some x)∧L1=[mapV Tryz.prog 3 kI eg kI 0 x U]) bZ (by kernel_rfl) (by kernel_rfl) (by kernel_rfl) ?_
  refine bx_y E (fun _=>yN 0 [.slice Aa p0.fB.length ca,.slice Ab p0.fR.length cb] dl E E E) (bx_y E (fun _=>yN 0 [.slice Aa p0.fB.length ca,.slice Ab p0.fR.length cb] dl E E E) (bx_q E (lT [.agg #[.slice Aa p0.fB.length ca,.slice Ab p0.fR.length cb]] _ _ E go_100 E (fun W2 f=>mm p0 U X W2 Aa p0.fB.length ca E ((RdL.arg g) W2 f) Ab p0.fR.length cb E ((RdL.arg o) W2 f)) (fun x=>oN (ex_cap ⟨x,E,E⟩))) (kx_nil E ?_)))
  rintro v L1 ⟨T,rfl,rfl⟩
  obtain⟨r,O,h⟩:=bOs h
  refine oC [.agg #[.slice Aa p0.fB.length ca,.slice Ab p0.fR.length cb],.map (some T)] _ _ _ E go_99 E (fun W2 f=>qK p0 U r O W2 Aa p0.fB.length ca E ((RdL.arg g) W2 f) Ab p0.fR.length cb E ((RdL.arg o) W2 f) T ((MpL.own 2 E) W2 f)) ?_
  rintro⟨⟨F,Y,G⟩,⟨H,Z,I⟩⟩ ⟨w,D⟩
  replace w:Y=r.fG.length:=w;subst w
  replace D:Z=r.fPrices.length:=D;subst D
  refine co E (yS 1 [.slice F r.fG.length G,vI r.fW,.slice H r.fPrices.length I] sz_71 E (nB E) E E E) (oY E (yAI E) (oN (qt (eT (am ?_)))))
  obtain rfl:=sI h
  exact bJ (.inl E) E (bO 1 [.slice F r.fG.length G,vI r.fW,.slice H r.fPrices.length I] ag_71 E E E) (rVt (v:=vI 0) E) (fun W2 f=>⟨(((F,r.fG.length,G),aP F G 3 1 r.fG.length (encL cI r.fG)),((H,r.fPrices.length,I),aP H I 3 1 r.fPrices.length (encL cI r.fPrices))),⟨E,(fun _ _ h=>eE h.2),E,(fun _ _ h=>eE h.2)⟩,E,f.pickL [3,4] (by decide) E⟩)
theorem aO (p0:Int) (p1:Int) (p2:Int) (res:Bool) (h:aW p0 p1 p2=some res) (W:World)  :
  Calls Tryz.prog 109 [vI p0,vI p1,vI p2].toArray W fun e W2=>e=.returned (.bool res)∧Ext W W2 []:=by
 unfold aW at h
 refine ag (m:=15) Tryz.func109 E E (nB E) (cS (cR (oY E (yAB E) (oN (eT (cS (cR (oY E (yMI E) (oY E (yMI E) (oY E (mW E E) (oY E (yMB E) ?_)))))))))))
 refine oJ 4 (fun g=>(upd (upd g 6 (.bool false)) 14 (.bool ((decide (p1≤p0))&&(decide (p0≤p2)))))) (fun g=>?_) (fun key=>?_)
 ·refine oY E (yAB E) (oN (eT (am ?_)))
  obtain rfl:=sI h
  exact ak (.inl E) E (rVt (v:=.bool ((decide (p1≤p0))&&(decide (p0≤p2)))) E) (fun W2 o=>⟨E,o.none⟩)
 ·rcases aq (decide (p1≤p0))with f|f
  ·refine oY (sT E E E E f) (yMI E) (oY (sT E E E E f) (yMI E) (oY (sT E E E E f) (iA E E) (oY E (ac (vB f) E) ?_)))
   exact key _ _ (keep (keep E E) (vB (eU f)))
  ·refine oSk (sF E E E E f) (oSk (sF E E E E f) (oSk (sF E E E E f) (oY E (ad (vB f) E) ?_)))
   exact key _ _ (keep (keep E E) (vB (eY f)))
theorem db (p0:Int) (res:Bool) (h:cV p0=some res) (W:World)  :
  Calls Tryz.prog 77 [vI p0].toArray W fun e W2=>e=.returned (.bool res)∧Ext W W2 []:=by
 unfold cV at h
 refine ag (m:=5) Tryz.func77 E E (nB E) (cS (cR (oY E (yAB E) (oN (eT (cS (cR (oY E (yMI E) ?_))))))))
 obtain⟨o,g,h⟩:=bOs h
 refine oY E (yC [vI p0,vI 0,vI 16384] gk E (fun W2 f=>aO p0 0 16384 o g W2 ) E) (oY E (yAB E) (oN (eT (am ?_))))
 obtain rfl:=sI h
 exact ak (.inl E) E (rVt (v:=.bool o) E) (fun W2 f=>⟨E,f.none⟩)
theorem lN (p0:TY) (res:Int) (h:iG p0=some res) (W:World) (Aa:Option Addr) (n ca:Nat) (c:n=p0.fB.length) (Q:Rd W Aa n ca (encL aG p0.fB)) (Ab:Option Addr) (l cb:Nat) (f1:l=p0.fR.length) (U:Rd W Ab l cb (encL aC p0.fR)) :
  Calls Tryz.prog 46 [.agg #[.slice Aa n ca,.slice Ab l cb]].toArray W fun e W2=>e=.returned (vI res)∧Ext W W2 []:=by
 subst c
 subst f1
 unfold iG at h
 refine ag (m:=142) Tryz.func46 E E (nB E) (cS (cR ?_))
 refine aI [.slice Aa p0.fB.length ca,.slice Ab p0.fR.length cb] E E E (fun V=>?_)
 refine oY E (yAI E) (oN (eT (cS (cS (cR (oY E (yFA en E) (oY E (yL 0 ku E E E) (oY E (bg (us:=[]) kc E) (oY E (eW E E) (oY E (yMB E) ?_))))))))))
 refine oJ 5 (fun g=>(upd (upd (upd g 1 (.pointer (some ⟨V,0,none⟩))) 2 (vI 0)) 26 (.bool ((decide (24<(p0.fB.length:Int)))||(decide (24<(p0.fR.length:Int))))))) (fun g=>?_) (fun key=>?_)
 ·refine oN (eT ?_)
  rcases iOs h with⟨f2,h⟩|⟨f2,h⟩
  ·refine cT (vB f2) (cS (cR (oY E (yAI E) (oN (eT (am (aa ?_)))))))
   obtain rfl:=sI h
   exact ak (.inl E) E (rVt (v:=vI 2) E) (fun W2 d=>⟨E,d.none⟩)
  ·refine cF (vB f2) (cK (eT (cS (cS (cR (oY E (yAI E) (oN (eT (cB ?_)))))))))
   obtain⟨u6,fE,h⟩:=bOs h
   refine ba (fun(s:(Int × Int)) L tm=>∃(g:Nat→Value),L=[al V 53 [.slice Aa p0.fB.length ca,.slice Ab p0.fR.length cb]]∧tm=(upd (upd (upd g 1 (.pointer (some ⟨V,0,none⟩))) 2 (vI s.1)) 3 (vI s.2))) 0 fE ⟨_,E,(kp (kp (kp E)))⟩ ?_ ?_
   ·rintro N L tm st ⟨r0,rfl,rfl⟩ h
    unfold jg at h
    refine cS (cS (cR (oY E (yMI E) (oY E (yFA en E) (oY E (yL 0 ku E E E) (oY E (bg (us:=[]) kc E) (oY E (a6 E E) (oN (eT ?_)))))))))
    rcases iOs h with⟨f3,h⟩|⟨f3,h⟩
    ·refine cT (vB f3) (cK (eT (cS (cB (cS (cR (oY E (yFA en E) (oY E (yL 0 ku E E E) (oY E (yMI E) ?_)))))))))
     obtain⟨b,h⟩:=gOs h
     refine oY E (yI mV (by decide) b.1 b.2 (RdL.arg Q) (eL aL E) E E) ?_
     refine oY E (yM (A:=Aa) (j:=(Int.toNat N.2*3)) [vI ((rdL p0.fB N.2).fID),vI ((rdL p0.fB N.2).fHour),vI ((rdL p0.fB N.2).fD)] ag_69 (Nat.succ_pos _) (RdL.arg Q) E (be aL b.1 (ai b.2 E))) ?_
     refine aF pf E (fun b9=>?_)
     refine co E (yS 1 [vI ((rdL p0.fB N.2).fID),vI ((rdL p0.fB N.2).fHour),vI ((rdL p0.fB N.2).fD)] sz_69 E (nB E) E E E) (oN (eT (cS (cR (oY E (yFA kH E) (oY E (yL 1 aN E E E) ?_))))))
     obtain⟨X,fG,h⟩:=bOs h
     refine oY E (yC [vI ((rdL p0.fB N.2).fID),vI 1,vI 1099511627776] gk E (fun W2 d=>aO ((rdL p0.fB N.2).fID) 1 1099511627776 X fG W2 ) E) (oY E (yAB E) (oN (eT (cS (cR (oY E (yFA pX E) (oY E (yL 1 aN E E E) ?_)))))))
     obtain⟨Z,fK,h⟩:=bOs h
     refine oY E (yC [vI ((rdL p0.fB N.2).fHour)] qX E (fun W2 d=>db ((rdL p0.fB N.2).fHour) Z fK W2 ) E) (oY E (yAB E) (oN (eT (cS (cR (oY E (yFA qu E) (oY E (yL 1 aN E E E) ?_)))))))
     obtain⟨p,fT,h⟩:=bOs h
     refine oY E (yC [vI ((rdL p0.fB N.2).fD),vI 0,vI 9] gk E (fun W2 d=>aO ((rdL p0.fB N.2).fD) 0 9 p fT W2 ) E) (oY E (yAB E) (oN (eT (cS (cS (cR (oY E (yMB E) (oY E (bw E) (oY E (yMB E) ?_)))))))))
     refine oJ 3 (fun g=>(upd (upd (upd (upd (upd (upd (upd (upd (upd g 1 (.pointer (some ⟨V,0,none⟩))) 2 (vI N.1)) 3 (vI N.2)) 31 (.bool (decide (N.2<(p0.fB.length:Int))))) 4 (.pointer (some ⟨b9,0,none⟩))) 5 (.bool X)) 6 (.bool Z)) 7 (.bool p)) 53 (.bool ((!X)||(!Z))))) (fun g=>?_) (fun key=>?_)
     ·refine oY E (yMB E) ?_
      refine oJ 3 (fun g=>(upd (upd (upd (upd (upd (upd (upd (upd (upd g 1 (.pointer (some ⟨V,0,none⟩))) 2 (vI N.1)) 3 (vI N.2)) 31 (.bool (decide (N.2<(p0.fB.length:Int))))) 4 (.pointer (some ⟨b9,0,none⟩))) 5 (.bool X)) 6 (.bool Z)) 7 (.bool p)) 57 (.bool (((!X)||(!Z))||(!p))))) (fun g=>?_) (fun key=>?_)
      ·refine oN (eT ?_)
       rcases iOs h with⟨t,h⟩|⟨t,h⟩
       ·refine cT (vB t) (cS (cR (oY E (yAI E) (oN (eT (am (aa (ah (aa (aT 1 ?_))))))))))
        obtain rfl:=sI h
        exact au ⟨E,_,E,(kp (kp (kp E)))⟩
       ·refine cF (vB t) (cK (eT (cS (cR (oY E (yAI E) (oN (eT (cB ?_))))))))
        obtain⟨r2,fn,h⟩:=bOs h
        refine ba (fun(s:(Int × Int)) L tm=>∃(g:Nat→Value),L=[al V 53 [.slice Aa p0.fB.length ca,.slice Ab p0.fR.length cb],al b9 69 [vI ((rdL p0.fB N.2).fID),vI ((rdL p0.fB N.2).fHour),vI ((rdL p0.fB N.2).fD)]]∧tm=(upd (upd (upd (upd (upd (upd (upd (upd (upd (upd g 1 (.pointer (some ⟨V,0,none⟩))) 2 (vI s.1)) 3 (vI N.2)) 31 (.bool (decide (N.2<(p0.fB.length:Int))))) 4 (.pointer (some ⟨b9,0,none⟩))) 5 (.bool X)) 6 (.bool Z)) 7 (.bool p)) 57 (.bool (((!X)||(!Z))||(!p)))) 8 (vI s.2))) 2 fn ⟨_,E,(kp4 (kp4 (kp (kp E))))⟩ ?_ ?_
        ·rintro fr L tm st ⟨fl,rfl,rfl⟩ h
         unfold ja at h
         refine cS (cS (cR (oY E (yMI E) (oY E (yMI E) (oY E (a6 E E) (oN (eT ?_)))))))
         rcases iOs h with⟨a,h⟩|⟨a,h⟩
         ·refine cT (vB a) (cK (eT (cS (cB (cS ?_)))))
          refine aX 9 bZ (by kernel_rfl) (by kernel_rfl) ?_
          refine qY E (yFA en E) (qY E (yL 0 ku E E E) (qY E (yMI E) ?_))
          obtain⟨S,h⟩:=gOs h
          refine qY E (yI mV (by decide) S.1 S.2 (RdL.arg Q) (eL aL E) E E) ?_
          refine qY E (yFR (A:=Aa) (j:=(Int.toNat fr.2*3)) kH E) (qY E (yR (A:=Aa) (j:=((Int.toNat fr.2*3)+0)) (v:=vI ((rdL p0.fB fr.2).fID)) aN (RdL.arg Q) E (eG aL S.1 (ai S.2 E) E)) (qY E (yFA kH E) (qY E (yL 1 aN E E E) (qY E (cL E E) (bF (oN (eT ?_)))))))
          rcases iOs h with⟨z,h⟩|⟨z,h⟩
          ·refine cT (vB z) (cS (cR (oY E (yAI E) (oN (eT (am (ah (aa ?_))))))))
           obtain rfl:=sI h
           exact au ⟨E,_,E,(kp4 (kp4 (kp (kp E))))⟩
          ·refine cF (vB z) (cK (aw (eT (cR (oY E (yMI E) (oY E (aM E E) (oY E (yAI E) (oN ?_))))))))
           obtain rfl:=sI h
           exact eN ⟨_,E,(kp4 (kp4 (kp (kp E))))⟩
         ·refine cF (vB a) (aD (aj ?_))
          obtain rfl:=sI h
          exact au ⟨E,_,E,(kp4 (kp4 (kp (kp E))))⟩
        ·intro e L tm hJ
         rcases r2 with u0|u1
         ·dsimp only at h hJ
          obtain⟨rfl,ft,rfl,rfl⟩:=hJ
          refine⟨(by intro hc;cases hc),?_⟩
          refine ah (ah (aa (aT 1 ?_)))
          obtain rfl:=sI h
          exact au ⟨E,_,E,(kp (kp (kp E)))⟩
         ·dsimp only at h hJ
          obtain⟨rfl,g1,rfl,rfl⟩:=hJ
          refine⟨(by intro hc;cases hc),?_⟩
          refine ae (aw (eT (cR (oY E (yMI E) (oY E (aM E E) (oY E (yAI E) (oN (aT 1 ?_))))))))
          obtain rfl:=sI h
          exact eN ⟨_,E,(kp (kp (kp E)))⟩
      ·rcases aq ((!X)||(!Z))with D|D
       ·refine oSk (sF E E E E D) (oSk (sF E E E E D) (oY E (ac (vB D) E) ?_))
        exact key _ _ (keep (keep (keep (keep (keep (keep (keep (keep (keep E E) E) E) E) E) E) E) E) (vB (iy D)))
       ·refine oY (sT E E E E D) (yMB E) (oY (sT E E E E D) (bw E) (oY E (ad (vB D) E) ?_))
        exact key _ _ (keep (keep (keep (keep (keep (keep (keep (keep (keep E E) E) E) E) E) E) E) E) (vB (iw D)))
     ·rcases aq (!X)with F|F
      ·refine oSk (sF E E E E F) (oSk (sF E E E E F) (oY E (ac (vB F) E) ?_))
       exact key _ _ (keep (keep (keep (keep (keep (keep (keep (keep (keep E E) E) E) E) E) E) E) E) (vB (iy F)))
      ·refine oY (sT E E E E F) (yMB E) (oY (sT E E E E F) (bw E) (oY E (ad (vB F) E) ?_))
       exact key _ _ (keep (keep (keep (keep (keep (keep (keep (keep (keep E E) E) E) E) E) E) E) E) (vB (iw F)))
    ·refine cF (vB f3) (aD (aj ?_))
     obtain rfl:=sI h
     exact au ⟨E,_,E,(kp (kp (kp E)))⟩
   ·intro e L tm hJ
    rcases u6 with r3|u2
    ·dsimp only at h hJ
     obtain⟨rfl,g2,rfl,rfl⟩:=hJ
     refine⟨(by intro hc;cases hc),?_⟩
     refine ah (aa ?_)
     obtain rfl:=sI h
     exact ak (.inl E) E (rVt (v:=vI r3.1) E) (fun W2 d=>⟨E,d.none⟩)
    ·dsimp only at h hJ
     obtain⟨rfl,gf,rfl,rfl⟩:=hJ
     refine⟨(by intro hc;cases hc),?_⟩
     refine ae (eT (cS (cS (cR (oY E (yAI E) (oN (eT (cB ?_))))))))
     obtain⟨r4,go,h⟩:=bOs h
     refine ba (fun(s:(Int × Int)) L tm=>∃(g:Nat→Value),L=[al V 53 [.slice Aa p0.fB.length ca,.slice Ab p0.fR.length cb]]∧tm=(upd (upd (upd g 1 (.pointer (some ⟨V,0,none⟩))) 2 (vI s.1)) 9 (vI s.2))) 4 go ⟨_,E,(kp (kp (kp E)))⟩ ?_ ?_
     ·rintro f L tm st ⟨o0,rfl,rfl⟩ h
      unfold jc at h
      refine cS (cS (cR (oY E (yMI E) (oY E (yFA cg E) (oY E (yL 0 gT E E E) (oY E (bg (us:=[]) lD E) (oY E (a6 E E) (oN (eT ?_)))))))))
      rcases iOs h with⟨i,h⟩|⟨i,h⟩
      ·refine cT (vB i) (cK (eT (cS (cB (cS (cR (oY E (yFA cg E) (oY E (yL 0 gT E E E) (oY E (yMI E) ?_)))))))))
       obtain⟨R,h⟩:=gOs h
       refine oY E (yI kz (by decide) R.1 R.2 (RdL.arg U) (eL av E) E E) ?_
       refine oY E (yM (A:=Ab) (j:=(Int.toNat f.2*5)) [vI ((rdL p0.fR f.2).fID),vI ((rdL p0.fR f.2).fH.fLo),vI ((rdL p0.fR f.2).fH.fHi),vI ((rdL p0.fR f.2).fD),vI ((rdL p0.fR f.2).fW)] qR (Nat.succ_pos _) (RdL.arg U) E (be av R.1 (ai R.2 E))) ?_
       refine aF ph E (fun T=>?_)
       refine co E (yS 1 [vI ((rdL p0.fR f.2).fID),vI ((rdL p0.fR f.2).fH.fLo),vI ((rdL p0.fR f.2).fH.fHi),vI ((rdL p0.fR f.2).fD),vI ((rdL p0.fR f.2).fW)] sz_65 E (nB E) E E E) (oN (eT (cS (cR (oY E (yFA kw E) (oY E (yL 1 aN E E E) ?_))))))
       obtain⟨r,o1,h⟩:=bOs h
       refine oY E (yC [vI ((rdL p0.fR f.2).fID),vI 1,vI 1099511627776] gk E (fun W2 d=>aO ((rdL p0.fR f.2).fID) 1 1099511627776 r o1 W2 ) E) (oY E (yAB E) (oN (eT (cS (cR (oY E (yFA hQ E) (oY E (yFA gt E) (oY E (yL 1 aN E E E) ?_))))))))
       obtain⟨u,o2,h⟩:=bOs h
       refine oY E (yC [vI ((rdL p0.fR f.2).fH.fLo)] qX E (fun W2 d=>db ((rdL p0.fR f.2).fH.fLo) u o2 W2 ) E) (oY E (yAB E) (oN (eT (cS (cR (oY E (yFA hQ E) (oY E (yFA eH E) (oY E (yL 1 aN E E E) ?_))))))))
       obtain⟨w,oX,h⟩:=bOs h
       refine oY E (yC [vI ((rdL p0.fR f.2).fH.fHi)] qX E (fun W2 d=>db ((rdL p0.fR f.2).fH.fHi) w oX W2 ) E) (oY E (yAB E) (oN (eT (cS (cR (oY E (yFA qr E) (oY E (yL 1 aN E E E) ?_)))))))
       obtain⟨O,oq,h⟩:=bOs h
       refine oY E (yC [vI ((rdL p0.fR f.2).fD),vI 0,vI 9] gk E (fun W2 d=>aO ((rdL p0.fR f.2).fD) 0 9 O oq W2 ) E) (oY E (yAB E) (oN (eT (cS (cR (oY E (yFA jo E) (oY E (yL 1 aN E E E) ?_)))))))
       obtain⟨Y,op,h⟩:=bOs h
       refine oY E (yC [vI ((rdL p0.fR f.2).fW),vI 1,vI 1000] gk E (fun W2 d=>aO ((rdL p0.fR f.2).fW) 1 1000 Y op W2 ) E) (oY E (yAB E) (oN (eT (cS (cS (cR (oY E (yMB E) (oY E (bw E) (oY E (yMB E) ?_)))))))))
       refine oJ 3 (fun g=>(upd (upd (upd (upd (upd (upd (upd (upd (upd (upd (upd g 1 (.pointer (some ⟨V,0,none⟩))) 2 (vI f.1)) 9 (vI f.2)) 76 (.bool (decide (f.2<(p0.fR.length:Int))))) 10 (.pointer (some ⟨T,0,none⟩))) 11 (.bool r)) 12 (.bool u)) 13 (.bool w)) 14 (.bool O)) 15 (.bool Y)) 106 (.bool ((!r)||(!u))))) (fun g=>?_) (fun key=>?_)
       ·refine oY E (yMB E) ?_
        refine oJ 3 (fun g=>(upd (upd (upd (upd (upd (upd (upd (upd (upd (upd (upd g 1 (.pointer (some ⟨V,0,none⟩))) 2 (vI f.1)) 9 (vI f.2)) 76 (.bool (decide (f.2<(p0.fR.length:Int))))) 10 (.pointer (some ⟨T,0,none⟩))) 11 (.bool r)) 12 (.bool u)) 13 (.bool w)) 14 (.bool O)) 15 (.bool Y)) 110 (.bool (((!r)||(!u))||(!w))))) (fun g=>?_) (fun key=>?_)
        ·refine oY E (yMB E) ?_
         refine oJ 8 (fun g=>(upd (upd (upd (upd (upd (upd (upd (upd (upd (upd (upd g 1 (.pointer (some ⟨V,0,none⟩))) 2 (vI f.1)) 9 (vI f.2)) 76 (.bool (decide (f.2<(p0.fR.length:Int))))) 10 (.pointer (some ⟨T,0,none⟩))) 11 (.bool r)) 12 (.bool u)) 13 (.bool w)) 14 (.bool O)) 15 (.bool Y)) 119 (.bool ((((!r)||(!u))||(!w))||(decide ((rdL p0.fR f.2).fH.fHi<(rdL p0.fR f.2).fH.fLo)))))) (fun g=>?_) (fun key=>?_)
         ·refine oY E (yMB E) ?_
          refine oJ 3 (fun g=>(upd (upd (upd (upd (upd (upd (upd (upd (upd (upd (upd g 1 (.pointer (some ⟨V,0,none⟩))) 2 (vI f.1)) 9 (vI f.2)) 76 (.bool (decide (f.2<(p0.fR.length:Int))))) 10 (.pointer (some ⟨T,0,none⟩))) 11 (.bool r)) 12 (.bool u)) 13 (.bool w)) 14 (.bool O)) 15 (.bool Y)) 123 (.bool (((((!r)||(!u))||(!w))||(decide ((rdL p0.fR f.2).fH.fHi<(rdL p0.fR f.2).fH.fLo)))||(!O))))) (fun g=>?_) (fun key=>?_)
          ·refine oY E (yMB E) ?_
           refine oJ 3 (fun g=>(upd (upd (upd (upd (upd (upd (upd (upd (upd (upd (upd g 1 (.pointer (some ⟨V,0,none⟩))) 2 (vI f.1)) 9 (vI f.2)) 76 (.bool (decide (f.2<(p0.fR.length:Int))))) 10 (.pointer (some ⟨T,0,none⟩))) 11 (.bool r)) 12 (.bool u)) 13 (.bool w)) 14 (.bool O)) 15 (.bool Y)) 127 (.bool ((((((!r)||(!u))||(!w))||(decide ((rdL p0.fR f.2).fH.fHi<(rdL p0.fR f.2).fH.fLo)))||(!O))||(!Y))))) (fun g=>?_) (fun key=>?_)
           ·refine oN (eT ?_)
            rcases iOs h with⟨k,h⟩|⟨k,h⟩
            ·refine cT (vB k) (cS (cR (oY E (yAI E) (oN (eT (am (aa (ah (aa (aT 1 ?_))))))))))
             obtain rfl:=sI h
             exact au ⟨E,_,E,(kp (kp (kp E)))⟩
            ·refine cF (vB k) (cK (eT (cS (cR (oY E (yAI E) (oN (eT (cB ?_))))))))
             obtain⟨r5,om,h⟩:=bOs h
             refine ba (fun(s:(Int × Int)) L tm=>∃(g:Nat→Value),L=[al V 53 [.slice Aa p0.fB.length ca,.slice Ab p0.fR.length cb],al T 65 [vI ((rdL p0.fR f.2).fID),vI ((rdL p0.fR f.2).fH.fLo),vI ((rdL p0.fR f.2).fH.fHi),vI ((rdL p0.fR f.2).fD),vI ((rdL p0.fR f.2).fW)]]∧tm=(upd (upd (upd (upd (upd (upd (upd (upd (upd (upd (upd (upd g 1 (.pointer (some ⟨V,0,none⟩))) 2 (vI s.1)) 9 (vI f.2)) 76 (.bool (decide (f.2<(p0.fR.length:Int))))) 10 (.pointer (some ⟨T,0,none⟩))) 11 (.bool r)) 12 (.bool u)) 13 (.bool w)) 14 (.bool O)) 15 (.bool Y)) 127 (.bool ((((((!r)||(!u))||(!w))||(decide ((rdL p0.fR f.2).fH.fHi<(rdL p0.fR f.2).fH.fLo)))||(!O))||(!Y)))) 16 (vI s.2))) 6 om ⟨_,E,(kp4 (kp4 (kp4 E)))⟩ ?_ ?_
             ·rintro fd L tm st ⟨ot,rfl,rfl⟩ h
              unfold ji at h
              refine cS (cS (cR (oY E (yMI E) (oY E (yMI E) (oY E (a6 E E) (oN (eT ?_)))))))
              rcases iOs h with⟨x,h⟩|⟨x,h⟩
              ·refine cT (vB x) (cK (eT (cS (cB (cS ?_)))))
               refine aX 9 bZ (by kernel_rfl) (by kernel_rfl) ?_
               refine qY E (yFA cg E) (qY E (yL 0 gT E E E) (qY E (yMI E) ?_))
               obtain⟨q,h⟩:=gOs h
               refine qY E (yI kz (by decide) q.1 q.2 (RdL.arg U) (eL av E) E E) ?_
               refine qY E (yFR (A:=Ab) (j:=(Int.toNat fd.2*5)) kw E) (qY E (yR (A:=Ab) (j:=((Int.toNat fd.2*5)+0)) (v:=vI ((rdL p0.fR fd.2).fID)) aN (RdL.arg U) E (eG av q.1 (ai q.2 E) E)) (qY E (yFA kw E) (qY E (yL 1 aN E E E) (qY E (cL E E) (bF (oN (eT ?_)))))))
               rcases iOs h with⟨y,h⟩|⟨y,h⟩
               ·refine cT (vB y) (cS (cR (oY E (yAI E) (oN (eT (am (ah (aa ?_))))))))
                obtain rfl:=sI h
                exact au ⟨E,_,E,(kp4 (kp4 (kp4 E)))⟩
               ·refine cF (vB y) (cK (aw (eT (cR (oY E (yMI E) (oY E (aM E E) (oY E (yAI E) (oN ?_))))))))
                obtain rfl:=sI h
                exact eN ⟨_,E,(kp4 (kp4 (kp4 E)))⟩
              ·refine cF (vB x) (aD (aj ?_))
               obtain rfl:=sI h
               exact au ⟨E,_,E,(kp4 (kp4 (kp4 E)))⟩
             ·intro e L tm hJ
              rcases r5 with u3|u4
              ·dsimp only at h hJ
               obtain⟨rfl,oa,rfl,rfl⟩:=hJ
               refine⟨(by intro hc;cases hc),?_⟩
               refine ah (ah (aa (aT 1 ?_)))
               obtain rfl:=sI h
               exact au ⟨E,_,E,(kp (kp (kp E)))⟩
              ·dsimp only at h hJ
               obtain⟨rfl,oi,rfl,rfl⟩:=hJ
               refine⟨(by intro hc;cases hc),?_⟩
               refine ae (aw (eT (cR (oY E (yMI E) (oY E (aM E E) (oY E (yAI E) (oN (aT 1 ?_))))))))
               obtain rfl:=sI h
               exact eN ⟨_,E,(kp (kp (kp E)))⟩
           ·rcases aq (((((!r)||(!u))||(!w))||(decide ((rdL p0.fR f.2).fH.fHi<(rdL p0.fR f.2).fH.fLo)))||(!O))with G|G
            ·refine oSk (sF E E E E G) (oSk (sF E E E E G) (oY E (ac (vB G) E) ?_))
             exact key _ _ (keep (keep (keep (keep (keep (keep (keep (keep (keep (keep (keep E E) E) E) E) E) E) E) E) E) E) (vB (iy G)))
            ·refine oY (sT E E E E G) (yMB E) (oY (sT E E E E G) (bw E) (oY E (ad (vB G) E) ?_))
             exact key _ _ (keep (keep (keep (keep (keep (keep (keep (keep (keep (keep (keep E E) E) E) E) E) E) E) E) E) E) (vB (iw G)))
          ·rcases aq ((((!r)||(!u))||(!w))||(decide ((rdL p0.fR f.2).fH.fHi<(rdL p0.fR f.2).fH.fLo)))with H|H
           ·refine oSk (sF E E E E H) (oSk (sF E E E E H) (oY E (ac (vB H) E) ?_))
            exact key _ _ (keep (keep (keep (keep (keep (keep (keep (keep (keep (keep (keep E E) E) E) E) E) E) E) E) E) E) (vB (iy H)))
           ·refine oY (sT E E E E H) (yMB E) (oY (sT E E E E H) (bw E) (oY E (ad (vB H) E) ?_))
            exact key _ _ (keep (keep (keep (keep (keep (keep (keep (keep (keep (keep (keep E E) E) E) E) E) E) E) E) E) E) (vB (iw H)))
         ·rcases aq (((!r)||(!u))||(!w))with o|o
          ·refine oSk (sF E E E E o) (oSk (sF E E E E o) (oSk (sF E E E E o) (oSk (sF E E E E o) (oSk (sF E E E E o) (oSk (sF E E E E o) (oSk (sF E E E E o) (oY E (ac (vB o) E) ?_)))))))
           exact key _ _ (keep (keep (keep (keep (keep (keep (keep (keep (keep (keep (keep E E) E) E) E) E) E) E) E) E) E) (vB (iy o)))
          ·refine oY (sT E E E E o) (yFA hQ E) (oY (sT E E E E o) (yFA gt E) (oY (sT E E E E o) (yL 1 aN E E E) (oY (sT E E E E o) (yFA hQ E) (oY (sT E E E E o) (yFA eH E) (oY (sT E E E E o) (yL 1 aN E E E) (oY (sT E E E E o) (eW E E) (oY E (ad (vB o) E) ?_)))))))
           exact key _ _ (keep (keep (keep (keep (keep (keep (keep (keep (keep (keep (keep E E) E) E) E) E) E) E) E) E) E) (vB (iw o)))
        ·rcases aq ((!r)||(!u))with I|I
         ·refine oSk (sF E E E E I) (oSk (sF E E E E I) (oY E (ac (vB I) E) ?_))
          exact key _ _ (keep (keep (keep (keep (keep (keep (keep (keep (keep (keep (keep E E) E) E) E) E) E) E) E) E) E) (vB (iy I)))
         ·refine oY (sT E E E E I) (yMB E) (oY (sT E E E E I) (bw E) (oY E (ad (vB I) E) ?_))
          exact key _ _ (keep (keep (keep (keep (keep (keep (keep (keep (keep (keep (keep E E) E) E) E) E) E) E) E) E) E) (vB (iw I)))
       ·rcases aq (!r)with K|K
        ·refine oSk (sF E E E E K) (oSk (sF E E E E K) (oY E (ac (vB K) E) ?_))
         exact key _ _ (keep (keep (keep (keep (keep (keep (keep (keep (keep (keep (keep E E) E) E) E) E) E) E) E) E) E) (vB (iy K)))
        ·refine oY (sT E E E E K) (yMB E) (oY (sT E E E E K) (bw E) (oY E (ad (vB K) E) ?_))
         exact key _ _ (keep (keep (keep (keep (keep (keep (keep (keep (keep (keep (keep E E) E) E) E) E) E) E) E) E) E) (vB (iw K)))
      ·refine cF (vB i) (aD (aj ?_))
       obtain rfl:=sI h
       exact au ⟨E,_,E,(kp (kp (kp E)))⟩
     ·intro e L tm hJ
      rcases r4 with rd|u5
      ·dsimp only at h hJ
       obtain⟨rfl,oj,rfl,rfl⟩:=hJ
       refine⟨(by intro hc;cases hc),?_⟩
       refine ah (aa ?_)
       obtain rfl:=sI h
       exact ak (.inl E) E (rVt (v:=vI rd.1) E) (fun W2 d=>⟨E,d.none⟩)
      ·dsimp only at h hJ
       obtain⟨rfl,ok,rfl,rfl⟩:=hJ
       refine⟨(by intro hc;cases hc),?_⟩
       refine ae (eT (cS (cR (oY E (yAI E) (oN (eT (am ?_)))))))
       obtain rfl:=sI h
       exact ak (.inl E) E (rVt (v:=vI 0) E) (fun W2 d=>⟨E,d.none⟩)
 ·rcases aq (decide (24<(p0.fB.length:Int)))with M|M
  ·refine oSk (sF E E E E M) (oSk (sF E E E E M) (oSk (sF E E E E M) (oSk (sF E E E E M) (oY E (ac (vB M) E) ?_))))
   exact key _ _ (keep (keep (keep E E) E) (vB (iy M)))
  ·refine oY (sT E E E E M) (yFA cg E) (oY (sT E E E E M) (yL 0 gT E E E) (oY (sT E E E E M) (bg (us:=[]) lD E) (oY (sT E E E E M) (eW E E) (oY E (ad (vB M) E) ?_))))
   exact key _ _ (keep (keep (keep E E) E) (vB (iw M)))
theorem rf (p0:TY) (p1:Int) (res:Int) (h:oI p0 p1=some res) (W:World) (Aa:Option Addr) (f ca:Nat) (u:f=p0.fB.length) (g:Rd W Aa f ca (encL aG p0.fB)) (Ab:Option Addr) (o cb:Nat) (d:o=p0.fR.length) (K:Rd W Ab o cb (encL aC p0.fR)) :
  Calls Tryz.prog 98 [.agg #[.slice Aa f ca,.slice Ab o cb],vI p1].toArray W fun e W2=>e=.returned (vI res)∧Ext W W2 []:=by
 subst u
 subst d
 unfold oI at h
 refine ag (m:=22) Tryz.func98 E E (nB E) (cS (cR ?_))
 refine aI [.slice Aa p0.fB.length ca,.slice Ab p0.fR.length cb] E E E (fun Q=>?_)
 refine oY E (yAI E) (oN (eT (cS (cS (cR (oY E (yAI E) (oN (eT (cB ?_)))))))))
 obtain⟨U,M,h⟩:=bOs h
 refine ba (fun(s:(Int × Int)) L tm=>∃(N:Nat→Value),L=[al Q 53 [.slice Aa p0.fB.length ca,.slice Ab p0.fR.length cb]]∧tm=(upd (upd (upd (upd N 1 (vI p1)) 2 (.pointer (some ⟨Q,0,none⟩))) 4 (vI s.1)) 5 (vI s.2))) 0 M ⟨_,E,(kp4 E)⟩ ?_ ?_
 ·rintro O L tm st ⟨H,rfl,rfl⟩ h
  unfold m5 at h
  refine cS (cS (cR (oY E (yMI E) (oY E (yFA en E) (oY E (yL 0 ku E E E) (oY E (bg (us:=[]) kc E) (oY E (a6 E E) (oN (eT ?_)))))))))
  rcases iOs h with⟨w,h⟩|⟨w,h⟩
  ·refine cT (vB w) (cK (eT (cS (cB (cS (cR (oY E (yFA en E) (oY E (yL 0 ku E E E) (oY E (yMI E) ?_)))))))))
   obtain⟨r,h⟩:=gOs h
   refine oY E (yI mV (by decide) r.1 r.2 (RdL.arg g) (eL aL E) E E) ?_
   refine oY E (yFR (A:=Aa) (j:=(Int.toNat O.2*3)) kH E) (oY E (yR (A:=Aa) (j:=((Int.toNat O.2*3)+0)) (v:=vI ((rdL p0.fB O.2).fID)) aN (RdL.arg g) E (eG aL r.1 (ai r.2 E) E)) (oY E (yMI E) (oY E (cL E E) (oN (eT ?_)))))
   rcases iOs h with⟨D,h⟩|⟨D,h⟩
   ·refine cT (vB D) (cS (cR (oY E (yMI E) (oY E (yAI E) (oN (eT (am (ah (aa ?_)))))))))
    obtain rfl:=sI h
    exact au ⟨E,_,E,(kp4 E)⟩
   ·refine cF (vB D) (cK (aw (eT (cR (oY E (yMI E) (oY E (aM E E) (oY E (yAI E) (oN ?_))))))))
    obtain rfl:=sI h
    exact eN ⟨_,E,(kp4 E)⟩
  ·refine cF (vB w) (aD (aj ?_))
   obtain rfl:=sI h
   exact au ⟨E,_,E,(kp4 E)⟩
 ·intro e L tm hJ
  rcases U with X|Y
  ·dsimp only at h hJ
   obtain⟨rfl,I,rfl,rfl⟩:=hJ
   refine⟨(by intro hc;cases hc),?_⟩
   refine ah (aa ?_)
   obtain rfl:=sI h
   exact ak (.inl E) E (rVt (v:=vI X.1) E) (fun W2 F=>⟨E,F.none⟩)
  ·dsimp only at h hJ
   obtain⟨rfl,G,rfl,rfl⟩:=hJ
   refine⟨(by intro hc;cases hc),?_⟩
   refine ae (eT (cS (cR (oY E (yAI E) (oN (eT (am ?_)))))))
   obtain rfl:=sI h
   exact ak (.inl E) E (rVt (v:=vI (-1)) E) (fun W2 F=>⟨E,F.none⟩)
theorem jn (p0:TY) (p1:Int) (p2:Int) (res:Bool) (h:iJ p0 p1 p2=some res) (W:World) (Aa:Option Addr) (d ca:Nat) (H:d=p0.fB.length) (o:Rd W Aa d ca (encL aG p0.fB)) (Ab:Option Addr) (w cb:Nat) (I:w=p0.fR.length) (g:Rd W Ab w cb (encL aC p0.fR)) :
  Calls Tryz.prog 104 [.agg #[.slice Aa d ca,.slice Ab w cb],vI p1,vI p2].toArray W fun e W2=>e=.returned (.bool res)∧Ext W W2 []:=by
 subst H
 subst I
 unfold iJ at h
 refine ag (m:=45) Tryz.func104 E E (nB E) (cS (cR ?_))
 refine aI [.slice Aa p0.fB.length ca,.slice Ab p0.fR.length cb] E E E (fun X=>?_)
 refine oY E (yAB E) (oN (eT (cS ?_)))
 refine aX 22 bZ (by kernel_rfl) (by kernel_rfl) ?_
 refine qY E (yFA en E) (qY E (yL 0 ku E E E) (qY E (yMI E) ?_))
 obtain⟨D,h⟩:=gOs h
 refine qY E (yI mV (by decide) D.1 D.2 (RdL.arg o) (eL aL E) E E) ?_
 refine qY E (yFR (A:=Aa) (j:=(Int.toNat p2*3)) pX E) (qY E (yR (A:=Aa) (j:=((Int.toNat p2*3)+1)) (v:=vI ((rdL p0.fB p2).fHour)) aN (RdL.arg o) E (eG aL D.1 (ai D.2 E) E)) (qY E (yFA cg E) (qY E (yL 0 gT E E E) (qY E (yMI E) ?_))))
 obtain⟨F,h⟩:=gOs h
 refine qY E (yI kz (by decide) F.1 F.2 (RdL.arg g) (eL av E) E E) ?_
 refine qY E (yFR (A:=Ab) (j:=(Int.toNat p1*5)) hQ E) (qY E (yFR (A:=Ab) (j:=((Int.toNat p1*5)+1)) gt E) (qY E (yR (A:=Ab) (j:=(((Int.toNat p1*5)+1)+0)) (v:=vI ((rdL p0.fR p1).fH.fLo)) aN (RdL.arg g) E (eG (q:=1) av F.1 (ai F.2 E) E)) (qY E (yFA cg E) (qY E (yL 0 gT E E E) (qY E (yMI E) ?_)))))
 obtain⟨G,h⟩:=gOs h
 refine qY E (yI kz (by decide) G.1 G.2 (RdL.arg g) (eL av E) E E) ?_
 refine qY E (yFR (A:=Ab) (j:=(Int.toNat p1*5)) hQ E) (qY E (yFR (A:=Ab) (j:=((Int.toNat p1*5)+1)) eH E) (qY E (yR (A:=Ab) (j:=(((Int.toNat p1*5)+1)+1)) (v:=vI ((rdL p0.fR p1).fH.fHi)) aN (RdL.arg g) E (eG (q:=2) av G.1 (ai G.2 E) E)) ?_))
 obtain⟨U,N,h⟩:=bOs h
 refine qY E (yC [vI ((rdL p0.fB p2).fHour),vI ((rdL p0.fR p1).fH.fLo),vI ((rdL p0.fR p1).fH.fHi)] gk E (fun W2 K=>aO ((rdL p0.fB p2).fHour) ((rdL p0.fR p1).fH.fLo) ((rdL p0.fR p1).fH.fHi) U N W2 ) E) (qY E (yAB E) (bF (oN (eT (cS ?_)))))
 refine aX 17 bZ (by kernel_rfl) (by kernel_rfl) ?_
 refine qY E (yMB E) (qY E (yMB E) ?_)
 obtain⟨Q,O,h⟩:=bOs h
 refine qJ 14 (fun M=>(upd (upd M 6 (.bool false)) 44 (.bool Q))) (fun M=>?_) (fun key=>?_)
 ·refine qY E (yAB E) (bF (oN (eT (am ?_))))
  obtain rfl:=sI h
  exact ak (.inl E) E (rVt (v:=.bool Q) E) (fun W2 K=>⟨E,K.none⟩)
 ·clear h;rcases iOs O with⟨f,h⟩|⟨f,h⟩
  ·refine qY (sT E E E E f) (yFA en E) (qY (sT E E E E f) (yL 0 ku E E E) (qY (sT E E E E f) (yMI E) ?_))
   obtain⟨r,h⟩:=gOs h
   refine qY (sT E E E E f) (yI mV (by decide) r.1 r.2 (RdL.arg o) (eL aL E) E E) ?_
   refine qY (sT E E E E f) (yFR (A:=Aa) (j:=(Int.toNat p2*3)) qu E) (qY (sT E E E E f) (yR (A:=Aa) (j:=((Int.toNat p2*3)+2)) (v:=vI ((rdL p0.fB p2).fD)) aN (RdL.arg o) E (eG aL r.1 (ai r.2 E) E)) (qY (sT E E E E f) (yFA cg E) (qY (sT E E E E f) (yL 0 gT E E E) (qY (sT E E E E f) (yMI E) ?_))))
   obtain⟨u,h⟩:=gOs h
   refine qY (sT E E E E f) (yI kz (by decide) u.1 u.2 (RdL.arg g) (eL av E) E E) ?_
   refine qY (sT E E E E f) (yFR (A:=Ab) (j:=(Int.toNat p1*5)) qr E) (qY (sT E E E E f) (yR (A:=Ab) (j:=((Int.toNat p1*5)+3)) (v:=vI ((rdL p0.fR p1).fD)) aN (RdL.arg g) E (eG av u.1 (ai u.2 E) E)) (qY (sT E E E E f) (mW E E) (qY E (ac (vB f) E) ?_)))
   obtain rfl:=sI h
   exact key _ _ (kp (kp E))
  ·refine ab (sF E E E E f) (ab (sF E E E E f) (ab (sF E E E E f) (ab (sF E E E E f) (ab (sF E E E E f) (ab (sF E E E E f) (ab (sF E E E E f) (ab (sF E E E E f) (ab (sF E E E E f) (ab (sF E E E E f) (ab (sF E E E E f) (ab (sF E E E E f) (ab (sF E E E E f) (qY E (ad (vB f) E) ?_)))))))))))))
   obtain rfl:=sI h
   exact key _ _ (kp (kp E))
theorem qg (p0:TY) (p1:(List Int)) (p2:Int) (res:Bool) (h:mB p0 p1 p2=some res) (W:World) (Aa:Option Addr) (D ca:Nat) (X:D=p0.fB.length) (F:Rd W Aa D ca (encL aG p0.fB)) (Ab:Option Addr) (G cb:Nat) (Y:G=p0.fR.length) (o:Rd W Ab G cb (encL aC p0.fR)) (Ac:Option Addr) (H cc:Nat) (Z:H=p1.length) (f:Rd W Ac H cc (encL cI p1)) :
  Calls Tryz.prog 105 [.agg #[.slice Aa D ca,.slice Ab G cb],.slice Ac H cc,vI p2].toArray W fun e W2=>e=.returned (.bool res)∧Ext W W2 []:=by
 subst X
 subst Y
 subst Z
 unfold mB at h
 refine ag (m:=68) Tryz.func105 E E (nB E) (cS (cR ?_))
 refine aI [.slice Aa p0.fB.length ca,.slice Ab p0.fR.length cb] E E E (fun b=>?_)
 refine oY E (yAB E) (oN (eT (cS (cS (cR (oY E (yMS E) (oY E (bg (us:=[]) cO E) (oY E (yFA cg E) (oY E (yL 0 gT E E E) (oY E (bg (us:=[]) lD E) (oY E (cU E E) (oN (eT ?_)))))))))))))
 rcases iOs h with⟨V,h⟩|⟨V,h⟩
 ·refine cT (vB V) (cS (cR (oY E (yAB E) (oN (eT (am (aa ?_)))))))
  obtain rfl:=sI h
  exact ak (.inl E) E (rVt (v:=.bool false) E) (fun W2 g=>⟨E,g.none⟩)
 ·refine cF (vB V) (cK (eT (cS (cR (oY E (yAI E) (oN (eT (cS (cS (cR (oY E (yAI E) (oN (eT (cB ?_))))))))))))))
  obtain⟨u5,p,h⟩:=bOs h
  refine ba (fun(s:(Bool × Int × Int)) L tm=>∃(T:Nat→Value),L=[al b 53 [.slice Aa p0.fB.length ca,.slice Ab p0.fR.length cb]]∧tm=(upd (upd (upd (upd (upd (upd T 1 (.slice Ac p1.length cc)) 2 (vI p2)) 3 (.pointer (some ⟨b,0,none⟩))) 6 (.bool s.1)) 7 (vI s.2.1)) 8 (vI s.2.2))) 0 p ⟨_,E,(kp4 (kp (kp E)))⟩ ?_ ?_
  ·rintro r L tm st ⟨c,rfl,rfl⟩ h
   unfold ml at h
   refine cS (cS (cR (oY E (yMI E) (oY E (yMS E) (oY E (bg (us:=[]) cO E) (oY E (a6 E E) (oN (eT ?_))))))))
   rcases iOs h with⟨S,h⟩|⟨S,h⟩
   ·refine cT (vB S) (cK (eT (cS (cB (cS (cS (cR (oY E (yMS E) (oY E (yMI E) ?_)))))))))
    obtain⟨Q,h⟩:=gOs h
    refine oY E (yI bS (by decide) Q.1 Q.2 (RdL.arg f) (eL aB E) E E) ?_
    refine oY E (yR (A:=Ac) (j:=(Int.toNat r.2.2*1)) (v:=vI (rdL p1 r.2.2)) aN (RdL.arg f) E (ax aB Q.1 (ai Q.2 E) E)) (oY E (cL E E) (oN (eT ?_)))
    rcases iOs h with⟨R,h⟩|⟨R,h⟩
    ·refine cT (vB R) (aD (aj (ae (eT (cR (oY E (yMI E) (oY E (aM E E) (oY E (yAI E) (oN ?_)))))))))
     obtain rfl:=sI h
     exact eN ⟨_,E,(kp4 (kp (kp E)))⟩
    ·refine cF (vB R) (cK (eT (cS ?_)))
     refine aX 7 bZ (by kernel_rfl) (by kernel_rfl) ?_
     refine qY E (yN 0 [.slice Aa p0.fB.length ca,.slice Ab p0.fR.length cb] dl E E E) (qY E (yMS E) (qY E (yMI E) ?_))
     obtain⟨U,h⟩:=gOs h
     refine qY E (yI bS (by decide) U.1 U.2 (RdL.arg f) (eL aB E) E E) ?_
     refine qY E (yR (A:=Ac) (j:=(Int.toNat r.2.2*1)) (v:=vI (rdL p1 r.2.2)) aN (RdL.arg f) E (ax aB U.1 (ai U.2 E) E)) ?_
     obtain⟨I,n,h⟩:=bOs h
     refine qY E (yC [.agg #[.slice Aa p0.fB.length ca,.slice Ab p0.fR.length cb],vI (rdL p1 r.2.2)] go_98 E (fun W2 g=>rf p0 (rdL p1 r.2.2) I n W2 Aa p0.fB.length ca E ((RdL.arg F) W2 g) Ab p0.fR.length cb E ((RdL.arg o) W2 g)) E) (qY E (yAI E) (bF (oN (eT (cS (cS (cR (oY E (yMI E) (oY E (a6 E E) (oN (eT ?_)))))))))))
     rcases iOs h with⟨K,h⟩|⟨K,h⟩
     ·refine cT (vB K) (cS (cR (oY E (yAB E) (oN (eT (am (aa (ah (aa ?_)))))))))
      obtain rfl:=sI h
      exact au ⟨E,_,E,(kp4 (kp (kp E)))⟩
     ·refine cF (vB K) (cK (eT (cS (cR (oY E (yN 0 [.slice Aa p0.fB.length ca,.slice Ab p0.fR.length cb] dl E E E) (oY E (yMI E) (oY E (yMI E) ?_)))))))
      obtain⟨q,l,h⟩:=bOs h
      refine oY E (yC [.agg #[.slice Aa p0.fB.length ca,.slice Ab p0.fR.length cb],vI r.2.2,vI I] go_104 E (fun W2 g=>jn p0 r.2.2 I q l W2 Aa p0.fB.length ca E ((RdL.arg F) W2 g) Ab p0.fR.length cb E ((RdL.arg o) W2 g)) E) (oY E (yAB E) (oN (eT (cS (cS (cR (oY E (yMB E) (oY E (bw E) (oN (eT ?_))))))))))
      rcases iOs h with⟨M,h⟩|⟨M,h⟩
      ·refine cT (vB M) (cS (cR (oY E (yAB E) (oN (eT (am (aa (ah (aa ?_)))))))))
       obtain rfl:=sI h
       exact au ⟨E,_,E,(kp4 (kp (kp E)))⟩
      ·refine cF (vB M) (cK (eT (cS (cS (cR (oY E (yAI E) (oN (eT (cB ?_)))))))))
       obtain⟨f1,t,h⟩:=bOs h
       refine ba (fun(s:(Bool × Int)) L tm=>∃(T:Nat→Value),L=[al b 53 [.slice Aa p0.fB.length ca,.slice Ab p0.fR.length cb]]∧tm=(upd (upd (upd (upd (upd (upd (upd (upd (upd (upd (upd (upd (upd T 1 (.slice Ac p1.length cc)) 2 (vI p2)) 3 (.pointer (some ⟨b,0,none⟩))) 6 (.bool s.1)) 7 (vI r.2.1)) 8 (vI r.2.2)) 21 (.bool (decide (r.2.2<(p1.length:Int))))) 28 (.bool ((rdL p1 r.2.2)==0))) 9 (vI I)) 36 (.bool (decide (I<0)))) 10 (.bool q)) 42 (.bool (!q))) 11 (vI s.2))) 2 t ⟨_,E,(kp4 (kp4 (kp4 (kp E))))⟩ ?_ ?_
       ·rintro a L tm st ⟨z,rfl,rfl⟩ h
        unfold lZ at h
        refine cS (cS (cR (oY E (yMI E) (oY E (yMI E) (oY E (a6 E E) (oN (eT ?_)))))))
        rcases iOs h with⟨N,h⟩|⟨N,h⟩
        ·refine cT (vB N) (cK (eT (cS (cB (cS ?_)))))
         refine aX 9 bZ (by kernel_rfl) (by kernel_rfl) ?_
         refine qY E (yMS E) (qY E (yMI E) ?_)
         obtain⟨u,h⟩:=gOs h
         refine qY E (yI bS (by decide) u.1 u.2 (RdL.arg f) (eL aB E) E E) ?_
         refine qY E (yR (A:=Ac) (j:=(Int.toNat a.2*1)) (v:=vI (rdL p1 a.2)) aN (RdL.arg f) E (ax aB u.1 (ai u.2 E) E)) (qY E (yMS E) (qY E (yMI E) ?_))
         obtain⟨d,h⟩:=gOs h
         refine qY E (yI bS (by decide) d.1 d.2 (RdL.arg f) (eL aB E) E E) ?_
         refine qY E (yR (A:=Ac) (j:=(Int.toNat r.2.2*1)) (v:=vI (rdL p1 r.2.2)) aN (RdL.arg f) E (ax aB d.1 (ai d.2 E) E)) (qY E (cL E E) (bF (oN (eT ?_))))
         rcases iOs h with⟨O,h⟩|⟨O,h⟩
         ·refine cT (vB O) (cS (cR (oY E (yAB E) (oN (eT (am (ah (aa ?_))))))))
          obtain rfl:=sI h
          exact au ⟨E,_,E,(kp4 (kp4 (kp4 (kp E))))⟩
         ·refine cF (vB O) (cK (aw (eT (cR (oY E (yMI E) (oY E (aM E E) (oY E (yAI E) (oN ?_))))))))
          obtain rfl:=sI h
          exact eN ⟨_,E,(kp4 (kp4 (kp4 (kp E))))⟩
        ·refine cF (vB N) (aD (aj ?_))
         obtain rfl:=sI h
         exact au ⟨E,_,E,(kp4 (kp4 (kp4 (kp E))))⟩
       ·intro e L tm hJ
        rcases f1 with fd|fD
        ·dsimp only at h hJ
         obtain⟨rfl,i,rfl,rfl⟩:=hJ
         refine⟨(by intro hc;cases hc),?_⟩
         refine ah (aa (ah (aa ?_)))
         obtain rfl:=sI h
         exact au ⟨E,_,E,(kp4 (kp (kp E)))⟩
        ·dsimp only at h hJ
         obtain⟨rfl,k,rfl,rfl⟩:=hJ
         refine⟨(by intro hc;cases hc),?_⟩
         refine ae (eT (cR (oY E (yMI E) (oY E (yFA cg E) (oY E (yL 0 gT E E E) (oY E (yMI E) ?_))))))
         obtain⟨w,h⟩:=gOs h
         refine oY E (yI kz (by decide) w.1 w.2 (RdL.arg o) (eL av E) E E) ?_
         refine oY E (yFR (A:=Ab) (j:=(Int.toNat r.2.2*5)) jo E) (oY E (yR (A:=Ab) (j:=((Int.toNat r.2.2*5)+4)) (v:=vI ((rdL p0.fR r.2.2).fW)) aN (RdL.arg o) E (eG av w.1 (ai w.2 E) E)) (oY E (aM E E) (oY E (yAI E) (oN (aw (eT (cR (oY E (yMI E) (oY E (aM E E) (oY E (yAI E) (oN ?_)))))))))))
         obtain rfl:=sI h
         exact eN ⟨_,E,(kp4 (kp (kp E)))⟩
   ·refine cF (vB S) (aD (aj ?_))
    obtain rfl:=sI h
    exact au ⟨E,_,E,(kp4 (kp (kp E)))⟩
  ·intro e L tm hJ
   rcases u5 with f2|f3
   ·dsimp only at h hJ
    obtain⟨rfl,x,rfl,rfl⟩:=hJ
    refine⟨(by intro hc;cases hc),?_⟩
    refine ah (aa ?_)
    obtain rfl:=sI h
    exact ak (.inl E) E (rVt (v:=.bool f2.1) E) (fun W2 g=>⟨E,g.none⟩)
   ·dsimp only at h hJ
    obtain⟨rfl,y,rfl,rfl⟩:=hJ
    refine⟨(by intro hc;cases hc),?_⟩
    refine ae (eT (cS (cR (oY E (yMI E) (oY E (yMI E) (oY E (cL E E) (oY E (yAB E) (oN (eT (am ?_))))))))))
    obtain rfl:=sI h
    exact ak (.inl E) E (rVt (v:=.bool (f3.2.1==p2)) E) (fun W2 g=>⟨E,g.none⟩)
end Go.Proofs.YthndghnkebboaaaGreat
set_option maxHeartbeats 4000000
set_option maxRecDepth 100000
namespace Go.Proofs.YthndghnkebboaaaGreat
open Go.RowKit (Below)
attribute [local irreducible] OX QX CX EX OpY Calls CallsIn
theorem nR (p0:TY) (p1:(List Int)) (res:Int) (h:kA p0 p1=some res) (W:World) (Aa:Option Addr) (I ca:Nat) (p:I=p0.fB.length) (K:Rd W Aa I ca (encL aG p0.fB)) (Ab:Option Addr) (M cb:Nat) (n:M=p0.fR.length) (g:Rd W Ab M cb (encL aC p0.fR)) (Ac:Option Addr) (N cc:Nat) (l:N=p1.length) (o:Rd W Ac N cc (encL cI p1)) :
  Calls Tryz.prog 106 [.agg #[.slice Aa I ca,.slice Ab M cb],.slice Ac N cc].toArray W fun e W2=>e=.returned (vI res)∧Ext W W2 []:=by
 subst p
 subst n
 subst l
 unfold kA at h
 refine ag (m:=96) Tryz.func106 E E (nB E) (cS (cR ?_))
 refine aI [.slice Aa p0.fB.length ca,.slice Ab p0.fR.length cb] E E E (fun V=>?_)
 refine oY E (yAI E) (oN (eT (cS (cS (cR (oY E (yMS E) (oY E (bg (us:=[]) cO E) (oY E (yFA en E) (oY E (yL 0 ku E E E) (oY E (bg (us:=[]) kc E) (oY E (cU E E) (oN (eT ?_)))))))))))))
 rcases iOs h with⟨t,h⟩|⟨t,h⟩
 ·refine cT (vB t) (cS (cR (oY E (yAI E) (oN (eT (am (aa ?_)))))))
  obtain rfl:=sI h
  exact ak (.inl E) E (rVt (v:=vI (-1)) E) (fun W2 r=>⟨E,r.none⟩)
 ·refine cF (vB t) (cK (eT (cS (cR (oY E (yAI E) (oN (eT (cS (cS (cR (oY E (yAI E) (oN (eT (cB ?_))))))))))))))
  obtain⟨u5,k,h⟩:=bOs h
  refine ba (fun(s:(Int × Int × Int)) L tm=>∃(d:Nat→Value),L=[al V 53 [.slice Aa p0.fB.length ca,.slice Ab p0.fR.length cb]]∧tm=(upd (upd (upd (upd (upd d 1 (.slice Ac p1.length cc)) 2 (.pointer (some ⟨V,0,none⟩))) 4 (vI s.1)) 5 (vI s.2.1)) 6 (vI s.2.2))) 0 k ⟨_,E,(kp4 (kp E))⟩ ?_ ?_
  ·rintro i L tm st ⟨fK,rfl,rfl⟩ h
   unfold kv at h
   refine cS (cS (cR (oY E (yMI E) (oY E (yMS E) (oY E (bg (us:=[]) cO E) (oY E (a6 E E) (oN (eT ?_))))))))
   rcases iOs h with⟨a,h⟩|⟨a,h⟩
   ·refine cT (vB a) (cK (eT (cS (cB (cS (cR (oY E (yMS E) (oY E (yMI E) ?_))))))))
    obtain⟨T,h⟩:=gOs h
    refine oY E (yI bS (by decide) T.1 T.2 (RdL.arg o) (eL aB E) E E) ?_
    refine oY E (yR (A:=Ac) (j:=(Int.toNat i.2.2*1)) (v:=vI (rdL p1 i.2.2)) aN (RdL.arg o) E (ax aB T.1 (ai T.2 E) E)) ?_
    obtain⟨y8,fT,h⟩:=bOs h
    refine oY E (yC [vI (rdL p1 i.2.2),vI 0,vI 1000] gk E (fun W2 r=>aO (rdL p1 i.2.2) 0 1000 y8 fT W2 ) E) (oY E (yAB E) (oN (eT (cS (cS (cR (oY E (yMB E) (oY E (bw E) (oN (eT ?_))))))))))
    rcases iOs h with⟨O,h⟩|⟨O,h⟩
    ·refine cT (vB O) (cS (cR (oY E (yAI E) (oN (eT (am (aa (ah (aa ?_)))))))))
     obtain rfl:=sI h
     exact au ⟨E,_,E,(kp4 (kp E))⟩
    ·refine cF (vB O) (cK (eT (cR (oY E (yMI E) (oY E (yMS E) (oY E (yMI E) ?_))))))
     obtain⟨D,h⟩:=gOs h
     refine oY E (yI bS (by decide) D.1 D.2 (RdL.arg o) (eL aB E) E E) ?_
     refine oY E (yR (A:=Ac) (j:=(Int.toNat i.2.2*1)) (v:=vI (rdL p1 i.2.2)) aN (RdL.arg o) E (ax aB D.1 (ai D.2 E) E)) (oY E (aM E E) (oY E (yAI E) (oN (aw (eT (cR (oY E (yMI E) (oY E (aM E E) (oY E (yAI E) (oN ?_))))))))))
     obtain rfl:=sI h
     exact eN ⟨_,E,(kp4 (kp E))⟩
   ·refine cF (vB a) (aD (aj ?_))
    obtain rfl:=sI h
    exact au ⟨E,_,E,(kp4 (kp E))⟩
  ·intro e L tm hJ
   rcases u5 with fn|S
   ·dsimp only at h hJ
    obtain⟨rfl,x,rfl,rfl⟩:=hJ
    refine⟨(by intro hc;cases hc),?_⟩
    refine ah (aa ?_)
    obtain rfl:=sI h
    exact ak (.inl E) E (rVt (v:=vI fn.1) E) (fun W2 r=>⟨E,r.none⟩)
   ·dsimp only at h hJ
    obtain⟨rfl,y,rfl,rfl⟩:=hJ
    refine⟨(by intro hc;cases hc),?_⟩
    refine ae (eT (cS (cS (cR (oY E (yAI E) (oN (eT (cB ?_))))))))
    obtain⟨fl,b,h⟩:=bOs h
    refine bi (fun(s:(Int × Int)) L tm=>∃(d:Nat→Value),L=[al V 53 [.slice Aa p0.fB.length ca,.slice Ab p0.fR.length cb]]∧tm=(upd (upd (upd (upd (upd d 1 (.slice Ac p1.length cc)) 2 (.pointer (some ⟨V,0,none⟩))) 4 (vI S.1)) 5 (vI s.1)) 8 (vI s.2))) 2 b ⟨_,E,(kp4 (kp E))⟩ ?_ ?_
    ·rintro f L tm st ⟨c,rfl,rfl⟩ h
     unfold kh at h
     refine cS (cS (cR (oY E (yMI E) (oY E (yFA cg E) (oY E (yL 0 gT E E E) (oY E (bg (us:=[]) lD E) (oY E (a6 E E) (oN (eT ?_)))))))))
     rcases iOs h with⟨Q,h⟩|⟨Q,h⟩
     ·refine cT (vB Q) (cK (eT (cS (cB (cS (cR (oY E (yFA cg E) (oY E (yL 0 gT E E E) (oY E (yMI E) ?_)))))))))
      obtain⟨F,h⟩:=gOs h
      refine oY E (yI kz (by decide) F.1 F.2 (RdL.arg g) (eL av E) E E) ?_
      refine oY E (yFR (A:=Ab) (j:=(Int.toNat f.2*5)) jo E) (oY E (yR (A:=Ab) (j:=((Int.toNat f.2*5)+4)) (v:=vI ((rdL p0.fR f.2).fW)) aN (RdL.arg g) E (eG av F.1 (ai F.2 E) E)) (oY E (yAI E) (oN (eT (cS (cS (cR (oY E (yAI E) (oN (eT (cB ?_)))))))))))
      obtain⟨R,f1,h⟩:=bOs h
      refine bi (fun(s:(Int × Int)) L tm=>∃(d:Nat→Value),L=[al V 53 [.slice Aa p0.fB.length ca,.slice Ab p0.fR.length cb]]∧tm=(upd (upd (upd (upd (upd (upd (upd (upd d 1 (.slice Ac p1.length cc)) 2 (.pointer (some ⟨V,0,none⟩))) 4 (vI S.1)) 5 (vI f.1)) 8 (vI f.2)) 44 (.bool (decide (f.2<(p0.fR.length:Int))))) 9 (vI s.1)) 10 (vI s.2))) 4 f1 ⟨_,E,(kp4 (kp4 E))⟩ ?_ ?_
      ·rintro q L tm st ⟨f2,rfl,rfl⟩ h
       unfold kD at h
       refine cS (cS (cR (oY E (yMI E) (oY E (yMS E) (oY E (bg (us:=[]) cO E) (oY E (a6 E E) (oN (eT ?_))))))))
       rcases iOs h with⟨U,h⟩|⟨U,h⟩
       ·refine cT (vB U) (cK (eT (cS (cB (cS (cR (oY E (yN 0 [.slice Aa p0.fB.length ca,.slice Ab p0.fR.length cb] dl E E E) (oY E (yMI E) (oY E (yMI E) ?_)))))))))
        obtain⟨ft,f3,h⟩:=bOs h
        refine oY E (yC [.agg #[.slice Aa p0.fB.length ca,.slice Ab p0.fR.length cb],vI f.2,vI q.2] go_104 E (fun W2 r=>jn p0 f.2 q.2 ft f3 W2 Aa p0.fB.length ca E ((RdL.arg K) W2 r) Ab p0.fR.length cb E ((RdL.arg g) W2 r)) E) (oY E (yAB E) (oN (eT (cS (cR (oY E (yMB E) (oN (eT ?_))))))))
        rcases iOs h with⟨X,h⟩|⟨X,h⟩
        ·refine cT (vB X) (cR (oY E (yMI E) (oY E (yMS E) (oY E (yMI E) ?_))))
         obtain⟨G,h⟩:=gOs h
         refine oY E (yI bS (by decide) G.1 G.2 (RdL.arg o) (eL aB E) E E) ?_
         refine oY E (yR (A:=Ac) (j:=(Int.toNat q.2*1)) (v:=vI (rdL p1 q.2)) aN (RdL.arg o) E (ax aB G.1 (ai G.2 E) E)) (oY E (y_min E E) (oY E (yAI E) (oN (aw (eT (cR (oY E (yMI E) (oY E (aM E E) (oY E (yAI E) (oN ?_))))))))))
         obtain rfl:=sI h
         exact eN ⟨_,E,(kp4 (kp4 E))⟩
        ·refine cF (vB X) (cK (aw (eT (cR (oY E (yMI E) (oY E (aM E E) (oY E (yAI E) (oN ?_))))))))
         obtain rfl:=sI h
         exact eN ⟨_,E,(kp4 (kp4 E))⟩
       ·refine cF (vB U) (aD (aj ?_))
        obtain rfl:=sI h
        exact au ⟨E,_,E,(kp4 (kp4 E))⟩
      ·intro e L tm hJ
       obtain⟨rfl,fr,rfl,rfl⟩:=hJ
       refine⟨(by intro hc;cases hc),?_⟩
       refine ae (eT (cS (cR (oY E (yAB E) (oN (eT (cS (cS (cR (oY E (yAI E) (oN (eT (cB ?_)))))))))))))
       obtain⟨gf,fd,h⟩:=bOs h
       refine bi (fun(s:(Bool × Int)) L tm=>∃(d:Nat→Value),L=[al V 53 [.slice Aa p0.fB.length ca,.slice Ab p0.fR.length cb]]∧tm=(upd (upd (upd (upd (upd (upd (upd (upd (upd (upd d 1 (.slice Ac p1.length cc)) 2 (.pointer (some ⟨V,0,none⟩))) 4 (vI S.1)) 5 (vI f.1)) 8 (vI f.2)) 44 (.bool (decide (f.2<(p0.fR.length:Int))))) 9 (vI R.1)) 10 (vI R.2)) 12 (.bool s.1)) 13 (vI s.2))) 6 fd ⟨_,E,(kp4 (kp4 (kp (kp E))))⟩ ?_ ?_
       ·rintro w L tm st ⟨fD,rfl,rfl⟩ h
        unfold kk at h
        refine cS (cS (cR (oY E (yMI E) (oY E (yMS E) (oY E (bg (us:=[]) cO E) (oY E (a6 E E) (oN (eT ?_))))))))
        rcases iOs h with⟨Y,h⟩|⟨Y,h⟩
        ·refine cT (vB Y) (cK (eT (cS (cB (cS (cR (oY E (yN 0 [.slice Aa p0.fB.length ca,.slice Ab p0.fR.length cb] dl E E E) (oY E (yMI E) (oY E (yMI E) ?_)))))))))
         obtain⟨z,fE,h⟩:=bOs h
         refine oY E (yC [.agg #[.slice Aa p0.fB.length ca,.slice Ab p0.fR.length cb],vI f.2,vI w.2] go_104 E (fun W2 r=>jn p0 f.2 w.2 z fE W2 Aa p0.fB.length ca E ((RdL.arg K) W2 r) Ab p0.fR.length cb E ((RdL.arg g) W2 r)) E) (oY E (yAB E) (oN (eT (cR (oY E (yMB E) (oY E (yMB E) ?_))))))
         refine oJ 2 (fun d=>(upd (upd (upd (upd (upd (upd (upd (upd (upd (upd (upd (upd (upd d 1 (.slice Ac p1.length cc)) 2 (.pointer (some ⟨V,0,none⟩))) 4 (vI S.1)) 5 (vI f.1)) 8 (vI f.2)) 44 (.bool (decide (f.2<(p0.fR.length:Int))))) 9 (vI R.1)) 10 (vI R.2)) 12 (.bool w.1)) 13 (vI w.2)) 73 (.bool (decide (w.2<(p1.length:Int))))) 14 (.bool z)) 83 (.bool (w.1||z)))) (fun d=>?_) (fun key=>?_)
         ·refine oY E (yAB E) (oN (aw (eT (cR (oY E (yMI E) (oY E (aM E E) (oY E (yAI E) (oN ?_))))))))
          obtain rfl:=sI h
          exact eN ⟨_,E,(kp4 (kp4 (kp (kp E))))⟩
         ·rcases aq w.1 with u|u
          ·refine oSk (sF E E E E u) (oY E (ac (vB u) E) ?_)
           exact key _ _ (keep (keep (keep (keep (keep (keep (keep (keep (keep (keep (keep (keep (keep E E) E) E) E) E) E) E) E) E) E) E) E) (vB (iy u)))
          ·refine oY (sT E E E E u) (yMB E) (oY E (ad (vB u) E) ?_)
           exact key _ _ (keep (keep (keep (keep (keep (keep (keep (keep (keep (keep (keep (keep (keep E E) E) E) E) E) E) E) E) E) E) E) E) (vB (iw u)))
        ·refine cF (vB Y) (aD (aj ?_))
         obtain rfl:=sI h
         exact au ⟨E,_,E,(kp4 (kp4 (kp (kp E))))⟩
       ·intro e L tm hJ
        obtain⟨rfl,fG,rfl,rfl⟩:=hJ
        refine⟨(by intro hc;cases hc),?_⟩
        refine ae (eT (cS (cR (oY E (yMB E) (oN (eT ?_))))))
        rcases iOs h with⟨Z,h⟩|⟨Z,h⟩
        ·refine cT (vB Z) (cR (oY E (yMI E) (oY E (yFA cg E) (oY E (yL 0 gT E E E) (oY E (yMI E) ?_)))))
         obtain⟨H,h⟩:=gOs h
         refine oY E (yI kz (by decide) H.1 H.2 (RdL.arg g) (eL av E) E E) ?_
         refine oY E (yFR (A:=Ab) (j:=(Int.toNat f.2*5)) jo E) (oY E (yR (A:=Ab) (j:=((Int.toNat f.2*5)+4)) (v:=vI ((rdL p0.fR f.2).fW)) aN (RdL.arg g) E (eG av H.1 (ai H.2 E) E)) (oY E (aM E E) (oY E (yMI E) (oY E (fe E E) (oY E (yAI E) (oN (aw (eT (cR (oY E (yMI E) (oY E (aM E E) (oY E (yAI E) (oN ?_)))))))))))))
         obtain rfl:=sI h
         exact eN ⟨_,E,(kp4 (kp E))⟩
        ·refine cF (vB Z) (cK (aw (eT (cR (oY E (yMI E) (oY E (aM E E) (oY E (yAI E) (oN ?_))))))))
         obtain rfl:=sI h
         exact eN ⟨_,E,(kp4 (kp E))⟩
     ·refine cF (vB Q) (aD (aj ?_))
      obtain rfl:=sI h
      exact au ⟨E,_,E,(kp4 (kp E))⟩
    ·intro e L tm hJ
     obtain⟨rfl,fH,rfl,rfl⟩:=hJ
     refine⟨(by intro hc;cases hc),?_⟩
     refine ae (eT (cS (cR (oY E (yMI E) (oY E (yAI E) (oN (eT (am ?_))))))))
     obtain rfl:=sI h
     exact ak (.inl E) E (rVt (v:=vI fl.1) E) (fun W2 r=>⟨E,r.none⟩)
theorem l6 (p0:TY) (p1:TPlan) (res:Int) (h:iU p0 p1=some res) (W:World) (Aa:Option Addr) (w ca:Nat) (I:w=p0.fB.length) (u:Rd W Aa w ca (encL aG p0.fB)) (Ab:Option Addr) (D cb:Nat) (K:D=p0.fR.length) (d:Rd W Ab D cb (encL aC p0.fR)) (Ac:Option Addr) (F cc:Nat) (M:F=p1.fG.length) (N:Rd W Ac F cc (encL cI p1.fG)) (o:Option Addr) (G r:Nat) (O:G=p1.fPrices.length) (Q:Rd W o G r (encL cI p1.fPrices)) :
  Calls Tryz.prog 44 [.agg #[.slice Aa w ca,.slice Ab D cb],.agg #[.slice Ac F cc,vI p1.fW,.slice o G r]].toArray W fun e W2=>e=.returned (vI res)∧Ext W W2 []:=by
 subst I
 subst K
 subst M
 subst O
 unfold iU at h
 refine ag (m:=29) Tryz.func44 E E (nB E) (cS (cR ?_))
 refine aI [.slice Aa p0.fB.length ca,.slice Ab p0.fR.length cb] E E E (fun n=>?_)
 refine aI [.slice Ac p1.fG.length cc,vI p1.fW,.slice o p1.fPrices.length r] E E E (fun l=>?_)
 refine oY E (yAI E) (oN (eT (cS (cR (oY E (yN 0 [.slice Aa p0.fB.length ca,.slice Ab p0.fR.length cb] dl E E E) ?_)))))
 obtain⟨R,V,h⟩:=bOs h
 refine oY E (yC [.agg #[.slice Aa p0.fB.length ca,.slice Ab p0.fR.length cb]] go_46 E (fun W2 g=>lN p0 R V W2 Aa p0.fB.length ca E ((RdL.arg u) W2 g) Ab p0.fR.length cb E ((RdL.arg d) W2 g)) E) (oY E (yAI E) (oN (eT (cS (cS (cR (oY E (yMI E) (oY E (cU E E) (oN (eT ?_))))))))))
 rcases iOs h with⟨U,h⟩|⟨U,h⟩
 ·refine cT (vB U) (cS (cR (oY E (yMI E) (oY E (yAI E) (oN (eT (am (aa ?_))))))))
  obtain rfl:=sI h
  exact ak (.inl E) E (rVt (v:=vI R) E) (fun W2 g=>⟨E,g.none⟩)
 ·refine cF (vB U) (cK (eT (cS (cR (oY E (yN 0 [.slice Aa p0.fB.length ca,.slice Ab p0.fR.length cb] dl E E E) (oY E (yFA fo_71_0 E) (oY E (yL 1 gH E E E) (oY E (yFA ql E) (oY E (yL 1 aN E E E) ?_)))))))))
  obtain⟨q,T,h⟩:=bOs h
  refine oY E (yC [.agg #[.slice Aa p0.fB.length ca,.slice Ab p0.fR.length cb],.slice Ac p1.fG.length cc,vI p1.fW] go_105 E (fun W2 g=>qg p0 p1.fG p1.fW q T W2 Aa p0.fB.length ca E ((RdL.arg u) W2 g) Ab p0.fR.length cb E ((RdL.arg d) W2 g) Ac p1.fG.length cc E ((RdL.arg N) W2 g)) E) (oY E (yAB E) (oN (eT (cS (cS ?_)))))
  refine aX 11 bZ (by kernel_rfl) (by kernel_rfl) ?_
  refine qY E (yMB E) (qY E (bw E) (qY E (yMB E) ?_))
  obtain⟨p,X,h⟩:=bOs h
  refine qJ 8 (fun Y=>(upd (upd Y 4 (vI 0)) 28 (.bool p))) (fun Y=>?_) (fun key=>?_)
  ·refine bF (oN (eT ?_))
   rcases iOs h with⟨H,h⟩|⟨H,h⟩
   ·refine cT (vB H) (cS (cR (oY E (yAI E) (oN (eT (am (aa ?_)))))))
    obtain rfl:=sI h
    exact ak (.inl E) E (rVt (v:=vI 8) E) (fun W2 g=>⟨E,g.none⟩)
   ·refine cF (vB H) (cK (eT (cS (cR (oY E (yAI E) (oN (eT (am ?_))))))))
    obtain rfl:=sI h
    exact ak (.inl E) E (rVt (v:=vI 0) E) (fun W2 g=>⟨E,g.none⟩)
  ·clear h;rcases iOs X with⟨f,h⟩|⟨f,h⟩
   ·refine ab (sF E E E E f) (ab (sF E E E E f) (ab (sF E E E E f) (ab (sF E E E E f) (ab (sF E E E E f) (ab (sF E E E E f) (ab (sF E E E E f) (qY E (ac (vB f) E) ?_)))))))
    obtain rfl:=sI h
    exact key _ _ (kp (kp E))
   ·refine qY (sT E E E E f) (yN 0 [.slice Aa p0.fB.length ca,.slice Ab p0.fR.length cb] dl E E E) (qY (sT E E E E f) (yFA rU E) (qY (sT E E E E f) (yL 1 gH E E E) ?_))
    obtain⟨S,Z,h⟩:=bOs h
    refine qY (sT E E E E f) (yC [.agg #[.slice Aa p0.fB.length ca,.slice Ab p0.fR.length cb],.slice o p1.fPrices.length r] go_106 E (fun W2 g=>nR p0 p1.fPrices S Z W2 Aa p0.fB.length ca E ((RdL.arg u) W2 g) Ab p0.fR.length cb E ((RdL.arg d) W2 g) o p1.fPrices.length r E ((RdL.arg Q) W2 g)) E) (qY (sT E E E E f) (yFA ql E) (qY (sT E E E E f) (yL 1 aN E E E) (qY (sT E E E E f) (cU E E) (qY E (ad (vB f) E) ?_))))
    obtain rfl:=sI h
    exact key _ _ (kp (kp E))
theorem j6 (p0:TR) (p1:Int) (p2:Int) (res:(TTimes × Int)) (h:cY p0 p1 p2=some res) (W:World) (Ab:Option Addr) (K cb:Nat) (d:List (Hd × TT)) (q:K=p0.fTracks.length) (M:Rd W Ab K cb (encL TTrack_cells2 d)) (N:NestW W (fun z:TT=>z.fK) TSpan_cells d p0.fTracks) (wb:World) (Hb:World→Prop) (hB:∀W3,Below W.heap.size W W3→Below wb.heap.size wb W3∧Hb W3) :
  Calls Tryz.prog 49 [.agg #[vI p0.fPlaces,.slice Ab K cb],vI p1,vI p2].toArray W fun e W2=>∃x:((Option Addr × Nat × Nat) × (List (Hd × (List Int))) × Res),(x.1.2.1=res.1.fH.length∧NestP (fun z:(List Int)=>z) x.2.1 res.1.fH∧PvL (fun z:(List Int)=>z) cI wb (fun W4=>Hb W4∧Res.holds x.2.2 W4) x.2.1)∧e=.returned (.tuple #[.agg #[.slice x.1.1 x.1.2.1 x.1.2.2],vI res.2])∧Ext W W2 [aP x.1.1 x.1.2.2 42 1 x.1.2.1 (encL SlInt_cells2 x.2.1),x.2.2]:=by
 subst q
 unfold cY at h
 refine ag (m:=43) Tryz.func49 E E (nB E) (cS (cR ?_))
 refine aI [vI p0.fPlaces,.slice Ab p0.fTracks.length cb] E E E (fun b1=>?_)
 refine aF tt E (fun b2=>?_)
 refine oY E (yAI E) (oN (eT (cS (cS (cR (oY E (yN 0 [vI p0.fPlaces,.slice Ab p0.fTracks.length cb] dh E E E) (oY E (yMI E) (oY E (yMI E) (oY E (yMI E) ?_)))))))))
 obtain⟨y3,fd,h⟩:=bOs h
 refine oY E (yC [.agg #[vI p0.fPlaces,.slice Ab p0.fTracks.length cb],vI p1,vI p1,vI p2,vI 0] tj E (fun W2 g=>eR p0 p1 p1 p2 0 y3 fd W2 Ab p0.fTracks.length cb d E ((RdL.arg M) W2 g) (NestL.at (NestL.arg N) W2 g)) E) (oY E (yAI E) (oN (eT (cS (cR (oY E (yMI E) (oY E (cU E E) (oN (eT ?_)))))))))
 rcases iOs h with⟨p,h⟩|⟨p,h⟩
 ·refine cT (vB p) (cS (cR ?_))
  refine oY E (bc [.slice none 0 0] [(0,1)] ust_87 tt (by kernel_rfl)) ?_
  refine oY E (yMI E) (co E (yS 1 [.slice none 0 0] sz_87 E (nB E) E E E) (oY E (yAI E) (oN (eT (am (aa ?_))))))
  obtain rfl:=sI h
  exact bJ (.inl E) E (bO 1 [.slice none 0 0] pd E E E) (rVt (v:=vI y3) E) (fun W2 g=>⟨((none,0,0),[],noR),⟨E,NestP.nil,PvL.nil⟩,E,(g.nilrow 42 1).addNo.pickL [2,3] (by decide) E⟩)
 ·refine cF (vB p) (cK (eT (cS (cR (oY E (yN 0 [vI p0.fPlaces,.slice Ab p0.fTracks.length cb] dh E E E) (oY E (yMI E) (oY E (yMI E) ?_)))))))
  obtain⟨y6,fE,h⟩:=bOs h
  refine lT [.agg #[vI p0.fPlaces,.slice Ab p0.fTracks.length cb],vI p1,vI p2] _ _ E go_110 E (fun W2 g=>lc p0 p1 p2 y6 fE W2 Ab p0.fTracks.length cb d E ((RdL.arg M) W2 g) (NestL.at (NestL.arg N) W2 g)) ?_
  rintro b8
  refine oY E (ex E) (oN (eT (cS (cR ?_))))
  refine aF tt E (fun t=>?_)
  refine oN (eT (cS (cS (cR (oY E (yFA dE E) (oY E (yL 0 aN E E E) (oY E (yMI E) (oN (eT (cB ?_))))))))))
  obtain⟨V,a,h⟩:=bOs h
  refine dA 42 1 (dA 42 1 (qk (qk ?_)))
  refine bi (fun(s:(Int × (List (List Int)))) L tm=>∃(fG:Nat→Value) (T:Option Addr) (S:Nat) (O:Nat) (G:List (Hd × (List Int))) (F5_s:Res),O=s.2.length∧NestP (fun z:(List Int)=>z) G s.2∧PvL (fun z:(List Int)=>z) cI wb (fun W4=>Hb W4∧Res.holds F5_s W4) G∧L=[al b1 24 [vI p0.fPlaces,.slice Ab p0.fTracks.length cb],al b2 87 [.slice none 0 0],mapV Tryz.prog 191 cj a5 bW (Tl.mk 0 (Ts.mk 0 0) (TLeg.mk 0 0) false) b8 y6,al t 87 [.slice T O S],aP none 0 42 1 0 (encL SlInt_cells2 ([]:List (Hd × (List Int)))),aP T S 42 1 O (encL SlInt_cells2 G),noR,F5_s]∧tm=(upd (upd (upd (upd (upd (upd fG 6 (.pointer (some ⟨b2,0,none⟩))) 7 (vI 0)) 9 (.map (some b8))) 10 (.pointer (some ⟨t,0,none⟩))) 27 (vI p0.fPlaces)) 28 (vI s.1))) 0 a ⟨_,none,0,0,([]:List (Hd × (List Int))),noR,E,NestP.nil,(PvL.mono (Hb:=Hb) PvL.nil (fun _ _ h=>h.1)),E,(kp4 (kp (kp E)))⟩ ?_ ?_
  ·rintro w L tm st ⟨i,H,I,f3,u,F5_s12,rfl,D,F,rfl,rfl⟩ h
   unfold cW at h
   refine cS (cR ?_)
   try dsimp only[lna,lca,lsz,lss]
   refine oY E (a6 E E) (oN (eT (cS ?_)))
   rcases iOs h with⟨Q,h⟩|⟨Q,h⟩
   ·refine cT (vB Q) (cK (eT (cS (cB (cS (cR (oY E (yMI E) (oY E (yAI E) (oN (eT (cS (cR (oY E (cw E) (oY E (yMI E) ?_))))))))))))))
    obtain⟨n,j,h⟩:=bOs h
    refine oC [.map (some b8),vI w.1] _ _ _ E go_111 E (fun W2 g=>jY y6 w.1 n j W2 b8 ((MpL.own 2 E) W2 g)) ?_
    rintro-R
    try dsimp only[List.append_nil]
    refine aF sA E (fun l=>?_)
    try dsimp only[lna,lca,lsz,lss]
    refine co E (pW 8 (xs:=(List.replicate 61 0)) (xs':=n) rE List.length_replicate R E E E) (oN (eT ?_))
    obtain⟨f,k,h⟩:=bOs h
    obtain⟨y,h⟩:=gOs h
    refine gm [[],[0],[],[2],[2,3],[0,1,2,3,4],[0,1,2,3,4,5],[0,1,2,3,4,5,6]] [(none,0,[true,true,true,true,true,true,true,false,true]),(none,0,[true,true,true,true,true,true,true,false,true]),(none,0,[true,true,true,true,true,true,true,true,true]),(some 7,1,[true,true,true,true,true,true,true,true,true]),(none,1,[true,true,true,true,true,true,true,true,true,true]),(some 5,0,[true,true,true,true,true,true,true,true,true,true,true]),(none,0,[true,true,true,true,true,true,true,true,true,true,true]),(some 3,0,[true,true,true,true,true,true,true,true,true,true,true])] [⟨fun _=>.pointer (some ⟨t,0+0,none⟩),fun _=>noR,fun _=>[]⟩,⟨fun _=>.slice H w.2.length I,fun _=>noR,fun _=>[]⟩,⟨fun _=>.slice (some ⟨l,0,none⟩) 61 61,fun _=>noR,fun _=>[]⟩,⟨fun ξ19=>.slice (ξ19 3 0).1 f.length (ξ19 3 0).2.2.1,fun ξ19=>pg F5_s12 (aP (ξ19 3 0).1 (ξ19 3 0).2.2.1 3 1 f.length (encL cI f)),fun _=>[noR]⟩,⟨fun ξ19=>.slice (some ⟨(ξ19 4 0).2.1,0,none⟩) 1 1,fun _=>noR,fun ξ19=>[aP (some ⟨(ξ19 4 0).2.1,0,none⟩) 1 42 1 1 (encL SlInt_cells2 [(((ξ19 3 0).1,f.length,(ξ19 3 0).2.2.1),f)])]⟩,⟨fun ξ19=>.slice (ξ19 5 0).1 (w.2.length+1) (ξ19 5 0).2.2.1,fun ξ19=>aP (ξ19 5 0).1 (ξ19 5 0).2.2.1 42 1 (w.2.length+1) (encL SlInt_cells2 (u++[(((ξ19 3 0).1,f.length,(ξ19 3 0).2.2.1),f)])),fun _=>[]⟩,⟨fun _=>.pointer (some ⟨t,0+0,none⟩),fun _=>noR,fun _=>[]⟩,⟨fun _=>undef,fun ξ19=>al t 87 [.slice (ξ19 5 0).1 (w.2.length+1) (ξ19 5 0).2.2.1],fun _=>[]⟩] 9 bZ (by kernel_rfl) (by kernel_rfl) ⟨⟨fun ξ19 ξ19' h=>⟨E,E,E⟩,fun _=>E⟩,⟨fun ξ19 ξ19' h=>⟨E,E,E⟩,fun _=>E⟩,⟨fun ξ19 ξ19' h=>⟨E,E,E⟩,fun _=>E⟩,⟨fun ξ19 ξ19' h=>⟨by simp only[h 3 (.inl E)],by simp only[h 3 (.inl E)],E⟩,fun _=>E⟩,⟨fun ξ19 ξ19' h=>⟨by simp only[h 4 (.inl E)],E,by simp only[h 3 (.inr E),h 4 (.inl E)]⟩,fun _=>E⟩,⟨fun ξ19 ξ19' h=>⟨by simp only[h 5 (.inl E)],by simp only[h 3 (.inr E),h 5 (.inl E)],E⟩,fun _=>E⟩,⟨fun ξ19 ξ19' h=>⟨E,E,E⟩,fun _=>E⟩,⟨fun ξ19 ξ19' h=>⟨E,by simp only[h 5 (.inr E)],E⟩,fun _=>E⟩,trivial⟩ E (fun ξ19=>?_)
    refine cy E (fun L2=>?_) ?_
    ·dsimp only[aJ,lca,lna]
     refine oY E (yFA cq E) (oN ?_)
     exact az (fun _=>(none,0,0,[],noR)) E (List.append_nil _)
    dsimp only[bQ,lsz,lss,lna,lca,List.append_nil]
    refine cy E (fun L2=>?_) ?_
    ·dsimp only[aJ,lca,lna]
     refine oY E (yL 3 iE E E E) (oN ?_)
     exact az (fun _=>(none,0,0,[],noR)) E (List.append_nil _)
    dsimp only[bQ,lsz,lss,lna,lca,List.append_nil]
    refine cy E (fun L2=>?_) ?_
    ·dsimp only[aJ,lca,lna]
     refine oY E (sY ua_160 qb E) (oN ?_)
     exact az (fun _=>(none,0,0,[],noR)) E (List.append_nil _)
    dsimp only[bQ,lsz,lss,lna,lca,List.append_nil]
    refine cy E (fun L2=>?_) ?_
    ·dsimp only[aJ,lca,lna]
     refine oC [.slice (some ⟨l,0,none⟩) 61 61] _ _ _ E go_92 E (fun W2 g=>dO n f k W2 (some ⟨l,0,none⟩) 61 61 (Eq.symm R) ((RdL.cellsAs 8 61 E) W2 g)) ?_
     rintro⟨fT,fR,fn⟩ U
     replace U:fR=f.length:=U;subst U
     refine ox_joinE 7 E ?_
     try dsimp only[lsz,lss,lca,lna]
     refine oN ?_
     exact az (fun _=>(fT,0,fn,[],noR)) E E
    dsimp only[bQ,lsz,lss,lna,lca,List.append_nil]
    refine cy E (fun L2=>?_) ?_
    ·dsimp only[aJ,lca,lna]
     refine aR 1 (encL SlInt_cells2 [(((ξ19 3 0).1,f.length,(ξ19 3 0).2.2.1),f)]) _ mc_42_1 nq ze_42 by_42 (by decide) (by decide) (by kernel_rfl) (eL ao E) E (fun fl=>?_)
     refine oN ?_
     exact az (fun _=>(none,fl,0,[],noR)) E E
    dsimp only[bQ,lsz,lss,lna,lca,List.append_nil]
    refine cy E (fun L2=>?_) ?_
    ·dsimp only[aJ,lca,lna]
     refine cC 5 nq ze_42 by_42 E E E (RdL.row 10 E) (eL ao (NestP.hn (NestP.cons (sel:=(fun z:(List Int)=>z)) E NestP.nil) E)) (eh nv _) (eS y (by decide)) E (fun b c=>?_)
     refine oN ?_
     first|exact az (fun _=>(b,0,c,[],noR)) E E|exact az (fun _=>(b,0,c,[],noR)) E (List.append_nil _)
    dsimp only[bQ,lsz,lss,lna,lca,List.append_nil]
    refine cy E (fun L2=>?_) ?_
    ·dsimp only[aJ,lca,lna]
     refine oY E (yFA cq E) (oN ?_)
     exact az (fun _=>(none,0,0,[],noR)) E (List.append_nil _)
    dsimp only[bQ,lsz,lss,lna,lca,List.append_nil]
    refine gx_n E (fun L2=>?_) ?_
    ·dsimp only[aJ,lca,lna]
     refine co E (dq 3 (v:=.slice (ξ19 5 0).1 (w.2.length+1) (ξ19 5 0).2.2.1) sz_85 E (Nat.lt_of_lt_of_le (Nat.lt_succ_self _) (nB E)) E E E) (oN ?_)
     first|exact bR (fun _=>(none,0,0,[],noR)) E|exact bR (fun _=>(none,0,0,[],noR)) (List.append_nil _)
    dsimp only[bQ,lsz,lss,lna,lca,List.append_nil]
    refine lJ (aw (eT (cR ?_)))
    try dsimp only[lna,lca,lsz,lss]
    refine oY E (aM E E) (oY E (yMI E) (oN (aT 8 ?_)))
    obtain rfl:=sI h
    exact eN ⟨_,(ξ19 5 0).1,(ξ19 5 0).2.2.1,(w.2.length+1),(u++[(((ξ19 3 0).1,f.length,(ξ19 3 0).2.2.1),f)]),pg F5_s12 (aP (ξ19 3 0).1 (ξ19 3 0).2.2.1 3 1 f.length (encL cI f)),(ju E E),(NestP.app D (NestP.cons (sel:=(fun z:(List Int)=>z)) E NestP.nil)),(PvL.app (PvL.mono (Hb:=(fun W4=>Hb W4∧Res.holds F5_s12 W4)) F (fun _ _ h=>⟨h.1,h.2.1⟩)) (PvL.cons (fun _ _ h=>eE h.2.2.1) PvL.nil)),E,(kp4 (kp (kp E)))⟩
   ·refine cF (vB Q) (aD (aj ?_))
    obtain rfl:=sI h
    exact au ⟨E,_,H,I,w.2.length,u,F5_s12,E,D,F,E,(kp4 (kp (kp E)))⟩
  ·intro e L tm hJ
   obtain⟨rfl,f1,o,r,fr,X,F5_u13,rfl,Y,Z,rfl,rfl⟩:=hJ
   refine⟨(by intro hc;cases hc),?_⟩
   refine ae (eT (cS (cR ?_)))
   try dsimp only[lna,lca,lsz,lss]
   refine oY E (yN 3 [.slice o V.2.length r] pd E E E) (co E (yS 1 [.slice o V.2.length r] sz_87 E (nB E) E E E) (oY E (yAI E) (oN (eT (am ?_)))))
   obtain rfl:=sI h
   exact bJ (.inl E) E (bO 1 [.slice o V.2.length r] pd E E E) (rVt (v:=vI 0) E) (fun W2 g=>⟨((o,V.2.length,r),X,F5_u13),⟨E,Y,Z⟩,E,g.pickL [5,7] (by decide) E⟩)
theorem qG (p0:TR) (p1:Int) (p2:Int) (p3:Int) (res:((List TJ) × Int)) (h:mQ p0 p1 p2 p3=some res) (W:World) (Ab:Option Addr) (o cb:Nat) (g:List (Hd × TT)) (w:o=p0.fTracks.length) (r:Rd W Ab o cb (encL TTrack_cells2 g)) (u:NestW W (fun z:TT=>z.fK) TSpan_cells g p0.fTracks) (wb:World) (Hb:World→Prop) (hB:∀W3,Below W.heap.size W W3→Below wb.heap.size wb W3∧Hb W3) :
  Calls Tryz.prog 61 [.agg #[vI p0.fPlaces,.slice Ab o cb],vI p1,vI p2,vI p3].toArray W fun e W2=>∃x:((Option Addr × Nat × Nat) × (List (Hd × TJ)) × Res),(x.1.2.1=res.1.length∧NestP (fun z:TJ=>z.fLegs) x.2.1 res.1∧PvL (fun z:TJ=>z.fLegs) TLeg_cells wb (fun W4=>Hb W4∧Res.holds x.2.2 W4) x.2.1)∧e=.returned (.tuple #[.slice x.1.1 x.1.2.1 x.1.2.2,vI res.2])∧Ext W W2 [aP x.1.1 x.1.2.2 29 3 x.1.2.1 (encL cf x.2.1),x.2.2]:=by
 subst w
 unfold mQ at h
 refine ag (m:=24) Tryz.func61 E E (nB E) (cS (cR ?_))
 refine aI [vI p0.fPlaces,.slice Ab p0.fTracks.length cb] E E E (fun X=>?_)
 refine oY E (yAS E) (oY E (yAI E) (oN (eT (cS (cS (cR (oY E (yN 0 [vI p0.fPlaces,.slice Ab p0.fTracks.length cb] dh E E E) (oY E (yMI E) (oY E (yMI E) (oY E (yMI E) ?_))))))))))
 obtain⟨Q,M,h⟩:=bOs h
 refine oY E (yC [.agg #[vI p0.fPlaces,.slice Ab p0.fTracks.length cb],vI p1,vI p2,vI p3,vI 0] tj E (fun W2 f=>eR p0 p1 p2 p3 0 Q M W2 Ab p0.fTracks.length cb g E ((RdL.arg r) W2 f) (NestL.at (NestL.arg u) W2 f)) E) (oY E (yAI E) (oN (eT (cS (cR (oY E (yMI E) (oY E (cU E E) (oN (eT ?_)))))))))
 rcases iOs h with⟨D,h⟩|⟨D,h⟩
 ·refine cT (vB D) (cS (cR (oY E (yMI E) (oY E (yAS E) (oY E (yAI E) (oN (eT (am (aa ?_)))))))))
  obtain rfl:=sI h
  exact bJ (.inl E) E (rVt (v:=.slice none 0 0) E) (rVt (v:=vI Q) E) (fun W2 f=>⟨((none,0,0),[],noR),⟨E,NestP.nil,PvL.nil⟩,E,(f.nilrow 29 3).addNo.pickL [1,2] (by decide) E⟩)
 ·refine cF (vB D) (cK (eT (cS (cR (oY E (yN 0 [vI p0.fPlaces,.slice Ab p0.fTracks.length cb] dh E E E) (oY E (yMI E) (oY E (yMI E) (oY E (yMI E) ?_))))))))
  obtain⟨K,N,h⟩:=bOs h
  refine oC [.agg #[vI p0.fPlaces,.slice Ab p0.fTracks.length cb],vI p1,vI p2,vI p3] _ _ _ E go_119 E (fun W2 f=>mj p0 p1 p2 p3 K N W2 Ab p0.fTracks.length cb g E ((RdL.arg r) W2 f) (NestL.at (NestL.arg u) W2 f) wb Hb (fun W3 hb=>hB W3 (f0 f.below hb)) ) ?_
  rintro⟨⟨U,O,F⟩,G,F15⟩ ⟨d,H,I⟩
  replace d:O=K.length:=d;subst d
  refine oY E (yAS E) (oY E (yAI E) (oN (eT (am ?_))))
  obtain rfl:=sI h
  exact bJ (.inl E) E (rVt (v:=.slice U K.length F) E) (rVt (v:=vI 0) E) (fun W2 f=>⟨((U,K.length,F),G,F15),⟨E,H,I⟩,E,f.pickL [1,2] (by decide) E⟩)
theorem lY  (res:TR) (h:iD=some res) (W:World) (wb:World) (Hb:World→Prop) (hB:∀W3,Below W.heap.size W W3→Below wb.heap.size wb W3∧Hb W3) :
  Calls Tryz.prog 67 [].toArray W fun e W2=>∃x:((Option Addr × Nat × Nat) × (List (Hd × TT)) × Res),(x.1.2.1=res.fTracks.length∧NestP (fun z:TT=>z.fK) x.2.1 res.fTracks∧PvL (fun z:TT=>z.fK) TSpan_cells wb (fun W4=>Hb W4∧Res.holds x.2.2 W4) x.2.1)∧e=.returned (.agg #[vI res.fPlaces,.slice x.1.1 x.1.2.1 x.1.2.2])∧Ext W W2 [aP x.1.1 x.1.2.2 120 6 x.1.2.1 (encL TTrack_cells2 x.2.1),x.2.2]:=by
 unfold iD at h
 refine ag (m:=9) Tryz.func67 E E (nB E) (cS (cR ?_))
 refine aF ze_24 E (fun r=>?_)
 refine oN (eT (cS (cR ?_)))
 refine oY E (bc [vI 1,vI 0,vI 1,vI 5,vI 0,.slice none 0 0] [(0,1),(1,1),(2,1),(3,1),(4,1),(5,1)] qs g0 (by kernel_rfl)) ?_
 refine oY E (bc [vI 8,vI 20] [(0,1),(1,1)] sw rC (by kernel_rfl)) ?_
 refine aR 1 (encL TSpan_cells [(TSpan.mk 8 20)]) _ mc_63_1 lW rC by_63 (by decide) (by decide) (by kernel_rfl) (eL aE E) E (fun f=>?_)
 refine oY E (bc [vI 2,vI 1,vI 2,vI 5,vI 0,.slice (some ⟨f,0,none⟩) 1 1] [(0,1),(1,1),(2,1),(3,1),(4,1),(5,1)] qs g0 (by kernel_rfl)) ?_
 refine oY E (bc [vI 3,vI 0,vI 2,vI 9,vI 6,.slice none 0 0] [(0,1),(1,1),(2,1),(3,1),(4,1),(5,1)] qs g0 (by kernel_rfl)) ?_
 refine oY E (bc [vI 4,vI 1,vI 2,vI 8,vI 2,.slice none 0 0] [(0,1),(1,1),(2,1),(3,1),(4,1),(5,1)] qs g0 (by kernel_rfl)) ?_
 refine sR ?_
 refine nx 2 1 (by decide) E E ?_
 refine aR 4 (encL TTrack_cells2 [((none,0,0),(TT.mk 1 0 1 5 0 ([]:(List TSpan)))),(((some ⟨f,0,none⟩),1,1),(TT.mk 2 1 2 5 0 [(TSpan.mk 8 20)])),((none,0,0),(TT.mk 3 0 2 9 6 ([]:(List TSpan)))),((none,0,0),(TT.mk 4 1 2 8 2 ([]:(List TSpan))))]) _ mc_120_4 ij g0 sh (by decide) (by decide) (by kernel_rfl) (eL ar E) E (fun g=>?_)
 refine oY E (bc [vI 3,.slice (some ⟨g,0,none⟩) 4 4] [(0,1),(1,1)] ust_24 ze_24 (by kernel_rfl)) ?_
 refine co E (yS 0 [vI 3,.slice (some ⟨g,0,none⟩) 4 4] sz_24 E (nB E) E E E) (oN (eT (am ?_)))
 obtain rfl:=sI h
 exact ak (.inl E) E (bO 0 [vI 3,.slice (some ⟨g,0,none⟩) 4 4] dh E E E) (fun W2 o=>⟨(((some ⟨g,0,none⟩),4,4),[((none,0,0),(TT.mk 1 0 1 5 0 ([]:(List TSpan)))),(((some ⟨f,0,none⟩),1,1),(TT.mk 2 1 2 5 0 [(TSpan.mk 8 20)])),((none,0,0),(TT.mk 3 0 2 9 6 ([]:(List TSpan)))),((none,0,0),(TT.mk 4 1 2 8 2 ([]:(List TSpan))))],pg noR (aP (some ⟨f,0,none⟩) 1 63 2 1 (encL TSpan_cells [(TSpan.mk 8 20)]))),⟨E,(NestP.cons (sel:=(fun z:TT=>z.fK)) E (NestP.cons (sel:=(fun z:TT=>z.fK)) E (NestP.cons (sel:=(fun z:TT=>z.fK)) E (NestP.cons (sel:=(fun z:TT=>z.fK)) E NestP.nil)))),(PvL.cons (Pv.mono (Hb:=Hb) (Pv.nil E) (fun _ _ h=>h.1)) (PvL.cons (fun _ _ h=>eE h.2.2.1) (PvL.mono (Hb:=(fun W4=>Hb W4∧Res.holds noR W4)) (PvL.cons (Pv.mono (Hb:=Hb) (Pv.nil E) (fun _ _ h=>h.1)) (PvL.cons (Pv.mono (Hb:=Hb) (Pv.nil E) (fun _ _ h=>h.1)) PvL.nil)) (fun _ _ h=>⟨h.1,h.2.1⟩))))⟩,E,o.pickL [3,2] (by decide) E⟩)
theorem l4  (res:TY) (h:i6=some res) (W:World)  :
  Calls Tryz.prog 68 [].toArray W fun e W2=>∃x:((Option Addr × Nat × Nat) × (Option Addr × Nat × Nat)),(x.1.2.1=res.fB.length∧x.2.2.1=res.fR.length)∧e=.returned (.agg #[.slice x.1.1 x.1.2.1 x.1.2.2,.slice x.2.1 x.2.2.1 x.2.2.2])∧Ext W W2 [aP x.1.1 x.1.2.2 69 3 x.1.2.1 (encL aG res.fB),aP x.2.1 x.2.2.2 65 5 x.2.2.1 (encL aC res.fR)]:=by
 unfold i6 at h
 refine ag (m:=12) Tryz.func68 E E (nB E) (cS (cR ?_))
 refine aF rA E (fun r=>?_)
 refine oN (eT (cS (cR ?_)))
 refine oY E (bc [vI 1,vI 10,vI 3] [(0,1),(1,1),(2,1)] ust_69 pf (by kernel_rfl)) ?_
 refine oY E (bc [vI 2,vI 11,vI 5] [(0,1),(1,1),(2,1)] ust_69 pf (by kernel_rfl)) ?_
 refine aR 2 (encL aG [(TBay.mk 1 10 3),(TBay.mk 2 11 5)]) _ mc_69_2 kc pf by_69 (by decide) (by decide) (by kernel_rfl) (eL aL E) E (fun f=>?_)
 refine oY E (bc [vI 10,vI 11] [(0,1),(1,1)] sw rC (by kernel_rfl)) ?_
 refine oY E (bc [vI 7,vI 10,vI 11,vI 3,vI 5] [(0,1),(1,2),(3,1),(4,1)] ust_65 ph (by kernel_rfl)) ?_
 refine oY E (bc [vI 11,vI 12] [(0,1),(1,1)] sw rC (by kernel_rfl)) ?_
 refine oY E (bc [vI 8,vI 11,vI 12,vI 4,vI 9] [(0,1),(1,2),(3,1),(4,1)] ust_65 ph (by kernel_rfl)) ?_
 refine oY E (bc [vI 10,vI 11] [(0,1),(1,1)] sw rC (by kernel_rfl)) ?_
 refine oY E (bc [vI 9,vI 10,vI 11,vI 4,vI 7] [(0,1),(1,2),(3,1),(4,1)] ust_65 ph (by kernel_rfl)) ?_
 refine aR 3 (encL aC [(TO.mk 7 (TSpan.mk 10 11) 3 5),(TO.mk 8 (TSpan.mk 11 12) 4 9),(TO.mk 9 (TSpan.mk 10 11) 4 7)]) _ mc_65_3 lD ph by_65 (by decide) (by decide) (by kernel_rfl) (eL av E) E (fun g=>?_)
 refine oY E (bc [.slice (some ⟨f,0,none⟩) 2 2,.slice (some ⟨g,0,none⟩) 3 3] [(0,1),(1,1)] ust_53 rA (by kernel_rfl)) ?_
 refine co E (yS 0 [.slice (some ⟨f,0,none⟩) 2 2,.slice (some ⟨g,0,none⟩) 3 3] sz_53 E (nB E) E E E) (oN (eT (am ?_)))
 obtain rfl:=sI h
 exact ak (.inl E) E (bO 0 [.slice (some ⟨f,0,none⟩) 2 2,.slice (some ⟨g,0,none⟩) 3 3] dl E E E) (fun W2 o=>⟨(((some ⟨f,0,none⟩),2,2),((some ⟨g,0,none⟩),3,3)),⟨E,E⟩,E,o.pickL [1,2] (by decide) E⟩)
theorem qe (p0:TT) (p1:Int) (res:(Int × Int)) (h:mY p0 p1=some res) (W:World) (f:Option Addr) (u g:Nat) (D:u=p0.fK.length) (d:Rd W f u g (encL TSpan_cells p0.fK)) :
  Calls Tryz.prog 69 [.agg #[vI p0.fID,vI p0.fFrom,vI p0.fTo,vI p0.fLong,vI p0.fToll,.slice f u g],vI p1].toArray W fun e W2=>e=.returned (.tuple #[vI res.1,vI res.2])∧Ext W W2 []:=by
 subst D
 unfold mY at h
 refine ag (m:=26) Tryz.func69 E E (nB E) (cS (cR ?_))
 refine aI [vI p0.fID,vI p0.fFrom,vI p0.fTo,vI p0.fLong,vI p0.fToll,.slice f p0.fK.length g] E E E (fun Q=>?_)
 refine oY E (yAI E) (oY E (yAI E) (oN (eT (cS (cS (cR (oY E (yFA fC E) (oY E (yL 0 j9 E E E) ?_))))))))
 obtain⟨U,I,h⟩:=bOs h
 refine oY E (yC [.slice f p0.fK.length g] go_122 E (fun W2 o=>lk p0.fK U I W2 f p0.fK.length g E ((RdL.arg d) W2 o)) E) (oY E (bw E) (oY E (yMB E) ?_))
 obtain⟨X,K,h⟩:=bOs h
 refine oJ 4 (fun G=>(upd (upd (upd (upd (upd G 1 (vI p1)) 2 (.pointer (some ⟨Q,0,none⟩))) 4 (vI 0)) 5 (vI 0)) 16 (.bool X))) (fun G=>?_) (fun key=>?_)
 ·refine oN (eT ?_)
  rcases iOs h with⟨F,h⟩|⟨F,h⟩
  ·refine cT (vB F) (cS (cR (oY E (yAI E) (oY E (yAI E) (oN (eT (am (aa ?_))))))))
   obtain rfl:=sI h
   exact bJ (.inl E) E (rVt (v:=vI 0) E) (rVt (v:=vI 1) E) (fun W2 o=>⟨E,o.none⟩)
  ·refine cF (vB F) (cK (eT (cS (cR (oY E (yN 0 [vI p0.fID,vI p0.fFrom,vI p0.fTo,vI p0.fLong,vI p0.fToll,.slice f p0.fK.length g] gl E E E) (oY E (yMI E) ?_))))))
   obtain⟨O,M,h⟩:=bOs h
   refine oY E (yC [.agg #[vI p0.fID,vI p0.fFrom,vI p0.fTo,vI p0.fLong,vI p0.fToll,.slice f p0.fK.length g],vI p1] si E (fun W2 o=>ia p0 p1 O M W2 f p0.fK.length g E ((RdL.arg d) W2 o)) E) (oY E (aU E) (oY E (yE E E) (oY E (yE E E) (oY E (yAI E) (oY E (yAB E) (oN (eT (cS (cS (cR (oY E (yMB E) (oY E (bw E) (oN (eT ?_))))))))))))))
   rcases iOs h with⟨w,h⟩|⟨w,h⟩
   ·refine cT (vB w) (cS (cR (oY E (yAI E) (oY E (yAI E) (oN (eT (am (aa ?_))))))))
    obtain rfl:=sI h
    exact bJ (.inl E) E (rVt (v:=vI 0) E) (rVt (v:=vI 5) E) (fun W2 o=>⟨E,o.none⟩)
   ·refine cF (vB w) (cK (eT (cS (cR (oY E (yMI E) (oY E (yAI E) (oY E (yAI E) (oN (eT (am ?_))))))))))
    obtain rfl:=sI h
    exact bJ (.inl E) E (rVt (v:=vI O.1) E) (rVt (v:=vI 0) E) (fun W2 o=>⟨E,o.none⟩)
 ·clear h;rcases iOs K with⟨r,h⟩|⟨r,h⟩
  ·refine oSk (sF E E E E r) (oSk (sF E E E E r) (oSk (sF E E E E r) (oY E (ac (vB r) E) ?_)))
   obtain rfl:=sI h
   exact key _ _ (kp4 (kp E))
  ·refine oY (sT E E E E r) (yMI E) ?_
   obtain⟨N,H,h⟩:=bOs h
   refine oY (sT E E E E r) (yC [vI p1] ld E (fun W2 o=>cv p1 N H W2 ) E) (oY (sT E E E E r) (bw E) (oY E (ad (vB r) E) ?_))
   obtain rfl:=sI h
   exact key _ _ (kp4 (kp E))
end Go.Proofs.YthndghnkebboaaaGreat
