import Derived.Test.YthndghnkebboaaaGreatF
import Derived.Test.YthndghnkebboaaaGreatGF
import Derived.Test.YthndghnkebboaaaGreatGy
import Derived.Test.YthndghnkebboaaaGreatC4
import Derived.Test.YthndghnkebboaaaGreatC0
import Derived.Test.YthndghnkebboaaaGreatC2
set_option maxHeartbeats 4000000
set_option maxRecDepth 100000
set_option linter.unusedVariables false
namespace Go.Proofs.YthndghnkebboaaaGreat
open Go.RowKit (Below)
attribute [local irreducible] OX QX CX EX OpY Calls CallsIn
theorem rI (p0:TY) (p1:(List (Int × Int))) (res:TPlan) (h:oI p0 p1=some res) (W:World) (Aa:Option Addr) (O ca:Nat) (p:O=p0.fB.length) (F:Rd W Aa O ca (encL aH p0.fB)) (Ab:Option Addr) (Q cb:Nat) (n:Q=p0.fR.length) (I:Rd W Ab Q cb (encL aE p0.fR)) (g:Nat) (hm1_0:(mapV Tryz.prog 3 kI eI kI 0 g p1).holds W) :
  Calls Tryz.prog 99 [.agg #[.slice Aa O ca,.slice Ab Q cb],.map (some g)].toArray W fun e W2=>∃x:((Option Addr × Nat × Nat) × (Option Addr × Nat × Nat)),(x.1.2.1=res.fG.length∧x.2.2.1=res.fPrices.length)∧e=.returned (.agg #[.slice x.1.1 x.1.2.1 x.1.2.2,vI res.fW,.slice x.2.1 x.2.2.1 x.2.2.2])∧Ext W W2 [aR x.1.1 x.1.2.2 3 1 x.1.2.1 (encL cI res.fG),aR x.2.1 x.2.2.2 3 1 x.2.2.1 (encL cI res.fPrices)]:=by
 subst p
 subst n
 unfold oI at h
 refine aj (m:=54) Tryz.func99 E E (nB E) (cS (cR ?_))
 refine aN [.slice Aa p0.fB.length ca,.slice Ab p0.fR.length cb] E E E (fun l=>?_)
 refine aF ze_71 E (fun b2=>?_)
 refine oN (eT (cS ?_))
 obtain⟨t,h⟩:=gOs h
 obtain⟨G,fH,h⟩:=bOs h
 refine gI [[],[0],[0,1],[0,1,2],[],[],[4,5],[0,1,2,3,4,5,6],[],[0,1,2,3,4,5,6,7,8]] [(none,0,[true,true]),(none,0,[true,true]),(none,0,[true,true]),(none,1,[true,true]),(none,0,[true,true,false]),(none,0,[true,true,false]),(none,0,[true,true,false]),(none,0,[true,true,true]),(none,1,[true,true,false]),(some 3,0,[true,true,true,true])] [⟨fun _=>.pointer (some ⟨l,0+1,none⟩),fun _=>noR,fun _=>[]⟩,⟨fun _=>.slice Ab p0.fR.length cb,fun _=>noR,fun _=>[]⟩,⟨fun _=>vI (p0.fR.length:Int),fun _=>noR,fun _=>[]⟩,⟨fun ξ3=>.slice (some ⟨(ξ3 3 0).2.1,0,none⟩) (Int.toNat (p0.fR.length:Int)) (Int.toNat (p0.fR.length:Int)),fun _=>noR,fun ξ3=>[aR (some ⟨(ξ3 3 0).2.1,0,none⟩) (Int.toNat (p0.fR.length:Int)) 3 1 (Int.toNat (p0.fR.length:Int)) (encL cI (List.replicate (Int.toNat (p0.fR.length:Int)) 0))]⟩,⟨fun _=>.map (some g),fun _=>noR,fun _=>[]⟩,⟨fun _=>.agg #[.slice Aa p0.fB.length ca,.slice Ab p0.fR.length cb],fun _=>noR,fun _=>[]⟩,⟨fun _=>vI G,fun _=>noR,fun _=>[]⟩,⟨fun ξ3=>.agg #[.slice (some ⟨(ξ3 3 0).2.1,0,none⟩) (Int.toNat (p0.fR.length:Int)) (Int.toNat (p0.fR.length:Int)),vI G,.slice none 0 0],fun _=>noR,fun _=>[]⟩,⟨fun ξ3=>.pointer (some ⟨(ξ3 8 0).2.1,0,none⟩),fun _=>noR,fun ξ3=>[ak (ξ3 8 0).2.1 71 [.slice none 0 0,vI 0,.slice none 0 0]]⟩,⟨fun _=>undef,fun ξ3=>ak (ξ3 8 0).2.1 71 [.slice (some ⟨(ξ3 3 0).2.1,0,none⟩) (Int.toNat (p0.fR.length:Int)) (Int.toNat (p0.fR.length:Int)),vI G,.slice none 0 0],fun _=>[]⟩] 2 bW (by kernel_rfl) (by kernel_rfl) ⟨⟨fun ξ3 ξ3' h=>⟨E,E,E⟩,fun _=>E⟩,⟨fun ξ3 ξ3' h=>⟨E,E,E⟩,fun _=>E⟩,⟨fun ξ3 ξ3' h=>⟨E,E,E⟩,fun _=>E⟩,⟨fun ξ3 ξ3' h=>⟨by simp only[h 3 (.inl E)],E,by simp only[h 3 (.inl E)]⟩,fun _=>E⟩,⟨fun ξ3 ξ3' h=>⟨E,E,E⟩,fun _=>E⟩,⟨fun ξ3 ξ3' h=>⟨E,E,E⟩,fun _=>E⟩,⟨fun ξ3 ξ3' h=>⟨E,E,E⟩,fun _=>E⟩,⟨fun ξ3 ξ3' h=>⟨by simp only[h 3 (.inr E)],E,E⟩,fun _=>E⟩,⟨fun ξ3 ξ3' h=>⟨by simp only[h 8 (.inl E)],E,by simp only[h 8 (.inl E)]⟩,fun _=>E⟩,⟨fun ξ3 ξ3' h=>⟨E,by simp only[h 3 (.inr E),h 8 (.inr E)],E⟩,fun _=>E⟩,trivial⟩ E (fun ξ3=>?_)
 refine cW E (fun L2=>?_) ?_
 ·dsimp only[aM,lca,lna]
  refine oY E (yFA cw E) (oN ?_)
  exact az (fun _=>(none,0,0,[],noR)) E (List.append_nil _)
 dsimp only[cg,lsz,lss,lna,lca,List.append_nil]
 refine cW E (fun L2=>?_) ?_
 ·dsimp only[aM,lca,lna]
  refine oY E (yL 0 iG E E E) (oN ?_)
  exact az (fun _=>(none,0,0,[],noR)) E (List.append_nil _)
 dsimp only[cg,lsz,lss,lna,lca,List.append_nil]
 refine cW E (fun L2=>?_) ?_
 ·dsimp only[aM,lca,lna]
  refine oY E (bi (us:=[]) mi E) (oN ?_)
  exact az (fun _=>(none,0,0,[],noR)) E (List.append_nil _)
 dsimp only[cg,lsz,lss,lna,lca,List.append_nil]
 refine cW E (fun L2=>?_) ?_
 ·dsimp only[aM,lca,lna]
  refine sP (encL cI (List.replicate (Int.toNat (p0.fR.length:Int)) 0)) cQ nD qa t.1 t.2 E (qF _ _ _ E E) E (fun b4=>?_)
  refine oN ?_
  exact az (fun _=>(none,b4,0,[],noR)) E E
 dsimp only[cg,lsz,lss,lna,lca,List.append_nil]
 refine cW E (fun L2=>?_) ?_
 ·dsimp only[aM,lca,lna]
  refine oY E (cU E) (oN ?_)
  exact az (fun _=>(none,0,0,[],noR)) E (List.append_nil _)
 dsimp only[cg,lsz,lss,lna,lca,List.append_nil]
 refine cW E (fun L2=>?_) ?_
 ·dsimp only[aM,lca,lna]
  refine oY E (yN 0 [.slice Aa p0.fB.length ca,.slice Ab p0.fR.length cb] dF E E E) (oN ?_)
  exact az (fun _=>(none,0,0,[],noR)) E (List.append_nil _)
 dsimp only[cg,lsz,lss,lna,lca,List.append_nil]
 refine cW E (fun L2=>?_) ?_
 ·dsimp only[aM,lca,lna]
  refine oY E (yC [.map (some g),.agg #[.slice Aa p0.fB.length ca,.slice Ab p0.fR.length cb]] go_130 E (fun W2 d=>ji p1 p0 G fH W2 g ((MpL.arg hm1_0) W2 d) Aa p0.fB.length ca E ((RdL.arg F) W2 d) Ab p0.fR.length cb E ((RdL.arg I) W2 d)) E) (oN ?_)
  exact az (fun _=>(none,0,0,[],noR)) E (List.append_nil _)
 dsimp only[cg,lsz,lss,lna,lca,List.append_nil]
 refine cW E (fun L2=>?_) ?_
 ·dsimp only[aM,lca,lna]
  refine oY E (bn [.slice (some ⟨(ξ3 3 0).2.1,0,none⟩) (Int.toNat (p0.fR.length:Int)) (Int.toNat (p0.fR.length:Int)),vI G,.slice none 0 0] [(0,1),(1,1),(2,1)] ust_71 ze_71 (by kernel_rfl)) ?_
  refine oN ?_
  exact az (fun _=>(none,0,0,[],noR)) E (List.append_nil _)
 dsimp only[cg,lsz,lss,lna,lca,List.append_nil]
 refine cW E (fun L2=>?_) ?_
 ·dsimp only[aM,lca,lna]
  refine aF ze_71 E (fun b8=>?_)
  refine oN ?_
  exact az (fun _=>(none,b8,0,[],noR)) E E
 dsimp only[cg,lsz,lss,lna,lca,List.append_nil]
 refine gx_n E (fun L2=>?_) ?_
 ·dsimp only[aM,lca,lna]
  refine cy E (yS 3 [.slice (some ⟨(ξ3 3 0).2.1,0,none⟩) (Int.toNat (p0.fR.length:Int)) (Int.toNat (p0.fR.length:Int)),vI G,.slice none 0 0] sz_71 E (nB E) E E E) (oN ?_)
  first|exact ci (fun _=>(none,0,0,[],noR)) E|exact ci (fun _=>(none,0,0,[],noR)) (List.append_nil _)
 dsimp only[cg,lsz,lss,lna,lca,List.append_nil]
 refine my (eT (cS (cS (cR (oY E (cU E) (rU hm1_0 ke_3 r9 E E (fun b9 k10 hk11=>(oN (eT ?_)))))))))
 obtain⟨o,h⟩:=gOs h
 obtain⟨hd24,h⟩:=gOs h
 refine cB (sU (fun(w:Nat × (Int→Bool) × (List Int)) L tm=>FoldI eI p1 (fun a f=>a.set (Int.toNat (aC 0 p1 f)) ((rdL p0.fB f).fID)) (List.replicate (Int.toNat (p0.fR.length:Int)) 0) w∧Int.toNat (p0.fR.length:Int)=w.2.2.length∧∃(V:Nat→Value),L=[ak l 53 [.slice Aa p0.fB.length ca,.slice Ab p0.fR.length cb],ak b2 71 [.slice none 0 0,vI 0,.slice none 0 0],aR (some ⟨(ξ3 3 0).2.1,0,none⟩) (Int.toNat (p0.fR.length:Int)) 3 1 (Int.toNat (p0.fR.length:Int)) (encL cI w.2.2),ak (ξ3 8 0).2.1 71 [.slice (some ⟨(ξ3 3 0).2.1,0,none⟩) (Int.toNat (p0.fR.length:Int)) (Int.toNat (p0.fR.length:Int)),vI G,.slice none 0 0],rngA W Tryz.prog 3 kI eI kI 0 g b9 p1 w.2.1 w.1 none]∧tm=(upd (upd (upd (upd (upd (upd V 0 (.agg #[.slice Aa p0.fB.length ca,.slice Ab p0.fR.length cb])) 1 (.map (some g))) 2 (.pointer (some ⟨l,0,none⟩))) 4 (.pointer (some ⟨b2,0,none⟩))) 5 (.pointer (some ⟨(ξ3 8 0).2.1,0,none⟩))) 18 (.pointer (some ⟨b9,0,none⟩)))) (fun s=>s.1) (k10,(fun y=>bt p1 y),(List.replicate (Int.toNat (p0.fR.length:Int)) 0)) ⟨FoldI.start,(List.length_replicate).symm,_,E,(kp4 (kp (kp E)))⟩ ?_)
 rintro w L tm ⟨hI20,U,V,rfl,rfl⟩
 refine cS (cR ?_)
 refine tM 4 ((mapV Tryz.prog 3 kI eI kI 0 g p1).inb _ hm1_0 _ E) E ke_3 E E (fun hno18=>?_) (fun f k13 z hly15 hM16 hk17=>?_)
 ·refine oY E (yE E E) (oN (eT (cS (cF E (aD (ai ?_))))))
  refine ex_outM (by intro h;cases h) ?_
  have hS23:=hI20.done (C:=(fun f=>((0:Int)≤f∧f<(p0.fB.length:Int))∧((0:Int)≤aC 0 p1 f∧aC 0 p1 f<((Int.toNat (p0.fR.length:Int):Nat):Int)))) o hno18 (set_comm' hd24)
  rw[hS23]
  refine ac (eT (cS (cS (cR (oY E (yFA fm E) (oY E (yL 0 ly E E E) (oY E (bi (us:=[]) kS E) (oY E (yMI E) (oN (eT (cB ?_)))))))))))
  obtain⟨T,i,h⟩:=bOs h
  refine dr 3 1 (dr 3 1 (dr 3 1 ?_))
  refine bj (fun(s:(Int × (List Int))) L tm=>∃(V:Nat→Value) (S:Option Addr) (R:Nat) (X:Nat),X=s.2.length∧L=[ak l 53 [.slice Aa p0.fB.length ca,.slice Ab p0.fR.length cb],ak b2 71 [.slice none 0 0,vI 0,.slice none 0 0],aR (some ⟨(ξ3 3 0).2.1,0,none⟩) (Int.toNat (p0.fR.length:Int)) 3 1 (Int.toNat (p0.fR.length:Int)) (encL cI ((iI p1).foldl (fun a f=>a.set (Int.toNat (aC 0 p1 f)) ((rdL p0.fB f).fID)) (List.replicate (Int.toNat (p0.fR.length:Int)) 0))),ak (ξ3 8 0).2.1 71 [.slice (some ⟨(ξ3 3 0).2.1,0,none⟩) (Int.toNat (p0.fR.length:Int)) (Int.toNat (p0.fR.length:Int)),vI G,.slice S X R],rngA W Tryz.prog 3 kI eI kI 0 g b9 p1 w.2.1 w.1 none,aR none 0 3 1 0 (encL cI ([]:List Int)),aR none 0 3 1 0 (encL cI ([]:List Int)),aR S R 3 1 X (encL cI s.2)]∧tm=(upd (upd (upd (upd (upd V 2 (.pointer (some ⟨l,0,none⟩))) 4 (.pointer (some ⟨b2,0,none⟩))) 5 (.pointer (some ⟨(ξ3 8 0).2.1,0,none⟩))) 36 (vI (p0.fB.length:Int))) 37 (vI s.1))) 2 i ⟨_,none,0,0,E,E,(kp4 (kp E))⟩ ?_ ?_
  ·rintro D L tm st ⟨k,K,M,fD,rfl,rfl,rfl⟩ h
   unfold nJ at h
   refine cS (cR ?_)
   try dsimp only[lna,lca,lsz,lss]
   refine oY E (be E E) (oN (eT (cS ?_)))
   rcases iOs h with⟨Y,h⟩|⟨Y,h⟩
   ·refine cT (vB Y) (cK (eT (cS (cB (cS (cR (oY E (yMI E) (oY E (yAI E) (oN (eT ?_))))))))))
    obtain⟨H,b,h⟩:=bOs h
    obtain⟨N,c,h⟩:=bOs h
    obtain⟨f1,h⟩:=gOs h
    refine gI [[],[0],[],[2],[],[],[4,5],[4,5,6],[2,3,4,5,6,7],[2,3,4,5,6,7,8],[0,1,2,3,4,5,6,7,8,9],[0,1,2,3,4,5,6,7,8,9,10],[0,1,2,3,4,5,6,7,8,9,10,11]] [(none,0,[true,true,true,true,true,true,true,true]),(none,0,[true,true,true,true,true,true,true,true]),(none,0,[true,true,true,true,true,true,true,true]),(none,0,[true,true,true,true,true,true,true,true]),(none,0,[true,true,true,true,true,true,true,true]),(none,0,[true,true,true,true,true,true,true,true]),(none,1,[true,true,true,true,true,true,true,true]),(none,0,[true,true,true,true,true,true,true,true,true]),(none,0,[true,true,true,true,true,true,true,true,true]),(none,1,[true,true,true,true,true,true,true,true,true]),(some 7,0,[true,true,true,true,true,true,true,true,true,true]),(none,0,[true,true,true,true,true,true,true,true,true,true]),(some 3,0,[true,true,true,true,true,true,true,true,true,true])] [⟨fun _=>.pointer (some ⟨(ξ3 8 0).2.1,0+2,none⟩),fun _=>noR,fun _=>[]⟩,⟨fun _=>.slice K D.2.length M,fun _=>noR,fun _=>[]⟩,⟨fun _=>.pointer (some ⟨(ξ3 8 0).2.1,0+1,none⟩),fun _=>noR,fun _=>[]⟩,⟨fun _=>vI G,fun _=>noR,fun _=>[]⟩,⟨fun _=>.agg #[.slice Aa p0.fB.length ca,.slice Ab p0.fR.length cb],fun _=>noR,fun _=>[]⟩,⟨fun _=>vI D.1,fun _=>noR,fun _=>[]⟩,⟨fun ξ30=>.agg #[.slice (ξ30 6 0).1 H.fB.length (ξ30 6 0).2.2.1,.slice Ab p0.fR.length cb],fun _=>noR,fun ξ30=>[aR (ξ30 6 0).1 (ξ30 6 0).2.2.1 69 3 H.fB.length (encL aH H.fB)]⟩,⟨fun _=>vI N,fun _=>noR,fun _=>[]⟩,⟨fun _=>vI (w64 (G-N)),fun _=>noR,fun _=>[]⟩,⟨fun ξ30=>.slice (some ⟨(ξ30 9 0).2.1,0,none⟩) 1 1,fun _=>noR,fun ξ30=>[aR (some ⟨(ξ30 9 0).2.1,0,none⟩) 1 3 1 1 (encL cI [w64 (G-N)])]⟩,⟨fun ξ30=>.slice (ξ30 10 0).1 (D.2.length+1) (ξ30 10 0).2.2.1,fun ξ30=>aR (ξ30 10 0).1 (ξ30 10 0).2.2.1 3 1 (D.2.length+1) (encL cI (D.2++[w64 (G-N)])),fun _=>[]⟩,⟨fun _=>.pointer (some ⟨(ξ3 8 0).2.1,0+2,none⟩),fun _=>noR,fun _=>[]⟩,⟨fun _=>undef,fun ξ30=>ak (ξ3 8 0).2.1 71 [.slice (some ⟨(ξ3 3 0).2.1,0,none⟩) (Int.toNat (p0.fR.length:Int)) (Int.toNat (p0.fR.length:Int)),vI G,.slice (ξ30 10 0).1 (D.2.length+1) (ξ30 10 0).2.2.1],fun _=>[]⟩] 8 bW (by kernel_rfl) (by kernel_rfl) ⟨⟨fun ξ30 ξ30' h=>⟨E,E,E⟩,fun _=>E⟩,⟨fun ξ30 ξ30' h=>⟨E,E,E⟩,fun _=>E⟩,⟨fun ξ30 ξ30' h=>⟨E,E,E⟩,fun _=>E⟩,⟨fun ξ30 ξ30' h=>⟨E,E,E⟩,fun _=>E⟩,⟨fun ξ30 ξ30' h=>⟨E,E,E⟩,fun _=>E⟩,⟨fun ξ30 ξ30' h=>⟨E,E,E⟩,fun _=>E⟩,⟨fun ξ30 ξ30' h=>⟨by simp only[h 6 (.inl E)],E,by simp only[h 6 (.inl E)]⟩,fun _=>E⟩,⟨fun ξ30 ξ30' h=>⟨E,E,E⟩,fun _=>E⟩,⟨fun ξ30 ξ30' h=>⟨E,E,E⟩,fun _=>E⟩,⟨fun ξ30 ξ30' h=>⟨by simp only[h 9 (.inl E)],E,by simp only[h 9 (.inl E)]⟩,fun _=>E⟩,⟨fun ξ30 ξ30' h=>⟨by simp only[h 10 (.inl E)],by simp only[h 10 (.inl E)],E⟩,fun _=>E⟩,⟨fun ξ30 ξ30' h=>⟨E,E,E⟩,fun _=>E⟩,⟨fun ξ30 ξ30' h=>⟨E,by simp only[h 10 (.inr E)],E⟩,fun _=>E⟩,trivial⟩ E (fun ξ30=>?_)
    refine cW E (fun L2=>?_) ?_
    ·dsimp only[aM,lca,lna]
     refine oY E (yFA sO E) (oN ?_)
     exact az (fun _=>(none,0,0,[],noR)) E (List.append_nil _)
    dsimp only[cg,lsz,lss,lna,lca,List.append_nil]
    refine cW E (fun L2=>?_) ?_
    ·dsimp only[aM,lca,lna]
     refine oY E (yL 3 gM E E E) (oN ?_)
     exact az (fun _=>(none,0,0,[],noR)) E (List.append_nil _)
    dsimp only[cg,lsz,lss,lna,lca,List.append_nil]
    refine cW E (fun L2=>?_) ?_
    ·dsimp only[aM,lca,lna]
     refine oY E (yFA qW E) (oN ?_)
     exact az (fun _=>(none,0,0,[],noR)) E (List.append_nil _)
    dsimp only[cg,lsz,lss,lna,lca,List.append_nil]
    refine cW E (fun L2=>?_) ?_
    ·dsimp only[aM,lca,lna]
     refine oY E (yL 3 aK E E E) (oN ?_)
     exact az (fun _=>(none,0,0,[],noR)) E (List.append_nil _)
    dsimp only[cg,lsz,lss,lna,lca,List.append_nil]
    refine cW E (fun L2=>?_) ?_
    ·dsimp only[aM,lca,lna]
     refine oY E (yN 0 [.slice Aa p0.fB.length ca,.slice Ab p0.fR.length cb] dF E E E) (oN ?_)
     exact az (fun _=>(none,0,0,[],noR)) E (List.append_nil _)
    dsimp only[cg,lsz,lss,lna,lca,List.append_nil]
    refine cW E (fun L2=>?_) ?_
    ·dsimp only[aM,lca,lna]
     refine oY E (yMI E) (oN ?_)
     exact az (fun _=>(none,0,0,[],noR)) E (List.append_nil _)
    dsimp only[cg,lsz,lss,lna,lca,List.append_nil]
    refine cW E (fun L2=>?_) ?_
    ·dsimp only[aM,lca,lna]
     refine oC [.agg #[.slice Aa p0.fB.length ca,.slice Ab p0.fR.length cb],vI D.1] _ _ _ E go_97 E (fun W2 d=>k8 p0 D.1 H b W2 Aa p0.fB.length ca E ((RdL.arg F) W2 d) Ab p0.fR.length cb E ((RdL.arg I) W2 d)) ?_
     rintro⟨fT,fn,fl⟩ Z
     replace Z:fn=H.fB.length:=Z;subst Z
     refine oN ?_
     exact az (fun _=>(fT,0,fl,[],noR)) E E
    dsimp only[cg,lsz,lss,lna,lca,List.append_nil]
    refine cW E (fun L2=>?_) ?_
    ·dsimp only[aM,lca,lna]
     refine oY E (yC [.agg #[.slice (ξ30 6 0).1 H.fB.length (ξ30 6 0).2.2.1,.slice Ab p0.fR.length cb]] go_83 E (fun W2 d=>fz (TY.mk H.fB p0.fR) N c W2 (ξ30 6 0).1 H.fB.length (ξ30 6 0).2.2.1 E ((RdL.row 8 E) W2 d) Ab p0.fR.length cb E ((RdL.arg I) W2 d)) E) (oN ?_)
     exact az (fun _=>(none,0,0,[],noR)) E (List.append_nil _)
    dsimp only[cg,lsz,lss,lna,lca,List.append_nil]
    refine cW E (fun L2=>?_) ?_
    ·dsimp only[aM,lca,lna]
     refine oY E (ex E E) (oN ?_)
     exact az (fun _=>(none,0,0,[],noR)) E (List.append_nil _)
    dsimp only[cg,lsz,lss,lna,lca,List.append_nil]
    refine cW E (fun L2=>?_) ?_
    ·dsimp only[aM,lca,lna]
     refine aP 1 (encL cI [w64 (G-N)]) _ o4 cQ nD qa (by decide) (by decide) (by kernel_rfl) (eL aB E) E (fun ft=>?_)
     refine oN ?_
     exact az (fun _=>(none,ft,0,[],noR)) E E
    dsimp only[cg,lsz,lss,lna,lca,List.append_nil]
    refine cW E (fun L2=>?_) ?_
    ·dsimp only[aM,lca,lna]
     refine cx 7 cQ nD qa E E E (RdL.row 9 E) (eL aB E) (ef qs _) (eR f1 (by decide)) E (fun f2 f3=>?_)
     refine oN ?_
     first|exact az (fun _=>(f2,0,f3,[],noR)) E E|exact az (fun _=>(f2,0,f3,[],noR)) E (List.append_nil _)
    dsimp only[cg,lsz,lss,lna,lca,List.append_nil]
    refine cW E (fun L2=>?_) ?_
    ·dsimp only[aM,lca,lna]
     refine oY E (yFA sO E) (oN ?_)
     exact az (fun _=>(none,0,0,[],noR)) E (List.append_nil _)
    dsimp only[cg,lsz,lss,lna,lca,List.append_nil]
    refine gx_n E (fun L2=>?_) ?_
    ·dsimp only[aM,lca,lna]
     refine cy E (dJ 3 (v:=.slice (ξ30 10 0).1 (D.2.length+1) (ξ30 10 0).2.2.1) sz_42 E (Nat.lt_of_lt_of_le (Nat.lt_succ_self _) (nB E)) E E E) (oN ?_)
     first|exact ci (fun _=>(none,0,0,[],noR)) E|exact ci (fun _=>(none,0,0,[],noR)) (List.append_nil _)
    dsimp only[cg,lsz,lss,lna,lca,List.append_nil]
    refine my (aw (eT (cR ?_)))
    try dsimp only[lna,lca,lsz,lss]
    refine oY E (aL E E) (oY E (yMI E) (oN (aQ 8 ?_)))
    obtain rfl:=sI h
    exact eN ⟨_,(ξ30 10 0).1,(ξ30 10 0).2.2.1,(D.2.length+1),(jM E E),E,(kp4 (kp E))⟩
   ·refine cF (vB Y) (aD (ai ?_))
    obtain rfl:=sI h
    exact av ⟨E,_,K,M,D.2.length,E,E,(kp4 (kp E))⟩
  ·intro e L tm hJ
   obtain⟨rfl,fr,r,u,fE,rfl,rfl,rfl⟩:=hJ
   refine⟨(by intro hc;cases hc),?_⟩
   refine ac (eT (cS (cR ?_)))
   try dsimp only[lna,lca,lsz,lss]
   refine oY E (yN 3 [.slice (some ⟨(ξ3 3 0).2.1,0,none⟩) (Int.toNat (p0.fR.length:Int)) (Int.toNat (p0.fR.length:Int)),vI G,.slice r T.2.length u] ag_71 E E E) (cy E (yS 1 [.slice (some ⟨(ξ3 3 0).2.1,0,none⟩) (Int.toNat (p0.fR.length:Int)) (Int.toNat (p0.fR.length:Int)),vI G,.slice r T.2.length u] sz_71 E (nB E) E E E) (oN (eT (ap ?_))))
   obtain rfl:=sI h
   exact am (.inl E) E (cf 1 [.slice (some ⟨(ξ3 3 0).2.1,0,none⟩) (Int.toNat (p0.fR.length:Int)) (Int.toNat (p0.fR.length:Int)),vI G,.slice r T.2.length u] ag_71 E E E) (fun W2 d=>⟨(((some ⟨(ξ3 3 0).2.1,0,none⟩),Int.toNat (p0.fR.length:Int),Int.toNat (p0.fR.length:Int)),(r,T.2.length,u)),⟨(pr _ (List.length_replicate).symm),E⟩,E,d.pickL [2,7] (by decide) E⟩)
 ·refine oY E (yE E E) (oN (eT (cS (cT E (cK (eT (cB (cS (cR (oY E (tq 4 ((mapV Tryz.prog 3 kI eI kI 0 g p1).inb _ hm1_0 _ E) E E) (oY E (yE E E) (oY E (yE E E) (oY E (yAI E) (oY E (yAI E) (oN (eT ?_))))))))))))))))
  refine aS 10 bW (by kernel_rfl) (by kernel_rfl) ?_
  refine qY E (yFA fo_71_0 E) (qY E (yL 3 gM E E E) (qY E (yMI E) (qY E (yFA fm E) (qY E (yL 0 ly E E E) (qY E (yMI E) ?_)))))
  refine qY E (yI ni (by decide) ((kR (C:=(fun f=>((0:Int)≤f∧f<(p0.fB.length:Int))∧((0:Int)≤aC 0 p1 f∧aC 0 p1 f<((Int.toNat (p0.fR.length:Int):Nat):Int)))) o hM16).1).1 ((kR (C:=(fun f=>((0:Int)≤f∧f<(p0.fB.length:Int))∧((0:Int)≤aC 0 p1 f∧aC 0 p1 f<((Int.toNat (p0.fR.length:Int):Nat):Int)))) o hM16).1).2 (RdL.arg F) (eL aO E) E E) ?_
  refine qY E (yFR (A:=Aa) (j:=(Int.toNat f*3)) ld E) (qY E (yR (A:=Aa) (j:=((Int.toNat f*3)+0)) (v:=vI ((rdL p0.fB f).fID)) aK (RdL.arg F) E (eG aO ((kR (C:=(fun f=>((0:Int)≤f∧f<(p0.fB.length:Int))∧((0:Int)≤aC 0 p1 f∧aC 0 p1 f<((Int.toNat (p0.fR.length:Int):Nat):Int)))) o hM16).1).1 (ah ((kR (C:=(fun f=>((0:Int)≤f∧f<(p0.fB.length:Int))∧((0:Int)≤aC 0 p1 f∧aC 0 p1 f<((Int.toNat (p0.fR.length:Int):Nat):Int)))) o hM16).1).2 E) E)) ?_)
  refine qY E (yI bS (by decide) ((kR (C:=(fun f=>((0:Int)≤f∧f<(p0.fB.length:Int))∧((0:Int)≤aC 0 p1 f∧aC 0 p1 f<((Int.toNat (p0.fR.length:Int):Nat):Int)))) o hM16).2).1 ((kR (C:=(fun f=>((0:Int)≤f∧f<(p0.fB.length:Int))∧((0:Int)≤aC 0 p1 f∧aC 0 p1 f<((Int.toNat (p0.fR.length:Int):Nat):Int)))) o hM16).2).2 (RdL.row 2 E) (eL aB U) E E) ?_
  refine bF (cy E (iD 2 (xs:=w.2.2) aB ((rdL p0.fB f).fID) px E ((kR (C:=(fun f=>((0:Int)≤f∧f<(p0.fB.length:Int))∧((0:Int)≤aC 0 p1 f∧aC 0 p1 f<((Int.toNat (p0.fR.length:Int):Nat):Int)))) o hM16).2).1 (ah ((kR (C:=(fun f=>((0:Int)≤f∧f<(p0.fB.length:Int))∧((0:Int)≤aC 0 p1 f∧aC 0 p1 f<((Int.toNat (p0.fR.length:Int):Nat):Int)))) o hM16).2).2 U) E E E E) (oN (aw (oV 4 E ?_))))
  exact tI (k13,(fun q=>w.2.1 q && !decide (q=f)),(w.2.2.set (Int.toNat (aC 0 p1 f)) ((rdL p0.fB f).fID))) ⟨hI20.step z hly15 hM16,(cY U),_,E,(kp4 (kp (kp E)))⟩ hk17
theorem qC (p0:TY) (res:(TPlan × Int)) (h:nk p0=some res) (W:World) (Aa:Option Addr) (u ca:Nat) (K:u=p0.fB.length) (g:Rd W Aa u ca (encL aH p0.fB)) (Ab:Option Addr) (d cb:Nat) (M:d=p0.fR.length) (o:Rd W Ab d cb (encL aE p0.fR)) (wb:World) (Hb:World→Prop) (hB:∀W3,Below W.heap.size W W3→Below wb.heap.size wb W3∧Hb W3) :
  Calls Tryz.prog 37 [.agg #[.slice Aa u ca,.slice Ab d cb]].toArray W fun e W2=>∃x:((Hd × Res) × (Hd × Res)),(x.1.1.2.1=res.1.fG.length∧Pv cI wb (fun W4=>Hb W4∧Res.holds x.1.2 W4) x.1.1 res.1.fG∧x.2.1.2.1=res.1.fPrices.length∧Pv cI wb (fun W4=>Hb W4∧Res.holds x.2.2 W4) x.2.1 res.1.fPrices)∧e=.returned (.tuple #[.agg #[.slice x.1.1.1 x.1.1.2.1 x.1.1.2.2,vI res.1.fW,.slice x.2.1.1 x.2.1.2.1 x.2.1.2.2],vI res.2])∧Ext W W2 [x.1.2,x.2.2]:=by
 subst K
 subst M
 unfold nk at h
 refine aj (m:=15) Tryz.func37 E E (nB E) (cS (cR ?_))
 refine aN [.slice Aa p0.fB.length ca,.slice Ab p0.fR.length cb] E E E (fun S=>?_)
 refine aF ze_71 E (fun R=>?_)
 refine oY E (yAI E) (oN (eT (cS (cS (cR (oY E (yN 0 [.slice Aa p0.fB.length ca,.slice Ab p0.fR.length cb] dF E E E) ?_))))))
 obtain⟨V,Q,h⟩:=bOs h
 refine oY E (yC [.agg #[.slice Aa p0.fB.length ca,.slice Ab p0.fR.length cb]] go_45 E (fun W2 f=>dY p0 V Q W2 Aa p0.fB.length ca E ((RdL.arg g) W2 f) Ab p0.fR.length cb E ((RdL.arg o) W2 f)) E) (oY E (yAI E) (oN (eT (cS (cR (oY E (yMI E) (oY E (cJ E E) (oN (eT ?_)))))))))
 rcases iOs h with⟨N,h⟩|⟨N,h⟩
 ·refine cT (vB N) (cS (cR ?_))
  refine oY E (bn [.slice none 0 0,vI 0,.slice none 0 0] [(0,1),(1,1),(2,1)] ust_71 ze_71 (by kernel_rfl)) ?_
  refine oY E (yMI E) (cy E (yS 1 [.slice none 0 0,vI 0,.slice none 0 0] sz_71 E (nB E) E E E) (oY E (yAI E) (oN (eT (ap (ab ?_))))))
  obtain rfl:=sI h
  exact bT (.inl E) E (cf 1 [.slice none 0 0,vI 0,.slice none 0 0] ag_71 E E E) (rVt (v:=vI V) E) (fun W2 f=>⟨(((none,0,0),noR),((none,0,0),noR)),⟨E,(Pv.mono (Hb:=Hb) (Pv.nil E) (fun _ _ h=>h.1)),E,(Pv.mono (Hb:=Hb) (Pv.nil E) (fun _ _ h=>h.1))⟩,E,f.addNo.addNo.pickL [2,3] (by decide) E⟩)
 ·refine cF (vB N) (cK (eT (cS ?_)))
  obtain⟨U,X,h⟩:=bOs h
  refine cx_drawsQ 2 3 (fun v L1=>∃x:Nat,v=.map (some x)∧L1=[mapV Tryz.prog 3 kI eI kI 0 x U]) bW (by kernel_rfl) (by kernel_rfl) (by kernel_rfl) ?_
  refine bx_y E (fun _=>yN 0 [.slice Aa p0.fB.length ca,.slice Ab p0.fR.length cb] dF E E E) (bx_y E (fun _=>yN 0 [.slice Aa p0.fB.length ca,.slice Ab p0.fR.length cb] dF E E E) (bx_q E (mD [.agg #[.slice Aa p0.fB.length ca,.slice Ab p0.fR.length cb]] _ _ E go_100 E (fun W2 f=>mr p0 U X W2 Aa p0.fB.length ca E ((RdL.arg g) W2 f) Ab p0.fR.length cb E ((RdL.arg o) W2 f)) (fun x=>oN (ex_cap ⟨x,E,E⟩))) (kx_nil E ?_)))
  rintro v L1 ⟨T,rfl,rfl⟩
  obtain⟨r,O,h⟩:=bOs h
  refine oC [.agg #[.slice Aa p0.fB.length ca,.slice Ab p0.fR.length cb],.map (some T)] _ _ _ E go_99 E (fun W2 f=>rI p0 U r O W2 Aa p0.fB.length ca E ((RdL.arg g) W2 f) Ab p0.fR.length cb E ((RdL.arg o) W2 f) T ((MpL.own 2 E) W2 f)) ?_
  rintro⟨⟨F,Y,G⟩,⟨H,Z,I⟩⟩ ⟨w,D⟩
  replace w:Y=r.fG.length:=w;subst w
  replace D:Z=r.fPrices.length:=D;subst D
  refine cy E (yS 1 [.slice F r.fG.length G,vI r.fW,.slice H r.fPrices.length I] sz_71 E (nB E) E E E) (oY E (yAI E) (oN (qI (eT (ap ?_)))))
  obtain rfl:=sI h
  exact bT (.inl E) E (cf 1 [.slice F r.fG.length G,vI r.fW,.slice H r.fPrices.length I] ag_71 E E E) (rVt (v:=vI 0) E) (fun W2 f=>⟨(((F,r.fG.length,G),aR F G 3 1 r.fG.length (encL cI r.fG)),((H,r.fPrices.length,I),aR H I 3 1 r.fPrices.length (encL cI r.fPrices))),⟨E,(fun _ _ h=>eZ h.2),E,(fun _ _ h=>eZ h.2)⟩,E,f.pickL [3,4] (by decide) E⟩)
theorem aT (p0:Int) (p1:Int) (p2:Int) (res:Bool) (h:bb p0 p1 p2=some res) (W:World)  :
  Calls Tryz.prog 109 [vI p0,vI p1,vI p2].toArray W fun e W2=>e=.returned (.bool res)∧Ext W W2 []:=by
 unfold bb at h
 refine aj (m:=15) Tryz.func109 E E (nB E) (cS (cR (oY E (yAB E) (oN (eT (cS (cR (oY E (yMI E) (oY E (yMI E) (oY E (lu E E) (oY E (yMB E) ?_)))))))))))
 refine oJ 4 (fun g=>(upd (upd g 6 (.bool false)) 14 (.bool ((decide (p1≤p0))&&(decide (p0≤p2)))))) (fun g=>?_) (fun key=>?_)
 ·refine oY E (yAB E) (oN (eT (ap ?_)))
  obtain rfl:=sI h
  exact am (.inl E) E (rVt (v:=.bool ((decide (p1≤p0))&&(decide (p0≤p2)))) E) (fun W2 o=>⟨E,o.none⟩)
 ·rcases ar (decide (p1≤p0))with f|f
  ·refine oY (sT E E E E f) (yMI E) (oY (sT E E E E f) (yMI E) (oY (sT E E E E f) (gV E E) (oY E (ad (vB f) E) ?_)))
   exact key _ _ (keep (keep E E) (vB (fF f)))
  ·refine oSk (sF E E E E f) (oSk (sF E E E E f) (oSk (sF E E E E f) (oY E (ag (vB f) E) ?_)))
   exact key _ _ (keep (keep E E) (vB (fy f)))
theorem dt (p0:Int) (res:Bool) (h:dk p0=some res) (W:World)  :
  Calls Tryz.prog 77 [vI p0].toArray W fun e W2=>e=.returned (.bool res)∧Ext W W2 []:=by
 unfold dk at h
 refine aj (m:=5) Tryz.func77 E E (nB E) (cS (cR (oY E (yAB E) (oN (eT (cS (cR (oY E (yMI E) ?_))))))))
 obtain⟨o,g,h⟩:=bOs h
 refine oY E (yC [vI p0,vI 0,vI 16384] gE E (fun W2 f=>aT p0 0 16384 o g W2 ) E) (oY E (yAB E) (oN (eT (ap ?_))))
 obtain rfl:=sI h
 exact am (.inl E) E (rVt (v:=.bool o) E) (fun W2 f=>⟨E,f.none⟩)
theorem mz (p0:TY) (res:Int) (h:jD p0=some res) (W:World) (Aa:Option Addr) (n ca:Nat) (c:n=p0.fB.length) (Q:Rd W Aa n ca (encL aH p0.fB)) (Ab:Option Addr) (l cb:Nat) (f1:l=p0.fR.length) (U:Rd W Ab l cb (encL aE p0.fR)) :
  Calls Tryz.prog 46 [.agg #[.slice Aa n ca,.slice Ab l cb]].toArray W fun e W2=>e=.returned (vI res)∧Ext W W2 []:=by
 subst c
 subst f1
 unfold jD at h
 refine aj (m:=142) Tryz.func46 E E (nB E) (cS (cR ?_))
 refine aN [.slice Aa p0.fB.length ca,.slice Ab p0.fR.length cb] E E E (fun V=>?_)
 refine oY E (yAI E) (oN (eT (cS (cS (cR (oY E (yFA fm E) (oY E (yL 0 ly E E E) (oY E (bi (us:=[]) kS E) (oY E (eu E E) (oY E (yMB E) ?_))))))))))
 refine oJ 5 (fun g=>(upd (upd (upd g 1 (.pointer (some ⟨V,0,none⟩))) 2 (vI 0)) 26 (.bool ((decide (24<(p0.fB.length:Int)))||(decide (24<(p0.fR.length:Int))))))) (fun g=>?_) (fun key=>?_)
 ·refine oN (eT ?_)
  rcases iOs h with⟨f2,h⟩|⟨f2,h⟩
  ·refine cT (vB f2) (cS (cR (oY E (yAI E) (oN (eT (ap (ab ?_)))))))
   obtain rfl:=sI h
   exact am (.inl E) E (rVt (v:=vI 2) E) (fun W2 d=>⟨E,d.none⟩)
  ·refine cF (vB f2) (cK (eT (cS (cS (cR (oY E (yAI E) (oN (eT (cB ?_)))))))))
   obtain⟨u6,fE,h⟩:=bOs h
   refine a8 (fun(s:(Int × Int)) L tm=>∃(g:Nat→Value),L=[ak V 53 [.slice Aa p0.fB.length ca,.slice Ab p0.fR.length cb]]∧tm=(upd (upd (upd g 1 (.pointer (some ⟨V,0,none⟩))) 2 (vI s.1)) 3 (vI s.2))) 0 fE ⟨_,E,(kp (kp (kp E)))⟩ ?_ ?_
   ·rintro N L tm st ⟨oj,rfl,rfl⟩ h
    unfold jH at h
    refine cS (cS (cR (oY E (yMI E) (oY E (yFA fm E) (oY E (yL 0 ly E E E) (oY E (bi (us:=[]) kS E) (oY E (be E E) (oN (eT ?_)))))))))
    rcases iOs h with⟨f3,h⟩|⟨f3,h⟩
    ·refine cT (vB f3) (cK (eT (cS (cB (cS (cR (oY E (yFA fm E) (oY E (yL 0 ly E E E) (oY E (yMI E) ?_)))))))))
     obtain⟨b,h⟩:=gOs h
     refine oY E (yI ni (by decide) b.1 b.2 (RdL.arg Q) (eL aO E) E E) ?_
     refine oY E (yM (A:=Aa) (j:=(Int.toNat N.2*3)) [vI ((rdL p0.fB N.2).fID),vI ((rdL p0.fB N.2).fHour),vI ((rdL p0.fB N.2).fD)] ag_69 (Nat.succ_pos _) (RdL.arg Q) E (bc aO b.1 (ah b.2 E))) ?_
     refine aF pW E (fun b9=>?_)
     refine cy E (yS 1 [vI ((rdL p0.fB N.2).fID),vI ((rdL p0.fB N.2).fHour),vI ((rdL p0.fB N.2).fD)] sz_69 E (nB E) E E E) (oN (eT (cS (cR (oY E (yFA ld E) (oY E (yL 1 aK E E E) ?_))))))
     obtain⟨X,fG,h⟩:=bOs h
     refine oY E (yC [vI ((rdL p0.fB N.2).fID),vI 1,vI 1099511627776] gE E (fun W2 d=>aT ((rdL p0.fB N.2).fID) 1 1099511627776 X fG W2 ) E) (oY E (yAB E) (oN (eT (cS (cR (oY E (yFA qX E) (oY E (yL 1 aK E E E) ?_)))))))
     obtain⟨Z,fK,h⟩:=bOs h
     refine oY E (yC [vI ((rdL p0.fB N.2).fHour)] rA E (fun W2 d=>dt ((rdL p0.fB N.2).fHour) Z fK W2 ) E) (oY E (yAB E) (oN (eT (cS (cR (oY E (yFA qT E) (oY E (yL 1 aK E E E) ?_)))))))
     obtain⟨p,fT,h⟩:=bOs h
     refine oY E (yC [vI ((rdL p0.fB N.2).fD),vI 0,vI 9] gE E (fun W2 d=>aT ((rdL p0.fB N.2).fD) 0 9 p fT W2 ) E) (oY E (yAB E) (oN (eT (cS (cS (cR (oY E (yMB E) (oY E (bD E) (oY E (yMB E) ?_)))))))))
     refine oJ 3 (fun g=>(upd (upd (upd (upd (upd (upd (upd (upd (upd g 1 (.pointer (some ⟨V,0,none⟩))) 2 (vI N.1)) 3 (vI N.2)) 31 (.bool (decide (N.2<(p0.fB.length:Int))))) 4 (.pointer (some ⟨b9,0,none⟩))) 5 (.bool X)) 6 (.bool Z)) 7 (.bool p)) 53 (.bool ((!X)||(!Z))))) (fun g=>?_) (fun key=>?_)
     ·refine oY E (yMB E) ?_
      refine oJ 3 (fun g=>(upd (upd (upd (upd (upd (upd (upd (upd (upd g 1 (.pointer (some ⟨V,0,none⟩))) 2 (vI N.1)) 3 (vI N.2)) 31 (.bool (decide (N.2<(p0.fB.length:Int))))) 4 (.pointer (some ⟨b9,0,none⟩))) 5 (.bool X)) 6 (.bool Z)) 7 (.bool p)) 57 (.bool (((!X)||(!Z))||(!p))))) (fun g=>?_) (fun key=>?_)
      ·refine oN (eT ?_)
       rcases iOs h with⟨t,h⟩|⟨t,h⟩
       ·refine cT (vB t) (cS (cR (oY E (yAI E) (oN (eT (ap (ab (ae (ab (aQ 1 ?_))))))))))
        obtain rfl:=sI h
        exact av ⟨E,_,E,(kp (kp (kp E)))⟩
       ·refine cF (vB t) (cK (eT (cS (cR (oY E (yAI E) (oN (eT (cB ?_))))))))
        obtain⟨r0,fn,h⟩:=bOs h
        refine a8 (fun(s:(Int × Int)) L tm=>∃(g:Nat→Value),L=[ak V 53 [.slice Aa p0.fB.length ca,.slice Ab p0.fR.length cb],ak b9 69 [vI ((rdL p0.fB N.2).fID),vI ((rdL p0.fB N.2).fHour),vI ((rdL p0.fB N.2).fD)]]∧tm=(upd (upd (upd (upd (upd (upd (upd (upd (upd (upd g 1 (.pointer (some ⟨V,0,none⟩))) 2 (vI s.1)) 3 (vI N.2)) 31 (.bool (decide (N.2<(p0.fB.length:Int))))) 4 (.pointer (some ⟨b9,0,none⟩))) 5 (.bool X)) 6 (.bool Z)) 7 (.bool p)) 57 (.bool (((!X)||(!Z))||(!p)))) 8 (vI s.2))) 2 fn ⟨_,E,(kp4 (kp4 (kp (kp E))))⟩ ?_ ?_
        ·rintro fr L tm st ⟨fl,rfl,rfl⟩ h
         unfold jG at h
         refine cS (cS (cR (oY E (yMI E) (oY E (yMI E) (oY E (be E E) (oN (eT ?_)))))))
         rcases iOs h with⟨a,h⟩|⟨a,h⟩
         ·refine cT (vB a) (cK (eT (cS (cB (cS ?_)))))
          refine aS 9 bW (by kernel_rfl) (by kernel_rfl) ?_
          refine qY E (yFA fm E) (qY E (yL 0 ly E E E) (qY E (yMI E) ?_))
          obtain⟨S,h⟩:=gOs h
          refine qY E (yI ni (by decide) S.1 S.2 (RdL.arg Q) (eL aO E) E E) ?_
          refine qY E (yFR (A:=Aa) (j:=(Int.toNat fr.2*3)) ld E) (qY E (yR (A:=Aa) (j:=((Int.toNat fr.2*3)+0)) (v:=vI ((rdL p0.fB fr.2).fID)) aK (RdL.arg Q) E (eG aO S.1 (ah S.2 E) E)) (qY E (yFA ld E) (qY E (yL 1 aK E E E) (qY E (cZ E E) (bF (oN (eT ?_)))))))
          rcases iOs h with⟨z,h⟩|⟨z,h⟩
          ·refine cT (vB z) (cS (cR (oY E (yAI E) (oN (eT (ap (ae (ab ?_))))))))
           obtain rfl:=sI h
           exact av ⟨E,_,E,(kp4 (kp4 (kp (kp E))))⟩
          ·refine cF (vB z) (cK (aw (eT (cR (oY E (yMI E) (oY E (aL E E) (oY E (yAI E) (oN ?_))))))))
           obtain rfl:=sI h
           exact eN ⟨_,E,(kp4 (kp4 (kp (kp E))))⟩
         ·refine cF (vB a) (aD (ai ?_))
          obtain rfl:=sI h
          exact av ⟨E,_,E,(kp4 (kp4 (kp (kp E))))⟩
        ·intro e L tm hJ
         rcases r0 with rd|ri
         ·dsimp only at h hJ
          obtain⟨rfl,ft,rfl,rfl⟩:=hJ
          refine⟨(by intro hc;cases hc),?_⟩
          refine ae (ae (ab (aQ 1 ?_)))
          obtain rfl:=sI h
          exact av ⟨E,_,E,(kp (kp (kp E)))⟩
         ·dsimp only at h hJ
          obtain⟨rfl,g1,rfl,rfl⟩:=hJ
          refine⟨(by intro hc;cases hc),?_⟩
          refine ac (aw (eT (cR (oY E (yMI E) (oY E (aL E E) (oY E (yAI E) (oN (aQ 1 ?_))))))))
          obtain rfl:=sI h
          exact eN ⟨_,E,(kp (kp (kp E)))⟩
      ·rcases ar ((!X)||(!Z))with D|D
       ·refine oSk (sF E E E E D) (oSk (sF E E E E D) (oY E (ad (vB D) E) ?_))
        exact key _ _ (keep (keep (keep (keep (keep (keep (keep (keep (keep E E) E) E) E) E) E) E) E) (vB (iQ D)))
       ·refine oY (sT E E E E D) (yMB E) (oY (sT E E E E D) (bD E) (oY E (ag (vB D) E) ?_))
        exact key _ _ (keep (keep (keep (keep (keep (keep (keep (keep (keep E E) E) E) E) E) E) E) E) (vB (iR D)))
     ·rcases ar (!X)with F|F
      ·refine oSk (sF E E E E F) (oSk (sF E E E E F) (oY E (ad (vB F) E) ?_))
       exact key _ _ (keep (keep (keep (keep (keep (keep (keep (keep (keep E E) E) E) E) E) E) E) E) (vB (iQ F)))
      ·refine oY (sT E E E E F) (yMB E) (oY (sT E E E E F) (bD E) (oY E (ag (vB F) E) ?_))
       exact key _ _ (keep (keep (keep (keep (keep (keep (keep (keep (keep E E) E) E) E) E) E) E) E) (vB (iR F)))
    ·refine cF (vB f3) (aD (ai ?_))
     obtain rfl:=sI h
     exact av ⟨E,_,E,(kp (kp (kp E)))⟩
   ·intro e L tm hJ
    rcases u6 with r1|rj
    ·dsimp only at h hJ
     obtain⟨rfl,g2,rfl,rfl⟩:=hJ
     refine⟨(by intro hc;cases hc),?_⟩
     refine ae (ab ?_)
     obtain rfl:=sI h
     exact am (.inl E) E (rVt (v:=vI r1.1) E) (fun W2 d=>⟨E,d.none⟩)
    ·dsimp only at h hJ
     obtain⟨rfl,g3,rfl,rfl⟩:=hJ
     refine⟨(by intro hc;cases hc),?_⟩
     refine ac (eT (cS (cS (cR (oY E (yAI E) (oN (eT (cB ?_))))))))
     obtain⟨r2,g4,h⟩:=bOs h
     refine a8 (fun(s:(Int × Int)) L tm=>∃(g:Nat→Value),L=[ak V 53 [.slice Aa p0.fB.length ca,.slice Ab p0.fR.length cb]]∧tm=(upd (upd (upd g 1 (.pointer (some ⟨V,0,none⟩))) 2 (vI s.1)) 9 (vI s.2))) 4 g4 ⟨_,E,(kp (kp (kp E)))⟩ ?_ ?_
     ·rintro f L tm st ⟨gf,rfl,rfl⟩ h
      unfold jJ at h
      refine cS (cS (cR (oY E (yMI E) (oY E (yFA cw E) (oY E (yL 0 iG E E E) (oY E (bi (us:=[]) mi E) (oY E (be E E) (oN (eT ?_)))))))))
      rcases iOs h with⟨i,h⟩|⟨i,h⟩
      ·refine cT (vB i) (cK (eT (cS (cB (cS (cR (oY E (yFA cw E) (oY E (yL 0 iG E E E) (oY E (yMI E) ?_)))))))))
       obtain⟨R,h⟩:=gOs h
       refine oY E (yI lC (by decide) R.1 R.2 (RdL.arg U) (eL ax E) E E) ?_
       refine oY E (yM (A:=Ab) (j:=(Int.toNat f.2*5)) [vI ((rdL p0.fR f.2).fID),vI ((rdL p0.fR f.2).fH.fLo),vI ((rdL p0.fR f.2).fH.fHi),vI ((rdL p0.fR f.2).fD),vI ((rdL p0.fR f.2).fW)] rC (Nat.succ_pos _) (RdL.arg U) E (bc ax R.1 (ah R.2 E))) ?_
       refine aF pY E (fun T=>?_)
       refine cy E (yS 1 [vI ((rdL p0.fR f.2).fID),vI ((rdL p0.fR f.2).fH.fLo),vI ((rdL p0.fR f.2).fH.fHi),vI ((rdL p0.fR f.2).fD),vI ((rdL p0.fR f.2).fW)] sz_65 E (nB E) E E E) (oN (eT (cS (cR (oY E (yFA k7 E) (oY E (yL 1 aK E E E) ?_))))))
       obtain⟨r,go,h⟩:=bOs h
       refine oY E (yC [vI ((rdL p0.fR f.2).fID),vI 1,vI 1099511627776] gE E (fun W2 d=>aT ((rdL p0.fR f.2).fID) 1 1099511627776 r go W2 ) E) (oY E (yAB E) (oN (eT (cS (cR (oY E (yFA iJ E) (oY E (yFA gK E) (oY E (yL 1 aK E E E) ?_))))))))
       obtain⟨u,o0,h⟩:=bOs h
       refine oY E (yC [vI ((rdL p0.fR f.2).fH.fLo)] rA E (fun W2 d=>dt ((rdL p0.fR f.2).fH.fLo) u o0 W2 ) E) (oY E (yAB E) (oN (eT (cS (cR (oY E (yFA iJ E) (oY E (yFA fg E) (oY E (yL 1 aK E E E) ?_))))))))
       obtain⟨w,o1,h⟩:=bOs h
       refine oY E (yC [vI ((rdL p0.fR f.2).fH.fHi)] rA E (fun W2 d=>dt ((rdL p0.fR f.2).fH.fHi) w o1 W2 ) E) (oY E (yAB E) (oN (eT (cS (cR (oY E (yFA qL E) (oY E (yL 1 aK E E E) ?_)))))))
       obtain⟨O,o2,h⟩:=bOs h
       refine oY E (yC [vI ((rdL p0.fR f.2).fD),vI 0,vI 9] gE E (fun W2 d=>aT ((rdL p0.fR f.2).fD) 0 9 O o2 W2 ) E) (oY E (yAB E) (oN (eT (cS (cR (oY E (yFA jT E) (oY E (yL 1 aK E E E) ?_)))))))
       obtain⟨Y,oX,h⟩:=bOs h
       refine oY E (yC [vI ((rdL p0.fR f.2).fW),vI 1,vI 1000] gE E (fun W2 d=>aT ((rdL p0.fR f.2).fW) 1 1000 Y oX W2 ) E) (oY E (yAB E) (oN (eT (cS (cS (cR (oY E (yMB E) (oY E (bD E) (oY E (yMB E) ?_)))))))))
       refine oJ 3 (fun g=>(upd (upd (upd (upd (upd (upd (upd (upd (upd (upd (upd g 1 (.pointer (some ⟨V,0,none⟩))) 2 (vI f.1)) 9 (vI f.2)) 76 (.bool (decide (f.2<(p0.fR.length:Int))))) 10 (.pointer (some ⟨T,0,none⟩))) 11 (.bool r)) 12 (.bool u)) 13 (.bool w)) 14 (.bool O)) 15 (.bool Y)) 106 (.bool ((!r)||(!u))))) (fun g=>?_) (fun key=>?_)
       ·refine oY E (yMB E) ?_
        refine oJ 3 (fun g=>(upd (upd (upd (upd (upd (upd (upd (upd (upd (upd (upd g 1 (.pointer (some ⟨V,0,none⟩))) 2 (vI f.1)) 9 (vI f.2)) 76 (.bool (decide (f.2<(p0.fR.length:Int))))) 10 (.pointer (some ⟨T,0,none⟩))) 11 (.bool r)) 12 (.bool u)) 13 (.bool w)) 14 (.bool O)) 15 (.bool Y)) 110 (.bool (((!r)||(!u))||(!w))))) (fun g=>?_) (fun key=>?_)
        ·refine oY E (yMB E) ?_
         refine oJ 8 (fun g=>(upd (upd (upd (upd (upd (upd (upd (upd (upd (upd (upd g 1 (.pointer (some ⟨V,0,none⟩))) 2 (vI f.1)) 9 (vI f.2)) 76 (.bool (decide (f.2<(p0.fR.length:Int))))) 10 (.pointer (some ⟨T,0,none⟩))) 11 (.bool r)) 12 (.bool u)) 13 (.bool w)) 14 (.bool O)) 15 (.bool Y)) 119 (.bool ((((!r)||(!u))||(!w))||(decide ((rdL p0.fR f.2).fH.fHi<(rdL p0.fR f.2).fH.fLo)))))) (fun g=>?_) (fun key=>?_)
         ·refine oY E (yMB E) ?_
          refine oJ 3 (fun g=>(upd (upd (upd (upd (upd (upd (upd (upd (upd (upd (upd g 1 (.pointer (some ⟨V,0,none⟩))) 2 (vI f.1)) 9 (vI f.2)) 76 (.bool (decide (f.2<(p0.fR.length:Int))))) 10 (.pointer (some ⟨T,0,none⟩))) 11 (.bool r)) 12 (.bool u)) 13 (.bool w)) 14 (.bool O)) 15 (.bool Y)) 123 (.bool (((((!r)||(!u))||(!w))||(decide ((rdL p0.fR f.2).fH.fHi<(rdL p0.fR f.2).fH.fLo)))||(!O))))) (fun g=>?_) (fun key=>?_)
          ·refine oY E (yMB E) ?_
           refine oJ 3 (fun g=>(upd (upd (upd (upd (upd (upd (upd (upd (upd (upd (upd g 1 (.pointer (some ⟨V,0,none⟩))) 2 (vI f.1)) 9 (vI f.2)) 76 (.bool (decide (f.2<(p0.fR.length:Int))))) 10 (.pointer (some ⟨T,0,none⟩))) 11 (.bool r)) 12 (.bool u)) 13 (.bool w)) 14 (.bool O)) 15 (.bool Y)) 127 (.bool ((((((!r)||(!u))||(!w))||(decide ((rdL p0.fR f.2).fH.fHi<(rdL p0.fR f.2).fH.fLo)))||(!O))||(!Y))))) (fun g=>?_) (fun key=>?_)
           ·refine oN (eT ?_)
            rcases iOs h with⟨k,h⟩|⟨k,h⟩
            ·refine cT (vB k) (cS (cR (oY E (yAI E) (oN (eT (ap (ab (ae (ab (aQ 1 ?_))))))))))
             obtain rfl:=sI h
             exact av ⟨E,_,E,(kp (kp (kp E)))⟩
            ·refine cF (vB k) (cK (eT (cS (cR (oY E (yAI E) (oN (eT (cB ?_))))))))
             obtain⟨r3,oq,h⟩:=bOs h
             refine a8 (fun(s:(Int × Int)) L tm=>∃(g:Nat→Value),L=[ak V 53 [.slice Aa p0.fB.length ca,.slice Ab p0.fR.length cb],ak T 65 [vI ((rdL p0.fR f.2).fID),vI ((rdL p0.fR f.2).fH.fLo),vI ((rdL p0.fR f.2).fH.fHi),vI ((rdL p0.fR f.2).fD),vI ((rdL p0.fR f.2).fW)]]∧tm=(upd (upd (upd (upd (upd (upd (upd (upd (upd (upd (upd (upd g 1 (.pointer (some ⟨V,0,none⟩))) 2 (vI s.1)) 9 (vI f.2)) 76 (.bool (decide (f.2<(p0.fR.length:Int))))) 10 (.pointer (some ⟨T,0,none⟩))) 11 (.bool r)) 12 (.bool u)) 13 (.bool w)) 14 (.bool O)) 15 (.bool Y)) 127 (.bool ((((((!r)||(!u))||(!w))||(decide ((rdL p0.fR f.2).fH.fHi<(rdL p0.fR f.2).fH.fLo)))||(!O))||(!Y)))) 16 (vI s.2))) 6 oq ⟨_,E,(kp4 (kp4 (kp4 E)))⟩ ?_ ?_
             ·rintro fd L tm st ⟨op,rfl,rfl⟩ h
              unfold jO at h
              refine cS (cS (cR (oY E (yMI E) (oY E (yMI E) (oY E (be E E) (oN (eT ?_)))))))
              rcases iOs h with⟨x,h⟩|⟨x,h⟩
              ·refine cT (vB x) (cK (eT (cS (cB (cS ?_)))))
               refine aS 9 bW (by kernel_rfl) (by kernel_rfl) ?_
               refine qY E (yFA cw E) (qY E (yL 0 iG E E E) (qY E (yMI E) ?_))
               obtain⟨q,h⟩:=gOs h
               refine qY E (yI lC (by decide) q.1 q.2 (RdL.arg U) (eL ax E) E E) ?_
               refine qY E (yFR (A:=Ab) (j:=(Int.toNat fd.2*5)) k7 E) (qY E (yR (A:=Ab) (j:=((Int.toNat fd.2*5)+0)) (v:=vI ((rdL p0.fR fd.2).fID)) aK (RdL.arg U) E (eG ax q.1 (ah q.2 E) E)) (qY E (yFA k7 E) (qY E (yL 1 aK E E E) (qY E (cZ E E) (bF (oN (eT ?_)))))))
               rcases iOs h with⟨y,h⟩|⟨y,h⟩
               ·refine cT (vB y) (cS (cR (oY E (yAI E) (oN (eT (ap (ae (ab ?_))))))))
                obtain rfl:=sI h
                exact av ⟨E,_,E,(kp4 (kp4 (kp4 E)))⟩
               ·refine cF (vB y) (cK (aw (eT (cR (oY E (yMI E) (oY E (aL E E) (oY E (yAI E) (oN ?_))))))))
                obtain rfl:=sI h
                exact eN ⟨_,E,(kp4 (kp4 (kp4 E)))⟩
              ·refine cF (vB x) (aD (ai ?_))
               obtain rfl:=sI h
               exact av ⟨E,_,E,(kp4 (kp4 (kp4 E)))⟩
             ·intro e L tm hJ
              rcases r3 with rx|u0
              ·dsimp only at h hJ
               obtain⟨rfl,om,rfl,rfl⟩:=hJ
               refine⟨(by intro hc;cases hc),?_⟩
               refine ae (ae (ab (aQ 1 ?_)))
               obtain rfl:=sI h
               exact av ⟨E,_,E,(kp (kp (kp E)))⟩
              ·dsimp only at h hJ
               obtain⟨rfl,ot,rfl,rfl⟩:=hJ
               refine⟨(by intro hc;cases hc),?_⟩
               refine ac (aw (eT (cR (oY E (yMI E) (oY E (aL E E) (oY E (yAI E) (oN (aQ 1 ?_))))))))
               obtain rfl:=sI h
               exact eN ⟨_,E,(kp (kp (kp E)))⟩
           ·rcases ar (((((!r)||(!u))||(!w))||(decide ((rdL p0.fR f.2).fH.fHi<(rdL p0.fR f.2).fH.fLo)))||(!O))with G|G
            ·refine oSk (sF E E E E G) (oSk (sF E E E E G) (oY E (ad (vB G) E) ?_))
             exact key _ _ (keep (keep (keep (keep (keep (keep (keep (keep (keep (keep (keep E E) E) E) E) E) E) E) E) E) E) (vB (iQ G)))
            ·refine oY (sT E E E E G) (yMB E) (oY (sT E E E E G) (bD E) (oY E (ag (vB G) E) ?_))
             exact key _ _ (keep (keep (keep (keep (keep (keep (keep (keep (keep (keep (keep E E) E) E) E) E) E) E) E) E) E) (vB (iR G)))
          ·rcases ar ((((!r)||(!u))||(!w))||(decide ((rdL p0.fR f.2).fH.fHi<(rdL p0.fR f.2).fH.fLo)))with H|H
           ·refine oSk (sF E E E E H) (oSk (sF E E E E H) (oY E (ad (vB H) E) ?_))
            exact key _ _ (keep (keep (keep (keep (keep (keep (keep (keep (keep (keep (keep E E) E) E) E) E) E) E) E) E) E) (vB (iQ H)))
           ·refine oY (sT E E E E H) (yMB E) (oY (sT E E E E H) (bD E) (oY E (ag (vB H) E) ?_))
            exact key _ _ (keep (keep (keep (keep (keep (keep (keep (keep (keep (keep (keep E E) E) E) E) E) E) E) E) E) E) (vB (iR H)))
         ·rcases ar (((!r)||(!u))||(!w))with o|o
          ·refine oSk (sF E E E E o) (oSk (sF E E E E o) (oSk (sF E E E E o) (oSk (sF E E E E o) (oSk (sF E E E E o) (oSk (sF E E E E o) (oSk (sF E E E E o) (oY E (ad (vB o) E) ?_)))))))
           exact key _ _ (keep (keep (keep (keep (keep (keep (keep (keep (keep (keep (keep E E) E) E) E) E) E) E) E) E) E) (vB (iQ o)))
          ·refine oY (sT E E E E o) (yFA iJ E) (oY (sT E E E E o) (yFA gK E) (oY (sT E E E E o) (yL 1 aK E E E) (oY (sT E E E E o) (yFA iJ E) (oY (sT E E E E o) (yFA fg E) (oY (sT E E E E o) (yL 1 aK E E E) (oY (sT E E E E o) (eu E E) (oY E (ag (vB o) E) ?_)))))))
           exact key _ _ (keep (keep (keep (keep (keep (keep (keep (keep (keep (keep (keep E E) E) E) E) E) E) E) E) E) E) (vB (iR o)))
        ·rcases ar ((!r)||(!u))with I|I
         ·refine oSk (sF E E E E I) (oSk (sF E E E E I) (oY E (ad (vB I) E) ?_))
          exact key _ _ (keep (keep (keep (keep (keep (keep (keep (keep (keep (keep (keep E E) E) E) E) E) E) E) E) E) E) (vB (iQ I)))
         ·refine oY (sT E E E E I) (yMB E) (oY (sT E E E E I) (bD E) (oY E (ag (vB I) E) ?_))
          exact key _ _ (keep (keep (keep (keep (keep (keep (keep (keep (keep (keep (keep E E) E) E) E) E) E) E) E) E) E) (vB (iR I)))
       ·rcases ar (!r)with K|K
        ·refine oSk (sF E E E E K) (oSk (sF E E E E K) (oY E (ad (vB K) E) ?_))
         exact key _ _ (keep (keep (keep (keep (keep (keep (keep (keep (keep (keep (keep E E) E) E) E) E) E) E) E) E) E) (vB (iQ K)))
        ·refine oY (sT E E E E K) (yMB E) (oY (sT E E E E K) (bD E) (oY E (ag (vB K) E) ?_))
         exact key _ _ (keep (keep (keep (keep (keep (keep (keep (keep (keep (keep (keep E E) E) E) E) E) E) E) E) E) E) (vB (iR K)))
      ·refine cF (vB i) (aD (ai ?_))
       obtain rfl:=sI h
       exact av ⟨E,_,E,(kp (kp (kp E)))⟩
     ·intro e L tm hJ
      rcases r2 with r4|u1
      ·dsimp only at h hJ
       obtain⟨rfl,oa,rfl,rfl⟩:=hJ
       refine⟨(by intro hc;cases hc),?_⟩
       refine ae (ab ?_)
       obtain rfl:=sI h
       exact am (.inl E) E (rVt (v:=vI r4.1) E) (fun W2 d=>⟨E,d.none⟩)
      ·dsimp only at h hJ
       obtain⟨rfl,oi,rfl,rfl⟩:=hJ
       refine⟨(by intro hc;cases hc),?_⟩
       refine ac (eT (cS (cR (oY E (yAI E) (oN (eT (ap ?_)))))))
       obtain rfl:=sI h
       exact am (.inl E) E (rVt (v:=vI 0) E) (fun W2 d=>⟨E,d.none⟩)
 ·rcases ar (decide (24<(p0.fB.length:Int)))with M|M
  ·refine oSk (sF E E E E M) (oSk (sF E E E E M) (oSk (sF E E E E M) (oSk (sF E E E E M) (oY E (ad (vB M) E) ?_))))
   exact key _ _ (keep (keep (keep E E) E) (vB (iQ M)))
  ·refine oY (sT E E E E M) (yFA cw E) (oY (sT E E E E M) (yL 0 iG E E E) (oY (sT E E E E M) (bi (us:=[]) mi E) (oY (sT E E E E M) (eu E E) (oY E (ag (vB M) E) ?_))))
   exact key _ _ (keep (keep (keep E E) E) (vB (iR M)))
theorem rB (p0:TY) (p1:Int) (res:Int) (h:pB p0 p1=some res) (W:World) (Aa:Option Addr) (f ca:Nat) (u:f=p0.fB.length) (g:Rd W Aa f ca (encL aH p0.fB)) (Ab:Option Addr) (o cb:Nat) (d:o=p0.fR.length) (K:Rd W Ab o cb (encL aE p0.fR)) :
  Calls Tryz.prog 98 [.agg #[.slice Aa f ca,.slice Ab o cb],vI p1].toArray W fun e W2=>e=.returned (vI res)∧Ext W W2 []:=by
 subst u
 subst d
 unfold pB at h
 refine aj (m:=22) Tryz.func98 E E (nB E) (cS (cR ?_))
 refine aN [.slice Aa p0.fB.length ca,.slice Ab p0.fR.length cb] E E E (fun Q=>?_)
 refine oY E (yAI E) (oN (eT (cS (cS (cR (oY E (yAI E) (oN (eT (cB ?_)))))))))
 obtain⟨U,M,h⟩:=bOs h
 refine a8 (fun(s:(Int × Int)) L tm=>∃(N:Nat→Value),L=[ak Q 53 [.slice Aa p0.fB.length ca,.slice Ab p0.fR.length cb]]∧tm=(upd (upd (upd (upd N 1 (vI p1)) 2 (.pointer (some ⟨Q,0,none⟩))) 4 (vI s.1)) 5 (vI s.2))) 0 M ⟨_,E,(kp4 E)⟩ ?_ ?_
 ·rintro O L tm st ⟨H,rfl,rfl⟩ h
  unfold nM at h
  refine cS (cS (cR (oY E (yMI E) (oY E (yFA fm E) (oY E (yL 0 ly E E E) (oY E (bi (us:=[]) kS E) (oY E (be E E) (oN (eT ?_)))))))))
  rcases iOs h with⟨w,h⟩|⟨w,h⟩
  ·refine cT (vB w) (cK (eT (cS (cB (cS (cR (oY E (yFA fm E) (oY E (yL 0 ly E E E) (oY E (yMI E) ?_)))))))))
   obtain⟨r,h⟩:=gOs h
   refine oY E (yI ni (by decide) r.1 r.2 (RdL.arg g) (eL aO E) E E) ?_
   refine oY E (yFR (A:=Aa) (j:=(Int.toNat O.2*3)) ld E) (oY E (yR (A:=Aa) (j:=((Int.toNat O.2*3)+0)) (v:=vI ((rdL p0.fB O.2).fID)) aK (RdL.arg g) E (eG aO r.1 (ah r.2 E) E)) (oY E (yMI E) (oY E (cZ E E) (oN (eT ?_)))))
   rcases iOs h with⟨D,h⟩|⟨D,h⟩
   ·refine cT (vB D) (cS (cR (oY E (yMI E) (oY E (yAI E) (oN (eT (ap (ae (ab ?_)))))))))
    obtain rfl:=sI h
    exact av ⟨E,_,E,(kp4 E)⟩
   ·refine cF (vB D) (cK (aw (eT (cR (oY E (yMI E) (oY E (aL E E) (oY E (yAI E) (oN ?_))))))))
    obtain rfl:=sI h
    exact eN ⟨_,E,(kp4 E)⟩
  ·refine cF (vB w) (aD (ai ?_))
   obtain rfl:=sI h
   exact av ⟨E,_,E,(kp4 E)⟩
 ·intro e L tm hJ
  rcases U with X|Y
  ·dsimp only at h hJ
   obtain⟨rfl,I,rfl,rfl⟩:=hJ
   refine⟨(by intro hc;cases hc),?_⟩
   refine ae (ab ?_)
   obtain rfl:=sI h
   exact am (.inl E) E (rVt (v:=vI X.1) E) (fun W2 F=>⟨E,F.none⟩)
  ·dsimp only at h hJ
   obtain⟨rfl,G,rfl,rfl⟩:=hJ
   refine⟨(by intro hc;cases hc),?_⟩
   refine ac (eT (cS (cR (oY E (yAI E) (oN (eT (ap ?_)))))))
   obtain rfl:=sI h
   exact am (.inl E) E (rVt (v:=vI (-1)) E) (fun W2 F=>⟨E,F.none⟩)
theorem jQ (p0:TY) (p1:Int) (p2:Int) (res:Bool) (h:jA p0 p1 p2=some res) (W:World) (Aa:Option Addr) (d ca:Nat) (H:d=p0.fB.length) (o:Rd W Aa d ca (encL aH p0.fB)) (Ab:Option Addr) (w cb:Nat) (I:w=p0.fR.length) (g:Rd W Ab w cb (encL aE p0.fR)) :
  Calls Tryz.prog 104 [.agg #[.slice Aa d ca,.slice Ab w cb],vI p1,vI p2].toArray W fun e W2=>e=.returned (.bool res)∧Ext W W2 []:=by
 subst H
 subst I
 unfold jA at h
 refine aj (m:=45) Tryz.func104 E E (nB E) (cS (cR ?_))
 refine aN [.slice Aa p0.fB.length ca,.slice Ab p0.fR.length cb] E E E (fun X=>?_)
 refine oY E (yAB E) (oN (eT (cS ?_)))
 refine aS 22 bW (by kernel_rfl) (by kernel_rfl) ?_
 refine qY E (yFA fm E) (qY E (yL 0 ly E E E) (qY E (yMI E) ?_))
 obtain⟨D,h⟩:=gOs h
 refine qY E (yI ni (by decide) D.1 D.2 (RdL.arg o) (eL aO E) E E) ?_
 refine qY E (yFR (A:=Aa) (j:=(Int.toNat p2*3)) qX E) (qY E (yR (A:=Aa) (j:=((Int.toNat p2*3)+1)) (v:=vI ((rdL p0.fB p2).fHour)) aK (RdL.arg o) E (eG aO D.1 (ah D.2 E) E)) (qY E (yFA cw E) (qY E (yL 0 iG E E E) (qY E (yMI E) ?_))))
 obtain⟨F,h⟩:=gOs h
 refine qY E (yI lC (by decide) F.1 F.2 (RdL.arg g) (eL ax E) E E) ?_
 refine qY E (yFR (A:=Ab) (j:=(Int.toNat p1*5)) iJ E) (qY E (yFR (A:=Ab) (j:=((Int.toNat p1*5)+1)) gK E) (qY E (yR (A:=Ab) (j:=(((Int.toNat p1*5)+1)+0)) (v:=vI ((rdL p0.fR p1).fH.fLo)) aK (RdL.arg g) E (eG (q:=1) ax F.1 (ah F.2 E) E)) (qY E (yFA cw E) (qY E (yL 0 iG E E E) (qY E (yMI E) ?_)))))
 obtain⟨G,h⟩:=gOs h
 refine qY E (yI lC (by decide) G.1 G.2 (RdL.arg g) (eL ax E) E E) ?_
 refine qY E (yFR (A:=Ab) (j:=(Int.toNat p1*5)) iJ E) (qY E (yFR (A:=Ab) (j:=((Int.toNat p1*5)+1)) fg E) (qY E (yR (A:=Ab) (j:=(((Int.toNat p1*5)+1)+1)) (v:=vI ((rdL p0.fR p1).fH.fHi)) aK (RdL.arg g) E (eG (q:=2) ax G.1 (ah G.2 E) E)) ?_))
 obtain⟨U,N,h⟩:=bOs h
 refine qY E (yC [vI ((rdL p0.fB p2).fHour),vI ((rdL p0.fR p1).fH.fLo),vI ((rdL p0.fR p1).fH.fHi)] gE E (fun W2 K=>aT ((rdL p0.fB p2).fHour) ((rdL p0.fR p1).fH.fLo) ((rdL p0.fR p1).fH.fHi) U N W2 ) E) (qY E (yAB E) (bF (oN (eT (cS ?_)))))
 refine aS 17 bW (by kernel_rfl) (by kernel_rfl) ?_
 refine qY E (yMB E) (qY E (yMB E) ?_)
 obtain⟨Q,O,h⟩:=bOs h
 refine qJ 14 (fun M=>(upd (upd M 6 (.bool false)) 44 (.bool Q))) (fun M=>?_) (fun key=>?_)
 ·refine qY E (yAB E) (bF (oN (eT (ap ?_))))
  obtain rfl:=sI h
  exact am (.inl E) E (rVt (v:=.bool Q) E) (fun W2 K=>⟨E,K.none⟩)
 ·clear h;rcases iOs O with⟨f,h⟩|⟨f,h⟩
  ·refine qY (sT E E E E f) (yFA fm E) (qY (sT E E E E f) (yL 0 ly E E E) (qY (sT E E E E f) (yMI E) ?_))
   obtain⟨r,h⟩:=gOs h
   refine qY (sT E E E E f) (yI ni (by decide) r.1 r.2 (RdL.arg o) (eL aO E) E E) ?_
   refine qY (sT E E E E f) (yFR (A:=Aa) (j:=(Int.toNat p2*3)) qT E) (qY (sT E E E E f) (yR (A:=Aa) (j:=((Int.toNat p2*3)+2)) (v:=vI ((rdL p0.fB p2).fD)) aK (RdL.arg o) E (eG aO r.1 (ah r.2 E) E)) (qY (sT E E E E f) (yFA cw E) (qY (sT E E E E f) (yL 0 iG E E E) (qY (sT E E E E f) (yMI E) ?_))))
   obtain⟨u,h⟩:=gOs h
   refine qY (sT E E E E f) (yI lC (by decide) u.1 u.2 (RdL.arg g) (eL ax E) E E) ?_
   refine qY (sT E E E E f) (yFR (A:=Ab) (j:=(Int.toNat p1*5)) qL E) (qY (sT E E E E f) (yR (A:=Ab) (j:=((Int.toNat p1*5)+3)) (v:=vI ((rdL p0.fR p1).fD)) aK (RdL.arg g) E (eG ax u.1 (ah u.2 E) E)) (qY (sT E E E E f) (lu E E) (qY E (ad (vB f) E) ?_)))
   obtain rfl:=sI h
   exact key _ _ (kp (kp E))
  ·refine aa (sF E E E E f) (aa (sF E E E E f) (aa (sF E E E E f) (aa (sF E E E E f) (aa (sF E E E E f) (aa (sF E E E E f) (aa (sF E E E E f) (aa (sF E E E E f) (aa (sF E E E E f) (aa (sF E E E E f) (aa (sF E E E E f) (aa (sF E E E E f) (aa (sF E E E E f) (qY E (ag (vB f) E) ?_)))))))))))))
   obtain rfl:=sI h
   exact key _ _ (kp (kp E))
theorem qy (p0:TY) (p1:(List Int)) (p2:Int) (res:Bool) (h:nj p0 p1 p2=some res) (W:World) (Aa:Option Addr) (D ca:Nat) (X:D=p0.fB.length) (F:Rd W Aa D ca (encL aH p0.fB)) (Ab:Option Addr) (G cb:Nat) (Y:G=p0.fR.length) (o:Rd W Ab G cb (encL aE p0.fR)) (Ac:Option Addr) (H cc:Nat) (Z:H=p1.length) (f:Rd W Ac H cc (encL cI p1)) :
  Calls Tryz.prog 105 [.agg #[.slice Aa D ca,.slice Ab G cb],.slice Ac H cc,vI p2].toArray W fun e W2=>e=.returned (.bool res)∧Ext W W2 []:=by
 subst X
 subst Y
 subst Z
 unfold nj at h
 refine aj (m:=68) Tryz.func105 E E (nB E) (cS (cR ?_))
 refine aN [.slice Aa p0.fB.length ca,.slice Ab p0.fR.length cb] E E E (fun b=>?_)
 refine oY E (yAB E) (oN (eT (cS (cS (cR (oY E (yMS E) (oY E (bi (us:=[]) cQ E) (oY E (yFA cw E) (oY E (yL 0 iG E E E) (oY E (bi (us:=[]) mi E) (oY E (cJ E E) (oN (eT ?_)))))))))))))
 rcases iOs h with⟨V,h⟩|⟨V,h⟩
 ·refine cT (vB V) (cS (cR (oY E (yAB E) (oN (eT (ap (ab ?_)))))))
  obtain rfl:=sI h
  exact am (.inl E) E (rVt (v:=.bool false) E) (fun W2 g=>⟨E,g.none⟩)
 ·refine cF (vB V) (cK (eT (cS (cR (oY E (yAI E) (oN (eT (cS (cS (cR (oY E (yAI E) (oN (eT (cB ?_))))))))))))))
  obtain⟨u5,p,h⟩:=bOs h
  refine a8 (fun(s:(Bool × Int × Int)) L tm=>∃(T:Nat→Value),L=[ak b 53 [.slice Aa p0.fB.length ca,.slice Ab p0.fR.length cb]]∧tm=(upd (upd (upd (upd (upd (upd T 1 (.slice Ac p1.length cc)) 2 (vI p2)) 3 (.pointer (some ⟨b,0,none⟩))) 6 (.bool s.1)) 7 (vI s.2.1)) 8 (vI s.2.2))) 0 p ⟨_,E,(kp4 (kp (kp E)))⟩ ?_ ?_
  ·rintro r L tm st ⟨c,rfl,rfl⟩ h
   unfold mZ at h
   refine cS (cS (cR (oY E (yMI E) (oY E (yMS E) (oY E (bi (us:=[]) cQ E) (oY E (be E E) (oN (eT ?_))))))))
   rcases iOs h with⟨S,h⟩|⟨S,h⟩
   ·refine cT (vB S) (cK (eT (cS (cB (cS (cS (cR (oY E (yMS E) (oY E (yMI E) ?_)))))))))
    obtain⟨Q,h⟩:=gOs h
    refine oY E (yI bS (by decide) Q.1 Q.2 (RdL.arg f) (eL aB E) E E) ?_
    refine oY E (yR (A:=Ac) (j:=(Int.toNat r.2.2*1)) (v:=vI (rdL p1 r.2.2)) aK (RdL.arg f) E (ay aB Q.1 (ah Q.2 E) E)) (oY E (cZ E E) (oN (eT ?_)))
    rcases iOs h with⟨R,h⟩|⟨R,h⟩
    ·refine cT (vB R) (aD (ai (ac (eT (cR (oY E (yMI E) (oY E (aL E E) (oY E (yAI E) (oN ?_)))))))))
     obtain rfl:=sI h
     exact eN ⟨_,E,(kp4 (kp (kp E)))⟩
    ·refine cF (vB R) (cK (eT (cS ?_)))
     refine aS 7 bW (by kernel_rfl) (by kernel_rfl) ?_
     refine qY E (yN 0 [.slice Aa p0.fB.length ca,.slice Ab p0.fR.length cb] dF E E E) (qY E (yMS E) (qY E (yMI E) ?_))
     obtain⟨U,h⟩:=gOs h
     refine qY E (yI bS (by decide) U.1 U.2 (RdL.arg f) (eL aB E) E E) ?_
     refine qY E (yR (A:=Ac) (j:=(Int.toNat r.2.2*1)) (v:=vI (rdL p1 r.2.2)) aK (RdL.arg f) E (ay aB U.1 (ah U.2 E) E)) ?_
     obtain⟨I,n,h⟩:=bOs h
     refine qY E (yC [.agg #[.slice Aa p0.fB.length ca,.slice Ab p0.fR.length cb],vI (rdL p1 r.2.2)] go_98 E (fun W2 g=>rB p0 (rdL p1 r.2.2) I n W2 Aa p0.fB.length ca E ((RdL.arg F) W2 g) Ab p0.fR.length cb E ((RdL.arg o) W2 g)) E) (qY E (yAI E) (bF (oN (eT (cS (cS (cR (oY E (yMI E) (oY E (be E E) (oN (eT ?_)))))))))))
     rcases iOs h with⟨K,h⟩|⟨K,h⟩
     ·refine cT (vB K) (cS (cR (oY E (yAB E) (oN (eT (ap (ab (ae (ab ?_)))))))))
      obtain rfl:=sI h
      exact av ⟨E,_,E,(kp4 (kp (kp E)))⟩
     ·refine cF (vB K) (cK (eT (cS (cR (oY E (yN 0 [.slice Aa p0.fB.length ca,.slice Ab p0.fR.length cb] dF E E E) (oY E (yMI E) (oY E (yMI E) ?_)))))))
      obtain⟨q,l,h⟩:=bOs h
      refine oY E (yC [.agg #[.slice Aa p0.fB.length ca,.slice Ab p0.fR.length cb],vI r.2.2,vI I] go_104 E (fun W2 g=>jQ p0 r.2.2 I q l W2 Aa p0.fB.length ca E ((RdL.arg F) W2 g) Ab p0.fR.length cb E ((RdL.arg o) W2 g)) E) (oY E (yAB E) (oN (eT (cS (cS (cR (oY E (yMB E) (oY E (bD E) (oN (eT ?_))))))))))
      rcases iOs h with⟨M,h⟩|⟨M,h⟩
      ·refine cT (vB M) (cS (cR (oY E (yAB E) (oN (eT (ap (ab (ae (ab ?_)))))))))
       obtain rfl:=sI h
       exact av ⟨E,_,E,(kp4 (kp (kp E)))⟩
      ·refine cF (vB M) (cK (eT (cS (cS (cR (oY E (yAI E) (oN (eT (cB ?_)))))))))
       obtain⟨f1,t,h⟩:=bOs h
       refine a8 (fun(s:(Bool × Int)) L tm=>∃(T:Nat→Value),L=[ak b 53 [.slice Aa p0.fB.length ca,.slice Ab p0.fR.length cb]]∧tm=(upd (upd (upd (upd (upd (upd (upd (upd (upd (upd (upd (upd (upd T 1 (.slice Ac p1.length cc)) 2 (vI p2)) 3 (.pointer (some ⟨b,0,none⟩))) 6 (.bool s.1)) 7 (vI r.2.1)) 8 (vI r.2.2)) 21 (.bool (decide (r.2.2<(p1.length:Int))))) 28 (.bool ((rdL p1 r.2.2)==0))) 9 (vI I)) 36 (.bool (decide (I<0)))) 10 (.bool q)) 42 (.bool (!q))) 11 (vI s.2))) 2 t ⟨_,E,(kp4 (kp4 (kp4 (kp E))))⟩ ?_ ?_
       ·rintro a L tm st ⟨z,rfl,rfl⟩ h
        unfold mK at h
        refine cS (cS (cR (oY E (yMI E) (oY E (yMI E) (oY E (be E E) (oN (eT ?_)))))))
        rcases iOs h with⟨N,h⟩|⟨N,h⟩
        ·refine cT (vB N) (cK (eT (cS (cB (cS ?_)))))
         refine aS 9 bW (by kernel_rfl) (by kernel_rfl) ?_
         refine qY E (yMS E) (qY E (yMI E) ?_)
         obtain⟨u,h⟩:=gOs h
         refine qY E (yI bS (by decide) u.1 u.2 (RdL.arg f) (eL aB E) E E) ?_
         refine qY E (yR (A:=Ac) (j:=(Int.toNat a.2*1)) (v:=vI (rdL p1 a.2)) aK (RdL.arg f) E (ay aB u.1 (ah u.2 E) E)) (qY E (yMS E) (qY E (yMI E) ?_))
         obtain⟨d,h⟩:=gOs h
         refine qY E (yI bS (by decide) d.1 d.2 (RdL.arg f) (eL aB E) E E) ?_
         refine qY E (yR (A:=Ac) (j:=(Int.toNat r.2.2*1)) (v:=vI (rdL p1 r.2.2)) aK (RdL.arg f) E (ay aB d.1 (ah d.2 E) E)) (qY E (cZ E E) (bF (oN (eT ?_))))
         rcases iOs h with⟨O,h⟩|⟨O,h⟩
         ·refine cT (vB O) (cS (cR (oY E (yAB E) (oN (eT (ap (ae (ab ?_))))))))
          obtain rfl:=sI h
          exact av ⟨E,_,E,(kp4 (kp4 (kp4 (kp E))))⟩
         ·refine cF (vB O) (cK (aw (eT (cR (oY E (yMI E) (oY E (aL E E) (oY E (yAI E) (oN ?_))))))))
          obtain rfl:=sI h
          exact eN ⟨_,E,(kp4 (kp4 (kp4 (kp E))))⟩
        ·refine cF (vB N) (aD (ai ?_))
         obtain rfl:=sI h
         exact av ⟨E,_,E,(kp4 (kp4 (kp4 (kp E))))⟩
       ·intro e L tm hJ
        rcases f1 with fd|fD
        ·dsimp only at h hJ
         obtain⟨rfl,i,rfl,rfl⟩:=hJ
         refine⟨(by intro hc;cases hc),?_⟩
         refine ae (ab (ae (ab ?_)))
         obtain rfl:=sI h
         exact av ⟨E,_,E,(kp4 (kp (kp E)))⟩
        ·dsimp only at h hJ
         obtain⟨rfl,k,rfl,rfl⟩:=hJ
         refine⟨(by intro hc;cases hc),?_⟩
         refine ac (eT (cR (oY E (yMI E) (oY E (yFA cw E) (oY E (yL 0 iG E E E) (oY E (yMI E) ?_))))))
         obtain⟨w,h⟩:=gOs h
         refine oY E (yI lC (by decide) w.1 w.2 (RdL.arg o) (eL ax E) E E) ?_
         refine oY E (yFR (A:=Ab) (j:=(Int.toNat r.2.2*5)) jT E) (oY E (yR (A:=Ab) (j:=((Int.toNat r.2.2*5)+4)) (v:=vI ((rdL p0.fR r.2.2).fW)) aK (RdL.arg o) E (eG ax w.1 (ah w.2 E) E)) (oY E (aL E E) (oY E (yAI E) (oN (aw (eT (cR (oY E (yMI E) (oY E (aL E E) (oY E (yAI E) (oN ?_)))))))))))
         obtain rfl:=sI h
         exact eN ⟨_,E,(kp4 (kp (kp E)))⟩
   ·refine cF (vB S) (aD (ai ?_))
    obtain rfl:=sI h
    exact av ⟨E,_,E,(kp4 (kp (kp E)))⟩
  ·intro e L tm hJ
   rcases u5 with f2|f3
   ·dsimp only at h hJ
    obtain⟨rfl,x,rfl,rfl⟩:=hJ
    refine⟨(by intro hc;cases hc),?_⟩
    refine ae (ab ?_)
    obtain rfl:=sI h
    exact am (.inl E) E (rVt (v:=.bool f2.1) E) (fun W2 g=>⟨E,g.none⟩)
   ·dsimp only at h hJ
    obtain⟨rfl,y,rfl,rfl⟩:=hJ
    refine⟨(by intro hc;cases hc),?_⟩
    refine ac (eT (cS (cR (oY E (yMI E) (oY E (yMI E) (oY E (cZ E E) (oY E (yAB E) (oN (eT (ap ?_))))))))))
    obtain rfl:=sI h
    exact am (.inl E) E (rVt (v:=.bool (f3.2.1==p2)) E) (fun W2 g=>⟨E,g.none⟩)
end Go.Proofs.YthndghnkebboaaaGreat
set_option maxHeartbeats 4000000
set_option maxRecDepth 100000
namespace Go.Proofs.YthndghnkebboaaaGreat
open Go.RowKit (Below)
attribute [local irreducible] OX QX CX EX OpY Calls CallsIn
theorem o8 (p0:TY) (p1:(List Int)) (res:Int) (h:lg p0 p1=some res) (W:World) (Aa:Option Addr) (I ca:Nat) (p:I=p0.fB.length) (K:Rd W Aa I ca (encL aH p0.fB)) (Ab:Option Addr) (M cb:Nat) (n:M=p0.fR.length) (g:Rd W Ab M cb (encL aE p0.fR)) (Ac:Option Addr) (N cc:Nat) (l:N=p1.length) (o:Rd W Ac N cc (encL cI p1)) :
  Calls Tryz.prog 106 [.agg #[.slice Aa I ca,.slice Ab M cb],.slice Ac N cc].toArray W fun e W2=>e=.returned (vI res)∧Ext W W2 []:=by
 subst p
 subst n
 subst l
 unfold lg at h
 refine aj (m:=96) Tryz.func106 E E (nB E) (cS (cR ?_))
 refine aN [.slice Aa p0.fB.length ca,.slice Ab p0.fR.length cb] E E E (fun V=>?_)
 refine oY E (yAI E) (oN (eT (cS (cS (cR (oY E (yMS E) (oY E (bi (us:=[]) cQ E) (oY E (yFA fm E) (oY E (yL 0 ly E E E) (oY E (bi (us:=[]) kS E) (oY E (cJ E E) (oN (eT ?_)))))))))))))
 rcases iOs h with⟨t,h⟩|⟨t,h⟩
 ·refine cT (vB t) (cS (cR (oY E (yAI E) (oN (eT (ap (ab ?_)))))))
  obtain rfl:=sI h
  exact am (.inl E) E (rVt (v:=vI (-1)) E) (fun W2 r=>⟨E,r.none⟩)
 ·refine cF (vB t) (cK (eT (cS (cR (oY E (yAI E) (oN (eT (cS (cS (cR (oY E (yAI E) (oN (eT (cB ?_))))))))))))))
  obtain⟨u5,k,h⟩:=bOs h
  refine a8 (fun(s:(Int × Int × Int)) L tm=>∃(d:Nat→Value),L=[ak V 53 [.slice Aa p0.fB.length ca,.slice Ab p0.fR.length cb]]∧tm=(upd (upd (upd (upd (upd d 1 (.slice Ac p1.length cc)) 2 (.pointer (some ⟨V,0,none⟩))) 4 (vI s.1)) 5 (vI s.2.1)) 6 (vI s.2.2))) 0 k ⟨_,E,(kp4 (kp E))⟩ ?_ ?_
  ·rintro i L tm st ⟨fK,rfl,rfl⟩ h
   unfold kY at h
   refine cS (cS (cR (oY E (yMI E) (oY E (yMS E) (oY E (bi (us:=[]) cQ E) (oY E (be E E) (oN (eT ?_))))))))
   rcases iOs h with⟨a,h⟩|⟨a,h⟩
   ·refine cT (vB a) (cK (eT (cS (cB (cS (cR (oY E (yMS E) (oY E (yMI E) ?_))))))))
    obtain⟨T,h⟩:=gOs h
    refine oY E (yI bS (by decide) T.1 T.2 (RdL.arg o) (eL aB E) E E) ?_
    refine oY E (yR (A:=Ac) (j:=(Int.toNat i.2.2*1)) (v:=vI (rdL p1 i.2.2)) aK (RdL.arg o) E (ay aB T.1 (ah T.2 E) E)) ?_
    obtain⟨y8,fT,h⟩:=bOs h
    refine oY E (yC [vI (rdL p1 i.2.2),vI 0,vI 1000] gE E (fun W2 r=>aT (rdL p1 i.2.2) 0 1000 y8 fT W2 ) E) (oY E (yAB E) (oN (eT (cS (cS (cR (oY E (yMB E) (oY E (bD E) (oN (eT ?_))))))))))
    rcases iOs h with⟨O,h⟩|⟨O,h⟩
    ·refine cT (vB O) (cS (cR (oY E (yAI E) (oN (eT (ap (ab (ae (ab ?_)))))))))
     obtain rfl:=sI h
     exact av ⟨E,_,E,(kp4 (kp E))⟩
    ·refine cF (vB O) (cK (eT (cR (oY E (yMI E) (oY E (yMS E) (oY E (yMI E) ?_))))))
     obtain⟨D,h⟩:=gOs h
     refine oY E (yI bS (by decide) D.1 D.2 (RdL.arg o) (eL aB E) E E) ?_
     refine oY E (yR (A:=Ac) (j:=(Int.toNat i.2.2*1)) (v:=vI (rdL p1 i.2.2)) aK (RdL.arg o) E (ay aB D.1 (ah D.2 E) E)) (oY E (aL E E) (oY E (yAI E) (oN (aw (eT (cR (oY E (yMI E) (oY E (aL E E) (oY E (yAI E) (oN ?_))))))))))
     obtain rfl:=sI h
     exact eN ⟨_,E,(kp4 (kp E))⟩
   ·refine cF (vB a) (aD (ai ?_))
    obtain rfl:=sI h
    exact av ⟨E,_,E,(kp4 (kp E))⟩
  ·intro e L tm hJ
   rcases u5 with fn|S
   ·dsimp only at h hJ
    obtain⟨rfl,x,rfl,rfl⟩:=hJ
    refine⟨(by intro hc;cases hc),?_⟩
    refine ae (ab ?_)
    obtain rfl:=sI h
    exact am (.inl E) E (rVt (v:=vI fn.1) E) (fun W2 r=>⟨E,r.none⟩)
   ·dsimp only at h hJ
    obtain⟨rfl,y,rfl,rfl⟩:=hJ
    refine⟨(by intro hc;cases hc),?_⟩
    refine ac (eT (cS (cS (cR (oY E (yAI E) (oN (eT (cB ?_))))))))
    obtain⟨fl,b,h⟩:=bOs h
    refine bj (fun(s:(Int × Int)) L tm=>∃(d:Nat→Value),L=[ak V 53 [.slice Aa p0.fB.length ca,.slice Ab p0.fR.length cb]]∧tm=(upd (upd (upd (upd (upd d 1 (.slice Ac p1.length cc)) 2 (.pointer (some ⟨V,0,none⟩))) 4 (vI S.1)) 5 (vI s.1)) 8 (vI s.2))) 2 b ⟨_,E,(kp4 (kp E))⟩ ?_ ?_
    ·rintro f L tm st ⟨c,rfl,rfl⟩ h
     unfold ll at h
     refine cS (cS (cR (oY E (yMI E) (oY E (yFA cw E) (oY E (yL 0 iG E E E) (oY E (bi (us:=[]) mi E) (oY E (be E E) (oN (eT ?_)))))))))
     rcases iOs h with⟨Q,h⟩|⟨Q,h⟩
     ·refine cT (vB Q) (cK (eT (cS (cB (cS (cR (oY E (yFA cw E) (oY E (yL 0 iG E E E) (oY E (yMI E) ?_)))))))))
      obtain⟨F,h⟩:=gOs h
      refine oY E (yI lC (by decide) F.1 F.2 (RdL.arg g) (eL ax E) E E) ?_
      refine oY E (yFR (A:=Ab) (j:=(Int.toNat f.2*5)) jT E) (oY E (yR (A:=Ab) (j:=((Int.toNat f.2*5)+4)) (v:=vI ((rdL p0.fR f.2).fW)) aK (RdL.arg g) E (eG ax F.1 (ah F.2 E) E)) (oY E (yAI E) (oN (eT (cS (cS (cR (oY E (yAI E) (oN (eT (cB ?_)))))))))))
      obtain⟨R,f1,h⟩:=bOs h
      refine bj (fun(s:(Int × Int)) L tm=>∃(d:Nat→Value),L=[ak V 53 [.slice Aa p0.fB.length ca,.slice Ab p0.fR.length cb]]∧tm=(upd (upd (upd (upd (upd (upd (upd (upd d 1 (.slice Ac p1.length cc)) 2 (.pointer (some ⟨V,0,none⟩))) 4 (vI S.1)) 5 (vI f.1)) 8 (vI f.2)) 44 (.bool (decide (f.2<(p0.fR.length:Int))))) 9 (vI s.1)) 10 (vI s.2))) 4 f1 ⟨_,E,(kp4 (kp4 E))⟩ ?_ ?_
      ·rintro q L tm st ⟨f2,rfl,rfl⟩ h
       unfold lv at h
       refine cS (cS (cR (oY E (yMI E) (oY E (yMS E) (oY E (bi (us:=[]) cQ E) (oY E (be E E) (oN (eT ?_))))))))
       rcases iOs h with⟨U,h⟩|⟨U,h⟩
       ·refine cT (vB U) (cK (eT (cS (cB (cS (cR (oY E (yN 0 [.slice Aa p0.fB.length ca,.slice Ab p0.fR.length cb] dF E E E) (oY E (yMI E) (oY E (yMI E) ?_)))))))))
        obtain⟨ft,f3,h⟩:=bOs h
        refine oY E (yC [.agg #[.slice Aa p0.fB.length ca,.slice Ab p0.fR.length cb],vI f.2,vI q.2] go_104 E (fun W2 r=>jQ p0 f.2 q.2 ft f3 W2 Aa p0.fB.length ca E ((RdL.arg K) W2 r) Ab p0.fR.length cb E ((RdL.arg g) W2 r)) E) (oY E (yAB E) (oN (eT (cS (cR (oY E (yMB E) (oN (eT ?_))))))))
        rcases iOs h with⟨X,h⟩|⟨X,h⟩
        ·refine cT (vB X) (cR (oY E (yMI E) (oY E (yMS E) (oY E (yMI E) ?_))))
         obtain⟨G,h⟩:=gOs h
         refine oY E (yI bS (by decide) G.1 G.2 (RdL.arg o) (eL aB E) E E) ?_
         refine oY E (yR (A:=Ac) (j:=(Int.toNat q.2*1)) (v:=vI (rdL p1 q.2)) aK (RdL.arg o) E (ay aB G.1 (ah G.2 E) E)) (oY E (y_min E E) (oY E (yAI E) (oN (aw (eT (cR (oY E (yMI E) (oY E (aL E E) (oY E (yAI E) (oN ?_))))))))))
         obtain rfl:=sI h
         exact eN ⟨_,E,(kp4 (kp4 E))⟩
        ·refine cF (vB X) (cK (aw (eT (cR (oY E (yMI E) (oY E (aL E E) (oY E (yAI E) (oN ?_))))))))
         obtain rfl:=sI h
         exact eN ⟨_,E,(kp4 (kp4 E))⟩
       ·refine cF (vB U) (aD (ai ?_))
        obtain rfl:=sI h
        exact av ⟨E,_,E,(kp4 (kp4 E))⟩
      ·intro e L tm hJ
       obtain⟨rfl,fr,rfl,rfl⟩:=hJ
       refine⟨(by intro hc;cases hc),?_⟩
       refine ac (eT (cS (cR (oY E (yAB E) (oN (eT (cS (cS (cR (oY E (yAI E) (oN (eT (cB ?_)))))))))))))
       obtain⟨g3,fd,h⟩:=bOs h
       refine bj (fun(s:(Bool × Int)) L tm=>∃(d:Nat→Value),L=[ak V 53 [.slice Aa p0.fB.length ca,.slice Ab p0.fR.length cb]]∧tm=(upd (upd (upd (upd (upd (upd (upd (upd (upd (upd d 1 (.slice Ac p1.length cc)) 2 (.pointer (some ⟨V,0,none⟩))) 4 (vI S.1)) 5 (vI f.1)) 8 (vI f.2)) 44 (.bool (decide (f.2<(p0.fR.length:Int))))) 9 (vI R.1)) 10 (vI R.2)) 12 (.bool s.1)) 13 (vI s.2))) 6 fd ⟨_,E,(kp4 (kp4 (kp (kp E))))⟩ ?_ ?_
       ·rintro w L tm st ⟨fD,rfl,rfl⟩ h
        unfold lz at h
        refine cS (cS (cR (oY E (yMI E) (oY E (yMS E) (oY E (bi (us:=[]) cQ E) (oY E (be E E) (oN (eT ?_))))))))
        rcases iOs h with⟨Y,h⟩|⟨Y,h⟩
        ·refine cT (vB Y) (cK (eT (cS (cB (cS (cR (oY E (yN 0 [.slice Aa p0.fB.length ca,.slice Ab p0.fR.length cb] dF E E E) (oY E (yMI E) (oY E (yMI E) ?_)))))))))
         obtain⟨z,fE,h⟩:=bOs h
         refine oY E (yC [.agg #[.slice Aa p0.fB.length ca,.slice Ab p0.fR.length cb],vI f.2,vI w.2] go_104 E (fun W2 r=>jQ p0 f.2 w.2 z fE W2 Aa p0.fB.length ca E ((RdL.arg K) W2 r) Ab p0.fR.length cb E ((RdL.arg g) W2 r)) E) (oY E (yAB E) (oN (eT (cR (oY E (yMB E) (oY E (yMB E) ?_))))))
         refine oJ 2 (fun d=>(upd (upd (upd (upd (upd (upd (upd (upd (upd (upd (upd (upd (upd d 1 (.slice Ac p1.length cc)) 2 (.pointer (some ⟨V,0,none⟩))) 4 (vI S.1)) 5 (vI f.1)) 8 (vI f.2)) 44 (.bool (decide (f.2<(p0.fR.length:Int))))) 9 (vI R.1)) 10 (vI R.2)) 12 (.bool w.1)) 13 (vI w.2)) 73 (.bool (decide (w.2<(p1.length:Int))))) 14 (.bool z)) 83 (.bool (w.1||z)))) (fun d=>?_) (fun key=>?_)
         ·refine oY E (yAB E) (oN (aw (eT (cR (oY E (yMI E) (oY E (aL E E) (oY E (yAI E) (oN ?_))))))))
          obtain rfl:=sI h
          exact eN ⟨_,E,(kp4 (kp4 (kp (kp E))))⟩
         ·rcases ar w.1 with u|u
          ·refine oSk (sF E E E E u) (oY E (ad (vB u) E) ?_)
           exact key _ _ (keep (keep (keep (keep (keep (keep (keep (keep (keep (keep (keep (keep (keep E E) E) E) E) E) E) E) E) E) E) E) E) (vB (iQ u)))
          ·refine oY (sT E E E E u) (yMB E) (oY E (ag (vB u) E) ?_)
           exact key _ _ (keep (keep (keep (keep (keep (keep (keep (keep (keep (keep (keep (keep (keep E E) E) E) E) E) E) E) E) E) E) E) E) (vB (iR u)))
        ·refine cF (vB Y) (aD (ai ?_))
         obtain rfl:=sI h
         exact av ⟨E,_,E,(kp4 (kp4 (kp (kp E))))⟩
       ·intro e L tm hJ
        obtain⟨rfl,fG,rfl,rfl⟩:=hJ
        refine⟨(by intro hc;cases hc),?_⟩
        refine ac (eT (cS (cR (oY E (yMB E) (oN (eT ?_))))))
        rcases iOs h with⟨Z,h⟩|⟨Z,h⟩
        ·refine cT (vB Z) (cR (oY E (yMI E) (oY E (yFA cw E) (oY E (yL 0 iG E E E) (oY E (yMI E) ?_)))))
         obtain⟨H,h⟩:=gOs h
         refine oY E (yI lC (by decide) H.1 H.2 (RdL.arg g) (eL ax E) E E) ?_
         refine oY E (yFR (A:=Ab) (j:=(Int.toNat f.2*5)) jT E) (oY E (yR (A:=Ab) (j:=((Int.toNat f.2*5)+4)) (v:=vI ((rdL p0.fR f.2).fW)) aK (RdL.arg g) E (eG ax H.1 (ah H.2 E) E)) (oY E (aL E E) (oY E (yMI E) (oY E (ex E E) (oY E (yAI E) (oN (aw (eT (cR (oY E (yMI E) (oY E (aL E E) (oY E (yAI E) (oN ?_)))))))))))))
         obtain rfl:=sI h
         exact eN ⟨_,E,(kp4 (kp E))⟩
        ·refine cF (vB Z) (cK (aw (eT (cR (oY E (yMI E) (oY E (aL E E) (oY E (yAI E) (oN ?_))))))))
         obtain rfl:=sI h
         exact eN ⟨_,E,(kp4 (kp E))⟩
     ·refine cF (vB Q) (aD (ai ?_))
      obtain rfl:=sI h
      exact av ⟨E,_,E,(kp4 (kp E))⟩
    ·intro e L tm hJ
     obtain⟨rfl,fH,rfl,rfl⟩:=hJ
     refine⟨(by intro hc;cases hc),?_⟩
     refine ac (eT (cS (cR (oY E (yMI E) (oY E (yAI E) (oN (eT (ap ?_))))))))
     obtain rfl:=sI h
     exact am (.inl E) E (rVt (v:=vI fl.1) E) (fun W2 r=>⟨E,r.none⟩)
theorem m5 (p0:TY) (p1:TPlan) (res:Int) (h:jo p0 p1=some res) (W:World) (Aa:Option Addr) (w ca:Nat) (I:w=p0.fB.length) (u:Rd W Aa w ca (encL aH p0.fB)) (Ab:Option Addr) (D cb:Nat) (K:D=p0.fR.length) (d:Rd W Ab D cb (encL aE p0.fR)) (Ac:Option Addr) (F cc:Nat) (M:F=p1.fG.length) (N:Rd W Ac F cc (encL cI p1.fG)) (o:Option Addr) (G r:Nat) (O:G=p1.fPrices.length) (Q:Rd W o G r (encL cI p1.fPrices)) :
  Calls Tryz.prog 44 [.agg #[.slice Aa w ca,.slice Ab D cb],.agg #[.slice Ac F cc,vI p1.fW,.slice o G r]].toArray W fun e W2=>e=.returned (vI res)∧Ext W W2 []:=by
 subst I
 subst K
 subst M
 subst O
 unfold jo at h
 refine aj (m:=29) Tryz.func44 E E (nB E) (cS (cR ?_))
 refine aN [.slice Aa p0.fB.length ca,.slice Ab p0.fR.length cb] E E E (fun n=>?_)
 refine aN [.slice Ac p1.fG.length cc,vI p1.fW,.slice o p1.fPrices.length r] E E E (fun l=>?_)
 refine oY E (yAI E) (oN (eT (cS (cR (oY E (yN 0 [.slice Aa p0.fB.length ca,.slice Ab p0.fR.length cb] dF E E E) ?_)))))
 obtain⟨R,V,h⟩:=bOs h
 refine oY E (yC [.agg #[.slice Aa p0.fB.length ca,.slice Ab p0.fR.length cb]] go_46 E (fun W2 g=>mz p0 R V W2 Aa p0.fB.length ca E ((RdL.arg u) W2 g) Ab p0.fR.length cb E ((RdL.arg d) W2 g)) E) (oY E (yAI E) (oN (eT (cS (cS (cR (oY E (yMI E) (oY E (cJ E E) (oN (eT ?_))))))))))
 rcases iOs h with⟨U,h⟩|⟨U,h⟩
 ·refine cT (vB U) (cS (cR (oY E (yMI E) (oY E (yAI E) (oN (eT (ap (ab ?_))))))))
  obtain rfl:=sI h
  exact am (.inl E) E (rVt (v:=vI R) E) (fun W2 g=>⟨E,g.none⟩)
 ·refine cF (vB U) (cK (eT (cS (cR (oY E (yN 0 [.slice Aa p0.fB.length ca,.slice Ab p0.fR.length cb] dF E E E) (oY E (yFA fo_71_0 E) (oY E (yL 1 gM E E E) (oY E (yFA qW E) (oY E (yL 1 aK E E E) ?_)))))))))
  obtain⟨q,T,h⟩:=bOs h
  refine oY E (yC [.agg #[.slice Aa p0.fB.length ca,.slice Ab p0.fR.length cb],.slice Ac p1.fG.length cc,vI p1.fW] go_105 E (fun W2 g=>qy p0 p1.fG p1.fW q T W2 Aa p0.fB.length ca E ((RdL.arg u) W2 g) Ab p0.fR.length cb E ((RdL.arg d) W2 g) Ac p1.fG.length cc E ((RdL.arg N) W2 g)) E) (oY E (yAB E) (oN (eT (cS (cS ?_)))))
  refine aS 11 bW (by kernel_rfl) (by kernel_rfl) ?_
  refine qY E (yMB E) (qY E (bD E) (qY E (yMB E) ?_))
  obtain⟨p,X,h⟩:=bOs h
  refine qJ 8 (fun Y=>(upd (upd Y 4 (vI 0)) 28 (.bool p))) (fun Y=>?_) (fun key=>?_)
  ·refine bF (oN (eT ?_))
   rcases iOs h with⟨H,h⟩|⟨H,h⟩
   ·refine cT (vB H) (cS (cR (oY E (yAI E) (oN (eT (ap (ab ?_)))))))
    obtain rfl:=sI h
    exact am (.inl E) E (rVt (v:=vI 8) E) (fun W2 g=>⟨E,g.none⟩)
   ·refine cF (vB H) (cK (eT (cS (cR (oY E (yAI E) (oN (eT (ap ?_))))))))
    obtain rfl:=sI h
    exact am (.inl E) E (rVt (v:=vI 0) E) (fun W2 g=>⟨E,g.none⟩)
  ·clear h;rcases iOs X with⟨f,h⟩|⟨f,h⟩
   ·refine aa (sF E E E E f) (aa (sF E E E E f) (aa (sF E E E E f) (aa (sF E E E E f) (aa (sF E E E E f) (aa (sF E E E E f) (aa (sF E E E E f) (qY E (ad (vB f) E) ?_)))))))
    obtain rfl:=sI h
    exact key _ _ (kp (kp E))
   ·refine qY (sT E E E E f) (yN 0 [.slice Aa p0.fB.length ca,.slice Ab p0.fR.length cb] dF E E E) (qY (sT E E E E f) (yFA sO E) (qY (sT E E E E f) (yL 1 gM E E E) ?_))
    obtain⟨S,Z,h⟩:=bOs h
    refine qY (sT E E E E f) (yC [.agg #[.slice Aa p0.fB.length ca,.slice Ab p0.fR.length cb],.slice o p1.fPrices.length r] go_106 E (fun W2 g=>o8 p0 p1.fPrices S Z W2 Aa p0.fB.length ca E ((RdL.arg u) W2 g) Ab p0.fR.length cb E ((RdL.arg d) W2 g) o p1.fPrices.length r E ((RdL.arg Q) W2 g)) E) (qY (sT E E E E f) (yFA qW E) (qY (sT E E E E f) (yL 1 aK E E E) (qY (sT E E E E f) (cJ E E) (qY E (ag (vB f) E) ?_))))
    obtain rfl:=sI h
    exact key _ _ (kp (kp E))
theorem nZ (p0:TR) (p1:Int) (p2:Int) (res:(TTimes × Int)) (h:iV p0 p1 p2=some res) (W:World) (Ab:Option Addr) (K cb:Nat) (d:List (Hd × TT)) (q:K=p0.fTracks.length) (M:Rd W Ab K cb (encL TTrack_cells2 d)) (N:NestW W (fun z:TT=>z.fK) TSpan_cells d p0.fTracks) (wb:World) (Hb:World→Prop) (hB:∀W3,Below W.heap.size W W3→Below wb.heap.size wb W3∧Hb W3) :
  Calls Tryz.prog 49 [.agg #[vI p0.fPlaces,.slice Ab K cb],vI p1,vI p2].toArray W fun e W2=>∃x:((Option Addr × Nat × Nat) × (List (Hd × (List Int))) × Res),(x.1.2.1=res.1.fH.length∧NestP (fun z:(List Int)=>z) x.2.1 res.1.fH∧PvL (fun z:(List Int)=>z) cI wb (fun W4=>Hb W4∧Res.holds x.2.2 W4) x.2.1)∧e=.returned (.tuple #[.agg #[.slice x.1.1 x.1.2.1 x.1.2.2],vI res.2])∧Ext W W2 [aR x.1.1 x.1.2.2 42 1 x.1.2.1 (encL SlInt_cells2 x.2.1),x.2.2]:=by
 subst q
 unfold iV at h
 refine aj (m:=43) Tryz.func49 E E (nB E) (cS (cR ?_))
 refine aN [vI p0.fPlaces,.slice Ab p0.fTracks.length cb] E E E (fun b1=>?_)
 refine aF ze_87 E (fun b2=>?_)
 refine oY E (yAI E) (oN (eT (cS (cS (cR (oY E (yN 0 [vI p0.fPlaces,.slice Ab p0.fTracks.length cb] dG E E E) (oY E (yMI E) (oY E (yMI E) (oY E (yMI E) ?_)))))))))
 obtain⟨y3,fd,h⟩:=bOs h
 refine oY E (yC [.agg #[vI p0.fPlaces,.slice Ab p0.fTracks.length cb],vI p1,vI p1,vI p2,vI 0] go_70 E (fun W2 g=>gA p0 p1 p1 p2 0 y3 fd W2 Ab p0.fTracks.length cb d E ((RdL.arg M) W2 g) (NestL.at (NestL.arg N) W2 g)) E) (oY E (yAI E) (oN (eT (cS (cR (oY E (yMI E) (oY E (cJ E E) (oN (eT ?_)))))))))
 rcases iOs h with⟨p,h⟩|⟨p,h⟩
 ·refine cT (vB p) (cS (cR ?_))
  refine oY E (bn [.slice none 0 0] [(0,1)] ust_87 ze_87 (by kernel_rfl)) ?_
  refine oY E (yMI E) (cy E (yS 1 [.slice none 0 0] sz_87 E (nB E) E E E) (oY E (yAI E) (oN (eT (ap (ab ?_))))))
  obtain rfl:=sI h
  exact bT (.inl E) E (cf 1 [.slice none 0 0] r6 E E E) (rVt (v:=vI y3) E) (fun W2 g=>⟨((none,0,0),[],noR),⟨E,NestP.nil,PvL.nil⟩,E,(g.nilrow 42 1).addNo.pickL [2,3] (by decide) E⟩)
 ·refine cF (vB p) (cK (eT (cS (cR (oY E (yN 0 [vI p0.fPlaces,.slice Ab p0.fTracks.length cb] dG E E E) (oY E (yMI E) (oY E (yMI E) ?_)))))))
  obtain⟨y6,fE,h⟩:=bOs h
  refine mD [.agg #[vI p0.fPlaces,.slice Ab p0.fTracks.length cb],vI p1,vI p2] _ _ E go_110 E (fun W2 g=>l5 p0 p1 p2 y6 fE W2 Ab p0.fTracks.length cb d E ((RdL.arg M) W2 g) (NestL.at (NestL.arg N) W2 g)) ?_
  rintro b8
  refine oY E (eX E) (oN (eT (cS (cR ?_))))
  refine aF ze_87 E (fun t=>?_)
  refine oN (eT (cS (cS (cR (oY E (yFA dW E) (oY E (yL 0 aK E E E) (oY E (yMI E) (oN (eT (cB ?_))))))))))
  obtain⟨V,a,h⟩:=bOs h
  refine dr 42 1 (dr 42 1 (q8 (q8 ?_)))
  refine bj (fun(s:(Int × (List (List Int)))) L tm=>∃(fG:Nat→Value) (T:Option Addr) (S:Nat) (O:Nat) (G:List (Hd × (List Int))) (F5_s:Res),O=s.2.length∧NestP (fun z:(List Int)=>z) G s.2∧PvL (fun z:(List Int)=>z) cI wb (fun W4=>Hb W4∧Res.holds F5_s W4) G∧L=[ak b1 24 [vI p0.fPlaces,.slice Ab p0.fTracks.length cb],ak b2 87 [.slice none 0 0],mapV Tryz.prog 191 cv aW cn (Tl.mk 0 (Ts.mk 0 0) (TLeg.mk 0 0) false) b8 y6,ak t 87 [.slice T O S],aR none 0 42 1 0 (encL SlInt_cells2 ([]:List (Hd × (List Int)))),aR T S 42 1 O (encL SlInt_cells2 G),noR,F5_s]∧tm=(upd (upd (upd (upd (upd (upd fG 6 (.pointer (some ⟨b2,0,none⟩))) 7 (vI 0)) 9 (.map (some b8))) 10 (.pointer (some ⟨t,0,none⟩))) 27 (vI p0.fPlaces)) 28 (vI s.1))) 0 a ⟨_,none,0,0,([]:List (Hd × (List Int))),noR,E,NestP.nil,(PvL.mono (Hb:=Hb) PvL.nil (fun _ _ h=>h.1)),E,(kp4 (kp (kp E)))⟩ ?_ ?_
  ·rintro w L tm st ⟨i,H,I,f3,u,F5_s12,rfl,D,F,rfl,rfl⟩ h
   unfold kN at h
   refine cS (cR ?_)
   try dsimp only[lna,lca,lsz,lss]
   refine oY E (be E E) (oN (eT (cS ?_)))
   rcases iOs h with⟨Q,h⟩|⟨Q,h⟩
   ·refine cT (vB Q) (cK (eT (cS (cB (cS (cR (oY E (yMI E) (oY E (yAI E) (oN (eT (cS (cR (oY E (cU E) (oY E (yMI E) ?_))))))))))))))
    obtain⟨n,j,h⟩:=bOs h
    refine oC [.map (some b8),vI w.1] _ _ _ E go_111 E (fun W2 g=>kQ y6 w.1 n j W2 b8 ((MpL.own 2 E) W2 g)) ?_
    rintro-R
    try dsimp only[List.append_nil]
    refine aF qe E (fun l=>?_)
    try dsimp only[lna,lca,lsz,lss]
    refine cy E (ru 8 (xs:=(List.replicate 61 0)) (xs':=n) se List.length_replicate R E E E) (oN (eT ?_))
    obtain⟨f,k,h⟩:=bOs h
    obtain⟨y,h⟩:=gOs h
    refine gI [[],[0],[],[2],[2,3],[0,1,2,3,4],[0,1,2,3,4,5],[0,1,2,3,4,5,6]] [(none,0,[true,true,true,true,true,true,true,false,true]),(none,0,[true,true,true,true,true,true,true,false,true]),(none,0,[true,true,true,true,true,true,true,true,true]),(some 7,1,[true,true,true,true,true,true,true,true,true]),(none,1,[true,true,true,true,true,true,true,true,true,true]),(some 5,0,[true,true,true,true,true,true,true,true,true,true,true]),(none,0,[true,true,true,true,true,true,true,true,true,true,true]),(some 3,0,[true,true,true,true,true,true,true,true,true,true,true])] [⟨fun _=>.pointer (some ⟨t,0+0,none⟩),fun _=>noR,fun _=>[]⟩,⟨fun _=>.slice H w.2.length I,fun _=>noR,fun _=>[]⟩,⟨fun _=>.slice (some ⟨l,0,none⟩) 61 61,fun _=>noR,fun _=>[]⟩,⟨fun ξ19=>.slice (ξ19 3 0).1 f.length (ξ19 3 0).2.2.1,fun ξ19=>p8 F5_s12 (aR (ξ19 3 0).1 (ξ19 3 0).2.2.1 3 1 f.length (encL cI f)),fun _=>[noR]⟩,⟨fun ξ19=>.slice (some ⟨(ξ19 4 0).2.1,0,none⟩) 1 1,fun _=>noR,fun ξ19=>[aR (some ⟨(ξ19 4 0).2.1,0,none⟩) 1 42 1 1 (encL SlInt_cells2 [(((ξ19 3 0).1,f.length,(ξ19 3 0).2.2.1),f)])]⟩,⟨fun ξ19=>.slice (ξ19 5 0).1 (w.2.length+1) (ξ19 5 0).2.2.1,fun ξ19=>aR (ξ19 5 0).1 (ξ19 5 0).2.2.1 42 1 (w.2.length+1) (encL SlInt_cells2 (u++[(((ξ19 3 0).1,f.length,(ξ19 3 0).2.2.1),f)])),fun _=>[]⟩,⟨fun _=>.pointer (some ⟨t,0+0,none⟩),fun _=>noR,fun _=>[]⟩,⟨fun _=>undef,fun ξ19=>ak t 87 [.slice (ξ19 5 0).1 (w.2.length+1) (ξ19 5 0).2.2.1],fun _=>[]⟩] 9 bW (by kernel_rfl) (by kernel_rfl) ⟨⟨fun ξ19 ξ19' h=>⟨E,E,E⟩,fun _=>E⟩,⟨fun ξ19 ξ19' h=>⟨E,E,E⟩,fun _=>E⟩,⟨fun ξ19 ξ19' h=>⟨E,E,E⟩,fun _=>E⟩,⟨fun ξ19 ξ19' h=>⟨by simp only[h 3 (.inl E)],by simp only[h 3 (.inl E)],E⟩,fun _=>E⟩,⟨fun ξ19 ξ19' h=>⟨by simp only[h 4 (.inl E)],E,by simp only[h 3 (.inr E),h 4 (.inl E)]⟩,fun _=>E⟩,⟨fun ξ19 ξ19' h=>⟨by simp only[h 5 (.inl E)],by simp only[h 3 (.inr E),h 5 (.inl E)],E⟩,fun _=>E⟩,⟨fun ξ19 ξ19' h=>⟨E,E,E⟩,fun _=>E⟩,⟨fun ξ19 ξ19' h=>⟨E,by simp only[h 5 (.inr E)],E⟩,fun _=>E⟩,trivial⟩ E (fun ξ19=>?_)
    refine cW E (fun L2=>?_) ?_
    ·dsimp only[aM,lca,lna]
     refine oY E (yFA dw E) (oN ?_)
     exact az (fun _=>(none,0,0,[],noR)) E (List.append_nil _)
    dsimp only[cg,lsz,lss,lna,lca,List.append_nil]
    refine cW E (fun L2=>?_) ?_
    ·dsimp only[aM,lca,lna]
     refine oY E (yL 3 km E E E) (oN ?_)
     exact az (fun _=>(none,0,0,[],noR)) E (List.append_nil _)
    dsimp only[cg,lsz,lss,lna,lca,List.append_nil]
    refine cW E (fun L2=>?_) ?_
    ·dsimp only[aM,lca,lna]
     refine oY E (qt sS px E) (oN ?_)
     exact az (fun _=>(none,0,0,[],noR)) E (List.append_nil _)
    dsimp only[cg,lsz,lss,lna,lca,List.append_nil]
    refine cW E (fun L2=>?_) ?_
    ·dsimp only[aM,lca,lna]
     refine oC [.slice (some ⟨l,0,none⟩) 61 61] _ _ _ E go_92 E (fun W2 g=>en n f k W2 (some ⟨l,0,none⟩) 61 61 (Eq.symm R) ((RdL.cellsAs 8 61 E) W2 g)) ?_
     rintro⟨fT,fR,fn⟩ U
     replace U:fR=f.length:=U;subst U
     refine ox_joinE 7 E ?_
     try dsimp only[lsz,lss,lca,lna]
     refine oN ?_
     exact az (fun _=>(fT,0,fn,[],noR)) E E
    dsimp only[cg,lsz,lss,lna,lca,List.append_nil]
    refine cW E (fun L2=>?_) ?_
    ·dsimp only[aM,lca,lna]
     refine aP 1 (encL SlInt_cells2 [(((ξ19 3 0).1,f.length,(ξ19 3 0).2.2.1),f)]) _ mc_42_1 rk ze_42 by_42 (by decide) (by decide) (by kernel_rfl) (eL ao E) E (fun fl=>?_)
     refine oN ?_
     exact az (fun _=>(none,fl,0,[],noR)) E E
    dsimp only[cg,lsz,lss,lna,lca,List.append_nil]
    refine cW E (fun L2=>?_) ?_
    ·dsimp only[aM,lca,lna]
     refine cx 5 rk ze_42 by_42 E E E (RdL.row 10 E) (eL ao (NestP.hn (NestP.cons (sel:=(fun z:(List Int)=>z)) E NestP.nil) E)) (ef ob _) (eR y (by decide)) E (fun b c=>?_)
     refine oN ?_
     first|exact az (fun _=>(b,0,c,[],noR)) E E|exact az (fun _=>(b,0,c,[],noR)) E (List.append_nil _)
    dsimp only[cg,lsz,lss,lna,lca,List.append_nil]
    refine cW E (fun L2=>?_) ?_
    ·dsimp only[aM,lca,lna]
     refine oY E (yFA dw E) (oN ?_)
     exact az (fun _=>(none,0,0,[],noR)) E (List.append_nil _)
    dsimp only[cg,lsz,lss,lna,lca,List.append_nil]
    refine gx_n E (fun L2=>?_) ?_
    ·dsimp only[aM,lca,lna]
     refine cy E (dJ 3 (v:=.slice (ξ19 5 0).1 (w.2.length+1) (ξ19 5 0).2.2.1) sz_85 E (Nat.lt_of_lt_of_le (Nat.lt_succ_self _) (nB E)) E E E) (oN ?_)
     first|exact ci (fun _=>(none,0,0,[],noR)) E|exact ci (fun _=>(none,0,0,[],noR)) (List.append_nil _)
    dsimp only[cg,lsz,lss,lna,lca,List.append_nil]
    refine my (aw (eT (cR ?_)))
    try dsimp only[lna,lca,lsz,lss]
    refine oY E (aL E E) (oY E (yMI E) (oN (aQ 8 ?_)))
    obtain rfl:=sI h
    exact eN ⟨_,(ξ19 5 0).1,(ξ19 5 0).2.2.1,(w.2.length+1),(u++[(((ξ19 3 0).1,f.length,(ξ19 3 0).2.2.1),f)]),p8 F5_s12 (aR (ξ19 3 0).1 (ξ19 3 0).2.2.1 3 1 f.length (encL cI f)),(jM E E),(NestP.app D (NestP.cons (sel:=(fun z:(List Int)=>z)) E NestP.nil)),(PvL.app (PvL.mono (Hb:=(fun W4=>Hb W4∧Res.holds F5_s12 W4)) F (fun _ _ h=>⟨h.1,h.2.1⟩)) (PvL.cons (fun _ _ h=>eZ h.2.2.1) PvL.nil)),E,(kp4 (kp (kp E)))⟩
   ·refine cF (vB Q) (aD (ai ?_))
    obtain rfl:=sI h
    exact av ⟨E,_,H,I,w.2.length,u,F5_s12,E,D,F,E,(kp4 (kp (kp E)))⟩
  ·intro e L tm hJ
   obtain⟨rfl,f1,o,r,fr,X,F5_u13,rfl,Y,Z,rfl,rfl⟩:=hJ
   refine⟨(by intro hc;cases hc),?_⟩
   refine ac (eT (cS (cR ?_)))
   try dsimp only[lna,lca,lsz,lss]
   refine oY E (yN 3 [.slice o V.2.length r] r6 E E E) (cy E (yS 1 [.slice o V.2.length r] sz_87 E (nB E) E E E) (oY E (yAI E) (oN (eT (ap ?_)))))
   obtain rfl:=sI h
   exact bT (.inl E) E (cf 1 [.slice o V.2.length r] r6 E E E) (rVt (v:=vI 0) E) (fun W2 g=>⟨((o,V.2.length,r),X,F5_u13),⟨E,Y,Z⟩,E,g.pickL [5,7] (by decide) E⟩)
theorem mU (p0:TR) (p1:Int) (p2:Int) (p3:Int) (res:((List TJ) × Int)) (h:gr p0 p1 p2 p3=some res) (W:World) (Ab:Option Addr) (o cb:Nat) (g:List (Hd × TT)) (w:o=p0.fTracks.length) (r:Rd W Ab o cb (encL TTrack_cells2 g)) (u:NestW W (fun z:TT=>z.fK) TSpan_cells g p0.fTracks) (wb:World) (Hb:World→Prop) (hB:∀W3,Below W.heap.size W W3→Below wb.heap.size wb W3∧Hb W3) :
  Calls Tryz.prog 61 [.agg #[vI p0.fPlaces,.slice Ab o cb],vI p1,vI p2,vI p3].toArray W fun e W2=>∃x:((Option Addr × Nat × Nat) × (List (Hd × TJ)) × Res),(x.1.2.1=res.1.length∧NestP (fun z:TJ=>z.fLegs) x.2.1 res.1∧PvL (fun z:TJ=>z.fLegs) TLeg_cells wb (fun W4=>Hb W4∧Res.holds x.2.2 W4) x.2.1)∧e=.returned (.tuple #[.slice x.1.1 x.1.2.1 x.1.2.2,vI res.2])∧Ext W W2 [aR x.1.1 x.1.2.2 29 3 x.1.2.1 (encL TJourney_cells2 x.2.1),x.2.2]:=by
 subst w
 unfold gr at h
 refine aj (m:=24) Tryz.func61 E E (nB E) (cS (cR ?_))
 refine aN [vI p0.fPlaces,.slice Ab p0.fTracks.length cb] E E E (fun X=>?_)
 refine oY E (yAS E) (oY E (yAI E) (oN (eT (cS (cS (cR (oY E (yN 0 [vI p0.fPlaces,.slice Ab p0.fTracks.length cb] dG E E E) (oY E (yMI E) (oY E (yMI E) (oY E (yMI E) ?_))))))))))
 obtain⟨Q,M,h⟩:=bOs h
 refine oY E (yC [.agg #[vI p0.fPlaces,.slice Ab p0.fTracks.length cb],vI p1,vI p2,vI p3,vI 0] go_70 E (fun W2 f=>gA p0 p1 p2 p3 0 Q M W2 Ab p0.fTracks.length cb g E ((RdL.arg r) W2 f) (NestL.at (NestL.arg u) W2 f)) E) (oY E (yAI E) (oN (eT (cS (cR (oY E (yMI E) (oY E (cJ E E) (oN (eT ?_)))))))))
 rcases iOs h with⟨D,h⟩|⟨D,h⟩
 ·refine cT (vB D) (cS (cR (oY E (yMI E) (oY E (yAS E) (oY E (yAI E) (oN (eT (ap (ab ?_)))))))))
  obtain rfl:=sI h
  exact bT (.inl E) E (rVt (v:=.slice none 0 0) E) (rVt (v:=vI Q) E) (fun W2 f=>⟨((none,0,0),[],noR),⟨E,NestP.nil,PvL.nil⟩,E,(f.nilrow 29 3).addNo.pickL [1,2] (by decide) E⟩)
 ·refine cF (vB D) (cK (eT (cS (cR (oY E (yN 0 [vI p0.fPlaces,.slice Ab p0.fTracks.length cb] dG E E E) (oY E (yMI E) (oY E (yMI E) (oY E (yMI E) ?_))))))))
  obtain⟨K,N,h⟩:=bOs h
  refine oC [.agg #[vI p0.fPlaces,.slice Ab p0.fTracks.length cb],vI p1,vI p2,vI p3] _ _ _ E go_119 E (fun W2 f=>mP p0 p1 p2 p3 K N W2 Ab p0.fTracks.length cb g E ((RdL.arg r) W2 f) (NestL.at (NestL.arg u) W2 f) wb Hb (fun W3 hb=>hB W3 (fY f.below hb)) ) ?_
  rintro⟨⟨U,O,F⟩,G,F15⟩ ⟨d,H,I⟩
  replace d:O=K.length:=d;subst d
  refine oY E (yAS E) (oY E (yAI E) (oN (eT (ap ?_))))
  obtain rfl:=sI h
  exact bT (.inl E) E (rVt (v:=.slice U K.length F) E) (rVt (v:=vI 0) E) (fun W2 f=>⟨((U,K.length,F),G,F15),⟨E,H,I⟩,E,f.pickL [1,2] (by decide) E⟩)
theorem m9  (res:TR) (h:jh=some res) (W:World) (wb:World) (Hb:World→Prop) (hB:∀W3,Below W.heap.size W W3→Below wb.heap.size wb W3∧Hb W3) :
  Calls Tryz.prog 67 [].toArray W fun e W2=>∃x:((Option Addr × Nat × Nat) × (List (Hd × TT)) × Res),(x.1.2.1=res.fTracks.length∧NestP (fun z:TT=>z.fK) x.2.1 res.fTracks∧PvL (fun z:TT=>z.fK) TSpan_cells wb (fun W4=>Hb W4∧Res.holds x.2.2 W4) x.2.1)∧e=.returned (.agg #[vI res.fPlaces,.slice x.1.1 x.1.2.1 x.1.2.2])∧Ext W W2 [aR x.1.1 x.1.2.2 120 6 x.1.2.1 (encL TTrack_cells2 x.2.1),x.2.2]:=by
 unfold jh at h
 refine aj (m:=9) Tryz.func67 E E (nB E) (cS (cR ?_))
 refine aF ze_24 E (fun r=>?_)
 refine oN (eT (cS (cR ?_)))
 refine oY E (bn [vI 1,vI 0,vI 1,vI 5,vI 0,.slice none 0 0] [(0,1),(1,1),(2,1),(3,1),(4,1),(5,1)] q7 ip (by kernel_rfl)) ?_
 refine oY E (bn [vI 8,vI 20] [(0,1),(1,1)] tn si (by kernel_rfl)) ?_
 refine aP 1 (encL TSpan_cells [(TSpan.mk 8 20)]) _ mc_63_1 mY si by_63 (by decide) (by decide) (by kernel_rfl) (eL aG E) E (fun f=>?_)
 refine oY E (bn [vI 2,vI 1,vI 2,vI 5,vI 0,.slice (some ⟨f,0,none⟩) 1 1] [(0,1),(1,1),(2,1),(3,1),(4,1),(5,1)] q7 ip (by kernel_rfl)) ?_
 refine oY E (bn [vI 3,vI 0,vI 2,vI 9,vI 6,.slice none 0 0] [(0,1),(1,1),(2,1),(3,1),(4,1),(5,1)] q7 ip (by kernel_rfl)) ?_
 refine oY E (bn [vI 4,vI 1,vI 2,vI 8,vI 2,.slice none 0 0] [(0,1),(1,1),(2,1),(3,1),(4,1),(5,1)] q7 ip (by kernel_rfl)) ?_
 refine tH ?_
 refine oD 2 1 (by decide) E E ?_
 refine aP 4 (encL TTrack_cells2 [((none,0,0),(TT.mk 1 0 1 5 0 ([]:(List TSpan)))),(((some ⟨f,0,none⟩),1,1),(TT.mk 2 1 2 5 0 [(TSpan.mk 8 20)])),((none,0,0),(TT.mk 3 0 2 9 6 ([]:(List TSpan)))),((none,0,0),(TT.mk 4 1 2 8 2 ([]:(List TSpan))))]) _ mc_120_4 i6 ip tD (by decide) (by decide) (by kernel_rfl) (eL au E) E (fun g=>?_)
 refine oY E (bn [vI 3,.slice (some ⟨g,0,none⟩) 4 4] [(0,1),(1,1)] ust_24 ze_24 (by kernel_rfl)) ?_
 refine cy E (yS 0 [vI 3,.slice (some ⟨g,0,none⟩) 4 4] sz_24 E (nB E) E E E) (oN (eT (ap ?_)))
 obtain rfl:=sI h
 exact am (.inl E) E (cf 0 [vI 3,.slice (some ⟨g,0,none⟩) 4 4] dG E E E) (fun W2 o=>⟨(((some ⟨g,0,none⟩),4,4),[((none,0,0),(TT.mk 1 0 1 5 0 ([]:(List TSpan)))),(((some ⟨f,0,none⟩),1,1),(TT.mk 2 1 2 5 0 [(TSpan.mk 8 20)])),((none,0,0),(TT.mk 3 0 2 9 6 ([]:(List TSpan)))),((none,0,0),(TT.mk 4 1 2 8 2 ([]:(List TSpan))))],p8 noR (aR (some ⟨f,0,none⟩) 1 63 2 1 (encL TSpan_cells [(TSpan.mk 8 20)]))),⟨E,(NestP.cons (sel:=(fun z:TT=>z.fK)) E (NestP.cons (sel:=(fun z:TT=>z.fK)) E (NestP.cons (sel:=(fun z:TT=>z.fK)) E (NestP.cons (sel:=(fun z:TT=>z.fK)) E NestP.nil)))),(PvL.cons (Pv.mono (Hb:=Hb) (Pv.nil E) (fun _ _ h=>h.1)) (PvL.cons (fun _ _ h=>eZ h.2.2.1) (PvL.mono (Hb:=(fun W4=>Hb W4∧Res.holds noR W4)) (PvL.cons (Pv.mono (Hb:=Hb) (Pv.nil E) (fun _ _ h=>h.1)) (PvL.cons (Pv.mono (Hb:=Hb) (Pv.nil E) (fun _ _ h=>h.1)) PvL.nil)) (fun _ _ h=>⟨h.1,h.2.1⟩))))⟩,E,o.pickL [3,2] (by decide) E⟩)
theorem mW  (res:TY) (h:jC=some res) (W:World)  :
  Calls Tryz.prog 68 [].toArray W fun e W2=>∃x:((Option Addr × Nat × Nat) × (Option Addr × Nat × Nat)),(x.1.2.1=res.fB.length∧x.2.2.1=res.fR.length)∧e=.returned (.agg #[.slice x.1.1 x.1.2.1 x.1.2.2,.slice x.2.1 x.2.2.1 x.2.2.2])∧Ext W W2 [aR x.1.1 x.1.2.2 69 3 x.1.2.1 (encL aH res.fB),aR x.2.1 x.2.2.2 65 5 x.2.2.1 (encL aE res.fR)]:=by
 unfold jC at h
 refine aj (m:=12) Tryz.func68 E E (nB E) (cS (cR ?_))
 refine aF sq E (fun r=>?_)
 refine oN (eT (cS (cR ?_)))
 refine oY E (bn [vI 1,vI 10,vI 3] [(0,1),(1,1),(2,1)] ust_69 pW (by kernel_rfl)) ?_
 refine oY E (bn [vI 2,vI 11,vI 5] [(0,1),(1,1),(2,1)] ust_69 pW (by kernel_rfl)) ?_
 refine aP 2 (encL aH [(TBay.mk 1 10 3),(TBay.mk 2 11 5)]) _ mc_69_2 kS pW by_69 (by decide) (by decide) (by kernel_rfl) (eL aO E) E (fun f=>?_)
 refine oY E (bn [vI 10,vI 11] [(0,1),(1,1)] tn si (by kernel_rfl)) ?_
 refine oY E (bn [vI 7,vI 10,vI 11,vI 3,vI 5] [(0,1),(1,2),(3,1),(4,1)] ust_65 pY (by kernel_rfl)) ?_
 refine oY E (bn [vI 11,vI 12] [(0,1),(1,1)] tn si (by kernel_rfl)) ?_
 refine oY E (bn [vI 8,vI 11,vI 12,vI 4,vI 9] [(0,1),(1,2),(3,1),(4,1)] ust_65 pY (by kernel_rfl)) ?_
 refine oY E (bn [vI 10,vI 11] [(0,1),(1,1)] tn si (by kernel_rfl)) ?_
 refine oY E (bn [vI 9,vI 10,vI 11,vI 4,vI 7] [(0,1),(1,2),(3,1),(4,1)] ust_65 pY (by kernel_rfl)) ?_
 refine aP 3 (encL aE [(TO.mk 7 (TSpan.mk 10 11) 3 5),(TO.mk 8 (TSpan.mk 11 12) 4 9),(TO.mk 9 (TSpan.mk 10 11) 4 7)]) _ mc_65_3 mi pY by_65 (by decide) (by decide) (by kernel_rfl) (eL ax E) E (fun g=>?_)
 refine oY E (bn [.slice (some ⟨f,0,none⟩) 2 2,.slice (some ⟨g,0,none⟩) 3 3] [(0,1),(1,1)] ust_53 sq (by kernel_rfl)) ?_
 refine cy E (yS 0 [.slice (some ⟨f,0,none⟩) 2 2,.slice (some ⟨g,0,none⟩) 3 3] sz_53 E (nB E) E E E) (oN (eT (ap ?_)))
 obtain rfl:=sI h
 exact am (.inl E) E (cf 0 [.slice (some ⟨f,0,none⟩) 2 2,.slice (some ⟨g,0,none⟩) 3 3] dF E E E) (fun W2 o=>⟨(((some ⟨f,0,none⟩),2,2),((some ⟨g,0,none⟩),3,3)),⟨E,E⟩,E,o.pickL [1,2] (by decide) E⟩)
theorem qK (p0:TT) (p1:Int) (res:(Int × Int)) (h:nr p0 p1=some res) (W:World) (f:Option Addr) (u g:Nat) (D:u=p0.fK.length) (d:Rd W f u g (encL TSpan_cells p0.fK)) :
  Calls Tryz.prog 69 [.agg #[vI p0.fID,vI p0.fFrom,vI p0.fTo,vI p0.fLong,vI p0.fToll,.slice f u g],vI p1].toArray W fun e W2=>e=.returned (.tuple #[vI res.1,vI res.2])∧Ext W W2 []:=by
 subst D
 unfold nr at h
 refine aj (m:=26) Tryz.func69 E E (nB E) (cS (cR ?_))
 refine aN [vI p0.fID,vI p0.fFrom,vI p0.fTo,vI p0.fLong,vI p0.fToll,.slice f p0.fK.length g] E E E (fun Q=>?_)
 refine oY E (yAI E) (oY E (yAI E) (oN (eT (cS (cS (cR (oY E (yFA f4 E) (oY E (yL 0 kM E E E) ?_))))))))
 obtain⟨U,I,h⟩:=bOs h
 refine oY E (yC [.slice f p0.fK.length g] go_122 E (fun W2 o=>l7 p0.fK U I W2 f p0.fK.length g E ((RdL.arg d) W2 o)) E) (oY E (bD E) (oY E (yMB E) ?_))
 obtain⟨X,K,h⟩:=bOs h
 refine oJ 4 (fun G=>(upd (upd (upd (upd (upd G 1 (vI p1)) 2 (.pointer (some ⟨Q,0,none⟩))) 4 (vI 0)) 5 (vI 0)) 16 (.bool X))) (fun G=>?_) (fun key=>?_)
 ·refine oN (eT ?_)
  rcases iOs h with⟨F,h⟩|⟨F,h⟩
  ·refine cT (vB F) (cS (cR (oY E (yAI E) (oY E (yAI E) (oN (eT (ap (ab ?_))))))))
   obtain rfl:=sI h
   exact bT (.inl E) E (rVt (v:=vI 0) E) (rVt (v:=vI 1) E) (fun W2 o=>⟨E,o.none⟩)
  ·refine cF (vB F) (cK (eT (cS (cR (oY E (yN 0 [vI p0.fID,vI p0.fFrom,vI p0.fTo,vI p0.fLong,vI p0.fToll,.slice f p0.fK.length g] gS E E E) (oY E (yMI E) ?_))))))
   obtain⟨O,M,h⟩:=bOs h
   refine oY E (yC [.agg #[vI p0.fID,vI p0.fFrom,vI p0.fTo,vI p0.fLong,vI p0.fToll,.slice f p0.fK.length g],vI p1] ti E (fun W2 o=>iS p0 p1 O M W2 f p0.fK.length g E ((RdL.arg d) W2 o)) E) (oY E (aY E) (oY E (yE E E) (oY E (yE E E) (oY E (yAI E) (oY E (yAB E) (oN (eT (cS (cS (cR (oY E (yMB E) (oY E (bD E) (oN (eT ?_))))))))))))))
   rcases iOs h with⟨w,h⟩|⟨w,h⟩
   ·refine cT (vB w) (cS (cR (oY E (yAI E) (oY E (yAI E) (oN (eT (ap (ab ?_))))))))
    obtain rfl:=sI h
    exact bT (.inl E) E (rVt (v:=vI 0) E) (rVt (v:=vI 5) E) (fun W2 o=>⟨E,o.none⟩)
   ·refine cF (vB w) (cK (eT (cS (cR (oY E (yMI E) (oY E (yAI E) (oY E (yAI E) (oN (eT (ap ?_))))))))))
    obtain rfl:=sI h
    exact bT (.inl E) E (rVt (v:=vI O.1) E) (rVt (v:=vI 0) E) (fun W2 o=>⟨E,o.none⟩)
 ·clear h;rcases iOs K with⟨r,h⟩|⟨r,h⟩
  ·refine oSk (sF E E E E r) (oSk (sF E E E E r) (oSk (sF E E E E r) (oY E (ad (vB r) E) ?_)))
   obtain rfl:=sI h
   exact key _ _ (kp4 (kp E))
  ·refine oY (sT E E E E r) (yMI E) ?_
   obtain⟨N,H,h⟩:=bOs h
   refine oY (sT E E E E r) (yC [vI p1] mb E (fun W2 o=>cL p1 N H W2 ) E) (oY (sT E E E E r) (bD E) (oY E (ag (vB r) E) ?_))
   obtain rfl:=sI h
   exact key _ _ (kp4 (kp E))
end Go.Proofs.YthndghnkebboaaaGreat
