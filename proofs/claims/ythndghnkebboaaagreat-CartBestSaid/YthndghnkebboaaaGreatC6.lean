import Derived.Test.YthndghnkebboaaaGreatF
import Derived.Test.YthndghnkebboaaaGreatGF
import Derived.Test.YthndghnkebboaaaGreatGy
import Derived.Test.YthndghnkebboaaaGreatC4
import Derived.Test.YthndghnkebboaaaGreatC0
import Derived.Test.YthndghnkebboaaaGreatC2
set_option maxHeartbeats 4000000
set_option maxRecDepth 100000
set_option linter.unusedVariables false
namespace Go.Proofs.YthndghnkebboaaaGreat
open Go.RowKit (Below)
attribute [local irreducible] OX QX CX EX OpY Calls CallsIn
theorem qv (p0:TY) (p1:(List (Int × Int))) (res:TPlan) (h:nS p0 p1 = some res) (W:World) (Aa:Option Addr) (n0_0 ca : Nat) (hn0_0:n0_0 = p0.fB.length) (hr0_0:Rd W Aa n0_0 ca (encL aG p0.fB)) (Ab:Option Addr) (n0_1 cb : Nat) (hn0_1:n0_1 = p0.fR.length) (hr0_1:Rd W Ab n0_1 cb (encL aB p0.fR)) (bm1_0:Nat) (hm1_0:(mapV Tryz.prog 3 kI dW kI 0 bm1_0 p1).holds W) :
  Calls Tryz.prog 99 [.agg #[.slice Aa n0_0 ca,.slice Ab n0_1 cb],.map (some bm1_0)].toArray W fun e W2 => ∃ x : ((Option Addr × Nat × Nat) × (Option Addr × Nat × Nat)),(x.1.2.1 = res.fG.length ∧ x.2.2.1 = res.fPrices.length) ∧ e = .returned (.agg #[.slice x.1.1 x.1.2.1 x.1.2.2,vI res.fW,.slice x.2.1 x.2.2.1 x.2.2.2]) ∧ Ext W W2 [aL x.1.1 x.1.2.2 3 1 x.1.2.1 (encL cI res.fG),aL x.2.1 x.2.2.2 3 1 x.2.2.1 (encL cI res.fPrices)]:=by
 subst hn0_0
 subst hn0_1
 unfold nS at h
 refine ae (m:=54) Tryz.func99 rfl rfl (nB rfl) (cS (cR ?_))
 refine aW [.slice Aa p0.fB.length ca,.slice Ab p0.fR.length cb] rfl rfl rfl (fun b1 => ?_)
 refine aE sC rfl (fun b2 => ?_)
 refine oN (eT (cS ?_))
 obtain ⟨hg5,h⟩:=gOs h
 obtain ⟨y6,hy7,h⟩:=bOs h
 refine eF [[],[0],[0,1],[0,1,2],[],[],[4,5],[0,1,2,3,4,5,6],[],[0,1,2,3,4,5,6,7,8]] [(none,0,[true,true]),(none,0,[true,true]),(none,0,[true,true]),(none,1,[true,true]),(none,0,[true,true,false]),(none,0,[true,true,false]),(none,0,[true,true,false]),(none,0,[true,true,true]),(none,1,[true,true,false]),(some 3,0,[true,true,true,true])] [⟨fun _ => .pointer (some ⟨b1,0 + 1,none⟩),fun _ => noR,fun _ => []⟩,⟨fun _ => .slice Ab p0.fR.length cb,fun _ => noR,fun _ => []⟩,⟨fun _ => vI (p0.fR.length:Int),fun _ => noR,fun _ => []⟩,⟨fun ξ3 => .slice (some ⟨(ξ3 3 0).2.1,0,none⟩) (Int.toNat (p0.fR.length:Int)) (Int.toNat (p0.fR.length:Int)),fun _ => noR,fun ξ3 => [aL (some ⟨(ξ3 3 0).2.1,0,none⟩) (Int.toNat (p0.fR.length:Int)) 3 1 (Int.toNat (p0.fR.length:Int)) (encL cI (List.replicate (Int.toNat (p0.fR.length:Int)) 0))]⟩,⟨fun _ => .map (some bm1_0),fun _ => noR,fun _ => []⟩,⟨fun _ => .agg #[.slice Aa p0.fB.length ca,.slice Ab p0.fR.length cb],fun _ => noR,fun _ => []⟩,⟨fun _ => vI y6,fun _ => noR,fun _ => []⟩,⟨fun ξ3 => .agg #[.slice (some ⟨(ξ3 3 0).2.1,0,none⟩) (Int.toNat (p0.fR.length:Int)) (Int.toNat (p0.fR.length:Int)),vI y6,.slice none 0 0],fun _ => noR,fun _ => []⟩,⟨fun ξ3 => .pointer (some ⟨(ξ3 8 0).2.1,0,none⟩),fun _ => noR,fun ξ3 => [ai (ξ3 8 0).2.1 71 [.slice none 0 0,vI 0,.slice none 0 0]]⟩,⟨fun _ => undef,fun ξ3 => ai (ξ3 8 0).2.1 71 [.slice (some ⟨(ξ3 3 0).2.1,0,none⟩) (Int.toNat (p0.fR.length:Int)) (Int.toNat (p0.fR.length:Int)),vI y6,.slice none 0 0],fun _ => []⟩] 2 cD (by kernel_rfl) (by kernel_rfl) ⟨⟨fun ξ3 ξ3' h => ⟨rfl,rfl,rfl⟩,fun _ => rfl⟩,⟨fun ξ3 ξ3' h => ⟨rfl,rfl,rfl⟩,fun _ => rfl⟩,⟨fun ξ3 ξ3' h => ⟨rfl,rfl,rfl⟩,fun _ => rfl⟩,⟨fun ξ3 ξ3' h => ⟨by simp only [h 3 (.inl rfl)],rfl,by simp only [h 3 (.inl rfl)]⟩,fun _ => rfl⟩,⟨fun ξ3 ξ3' h => ⟨rfl,rfl,rfl⟩,fun _ => rfl⟩,⟨fun ξ3 ξ3' h => ⟨rfl,rfl,rfl⟩,fun _ => rfl⟩,⟨fun ξ3 ξ3' h => ⟨rfl,rfl,rfl⟩,fun _ => rfl⟩,⟨fun ξ3 ξ3' h => ⟨by simp only [h 3 (.inr rfl)],rfl,rfl⟩,fun _ => rfl⟩,⟨fun ξ3 ξ3' h => ⟨by simp only [h 8 (.inl rfl)],rfl,by simp only [h 8 (.inl rfl)]⟩,fun _ => rfl⟩,⟨fun ξ3 ξ3' h => ⟨rfl,by simp only [h 3 (.inr rfl),h 8 (.inr rfl)],rfl⟩,fun _ => rfl⟩,trivial⟩ rfl (fun ξ3 => ?_)
 refine bN rfl (fun L2 => ?_) ?_
 ·dsimp only [aF,lca,lna]
  refine oY rfl (yFA cn rfl) (oN ?_)
  exact ap (fun _ => (none,0,0,[],noR)) rfl (List.append_nil _)
 dsimp only [bx,lsz,lss,lna,lca,List.append_nil]
 refine bN rfl (fun L2 => ?_) ?_
 ·dsimp only [aF,lca,lna]
  refine oY rfl (yL 0 gP rfl rfl rfl) (oN ?_)
  exact ap (fun _ => (none,0,0,[],noR)) rfl (List.append_nil _)
 dsimp only [bx,lsz,lss,lna,lca,List.append_nil]
 refine bN rfl (fun L2 => ?_) ?_
 ·dsimp only [aF,lca,lna]
  refine oY rfl (bp (us:=[]) lC rfl) (oN ?_)
  exact ap (fun _ => (none,0,0,[],noR)) rfl (List.append_nil _)
 dsimp only [bx,lsz,lss,lna,lca,List.append_nil]
 refine bN rfl (fun L2 => ?_) ?_
 ·dsimp only [aF,lca,lna]
  refine rA (encL cI (List.replicate (Int.toNat (p0.fR.length:Int)) 0)) cV lj m4 hg5.1 hg5.2 rfl (ql _ _ _ rfl rfl) rfl (fun b4 => ?_)
  refine oN ?_
  exact ap (fun _ => (none,b4,0,[],noR)) rfl rfl
 dsimp only [bx,lsz,lss,lna,lca,List.append_nil]
 refine bN rfl (fun L2 => ?_) ?_
 ·dsimp only [aF,lca,lna]
  refine oY rfl (cN rfl) (oN ?_)
  exact ap (fun _ => (none,0,0,[],noR)) rfl (List.append_nil _)
 dsimp only [bx,lsz,lss,lna,lca,List.append_nil]
 refine bN rfl (fun L2 => ?_) ?_
 ·dsimp only [aF,lca,lna]
  refine oY rfl (yN 0 [.slice Aa p0.fB.length ca,.slice Ab p0.fR.length cb] dp rfl rfl rfl) (oN ?_)
  exact ap (fun _ => (none,0,0,[],noR)) rfl (List.append_nil _)
 dsimp only [bx,lsz,lss,lna,lca,List.append_nil]
 refine bN rfl (fun L2 => ?_) ?_
 ·dsimp only [aF,lca,lna]
  refine oY rfl (yC [.map (some bm1_0),.agg #[.slice Aa p0.fB.length ca,.slice Ab p0.fR.length cb]] go_130 rfl (fun W2 hW2 => iy p1 p0 y6 hy7 W2 bm1_0 ((MpL.arg hm1_0) W2 hW2) Aa p0.fB.length ca rfl ((RdL.arg hr0_0) W2 hW2) Ab p0.fR.length cb rfl ((RdL.arg hr0_1) W2 hW2)) rfl) (oN ?_)
  exact ap (fun _ => (none,0,0,[],noR)) rfl (List.append_nil _)
 dsimp only [bx,lsz,lss,lna,lca,List.append_nil]
 refine bN rfl (fun L2 => ?_) ?_
 ·dsimp only [aF,lca,lna]
  refine oY rfl (aY [.slice (some ⟨(ξ3 3 0).2.1,0,none⟩) (Int.toNat (p0.fR.length:Int)) (Int.toNat (p0.fR.length:Int)),vI y6,.slice none 0 0] [(0,1),(1,1),(2,1)] ust_71 sC (by kernel_rfl)) ?_
  refine oN ?_
  exact ap (fun _ => (none,0,0,[],noR)) rfl (List.append_nil _)
 dsimp only [bx,lsz,lss,lna,lca,List.append_nil]
 refine bN rfl (fun L2 => ?_) ?_
 ·dsimp only [aF,lca,lna]
  refine aE sC rfl (fun b8 => ?_)
  refine oN ?_
  exact ap (fun _ => (none,b8,0,[],noR)) rfl rfl
 dsimp only [bx,lsz,lss,lna,lca,List.append_nil]
 refine tr rfl (fun L2 => ?_) ?_
 ·dsimp only [aF,lca,lna]
  refine cr rfl (yS 3 [.slice (some ⟨(ξ3 3 0).2.1,0,none⟩) (Int.toNat (p0.fR.length:Int)) (Int.toNat (p0.fR.length:Int)),vI y6,.slice none 0 0] sz_71 rfl (nB rfl) rfl rfl rfl) (oN ?_)
  first | exact bP (fun _ => (none,0,0,[],noR)) rfl | exact bP (fun _ => (none,0,0,[],noR)) (List.append_nil _)
 dsimp only [bx,lsz,lss,lna,lca,List.append_nil]
 refine kx (eT (cS (cS (cR (oY rfl (cN rfl) (qx hm1_0 ke_3 qK rfl rfl (fun b9 k10 hk11 => (oN (eT ?_)))))))))
 obtain ⟨hg21,h⟩:=gOs h
 obtain ⟨hd24,h⟩:=gOs h
 refine cB (sv (fun (s19:Nat × (Int → Bool) × (List Int)) L tm => FoldI dW p1 (fun a y12 => a.set (Int.toNat (az 0 p1 y12)) ((rdL p0.fB y12).fID)) (List.replicate (Int.toNat (p0.fR.length:Int)) 0) s19 ∧ Int.toNat (p0.fR.length:Int) = s19.2.2.length ∧ ∃ (tm0:Nat → Value),L = [ai b1 53 [.slice Aa p0.fB.length ca,.slice Ab p0.fR.length cb],ai b2 71 [.slice none 0 0,vI 0,.slice none 0 0],aL (some ⟨(ξ3 3 0).2.1,0,none⟩) (Int.toNat (p0.fR.length:Int)) 3 1 (Int.toNat (p0.fR.length:Int)) (encL cI s19.2.2),ai (ξ3 8 0).2.1 71 [.slice (some ⟨(ξ3 3 0).2.1,0,none⟩) (Int.toNat (p0.fR.length:Int)) (Int.toNat (p0.fR.length:Int)),vI y6,.slice none 0 0],rngA W Tryz.prog 3 kI dW kI 0 bm1_0 b9 p1 s19.2.1 s19.1 none] ∧ tm = (upd (upd (upd (upd (upd (upd tm0 0 (.agg #[.slice Aa p0.fB.length ca,.slice Ab p0.fR.length cb])) 1 (.map (some bm1_0))) 2 (.pointer (some ⟨b1,0,none⟩))) 4 (.pointer (some ⟨b2,0,none⟩))) 5 (.pointer (some ⟨(ξ3 8 0).2.1,0,none⟩))) 18 (.pointer (some ⟨b9,0,none⟩)))) (fun s => s.1) (k10,(fun y => bi p1 y),(List.replicate (Int.toNat (p0.fR.length:Int)) 0)) ⟨FoldI.start,(List.length_replicate).symm,_,rfl,(kp4 (kp (kp rfl)))⟩ ?_)
 rintro s19 L tm ⟨hI20,hn22,tm0,rfl,rfl⟩
 refine cS (cR ?_)
 refine rY 4 ((mapV Tryz.prog 3 kI dW kI 0 bm1_0 p1).inb _ hm1_0 _ rfl) rfl ke_3 rfl rfl (fun hno18 => ?_) (fun y12 k13 hy14 hly15 hM16 hk17 => ?_)
 ·refine oY rfl (yE rfl rfl) (oN (eT (cS (cF rfl (aH (ag ?_))))))
  refine ex_outM (by intro h; cases h) ?_
  have hS23:=hI20.done (C:=(fun y12 => ((0:Int) ≤ y12 ∧ y12 < (p0.fB.length:Int)) ∧ ((0:Int) ≤ az 0 p1 y12 ∧ az 0 p1 y12 < ((Int.toNat (p0.fR.length:Int) : Nat) : Int)))) hg21 hno18 (tE hd24)
  rw [hS23]
  refine ac (eT (cS (cS (cR (oY rfl (yFA eM rfl) (oY rfl (yL 0 ky rfl rfl rfl) (oY rfl (bp (us:=[]) kg rfl) (oY rfl (yMI rfl) (oN (eT (cB ?_)))))))))))
  obtain ⟨u28,hl47,h⟩:=bOs h
  refine cQ 3 1 (cQ 3 1 (cQ 3 1 ?_))
  refine ba (fun (s:(Int × (List Int))) L tm => ∃ (tm0:Nat → Value) (A7_s:Option Addr) (c7_s:Nat) (n7_s:Nat),n7_s = s.2.length ∧ L = [ai b1 53 [.slice Aa p0.fB.length ca,.slice Ab p0.fR.length cb],ai b2 71 [.slice none 0 0,vI 0,.slice none 0 0],aL (some ⟨(ξ3 3 0).2.1,0,none⟩) (Int.toNat (p0.fR.length:Int)) 3 1 (Int.toNat (p0.fR.length:Int)) (encL cI ((gW p1).foldl (fun a y12 => a.set (Int.toNat (az 0 p1 y12)) ((rdL p0.fB y12).fID)) (List.replicate (Int.toNat (p0.fR.length:Int)) 0))),ai (ξ3 8 0).2.1 71 [.slice (some ⟨(ξ3 3 0).2.1,0,none⟩) (Int.toNat (p0.fR.length:Int)) (Int.toNat (p0.fR.length:Int)),vI y6,.slice A7_s n7_s c7_s],rngA W Tryz.prog 3 kI dW kI 0 bm1_0 b9 p1 s19.2.1 s19.1 none,aL none 0 3 1 0 (encL cI ([]:List Int)),aL none 0 3 1 0 (encL cI ([]:List Int)),aL A7_s c7_s 3 1 n7_s (encL cI s.2)] ∧ tm = (upd (upd (upd (upd (upd tm0 2 (.pointer (some ⟨b1,0,none⟩))) 4 (.pointer (some ⟨b2,0,none⟩))) 5 (.pointer (some ⟨(ξ3 8 0).2.1,0,none⟩))) 36 (vI (p0.fB.length:Int))) 37 (vI s.1))) 2 hl47 ⟨_,none,0,0,rfl,rfl,(kp4 (kp rfl))⟩ ?_ ?_
  ·rintro s27 L tm st ⟨tm0_s27,A7_s27,c7_s27,n7_s27,rfl,rfl,rfl⟩ h
   unfold mL at h
   refine cS (cR ?_)
   try dsimp only [lna,lca,lsz,lss]
   refine oY rfl (bj rfl rfl) (oN (eT (cS ?_)))
   rcases iOs h with ⟨hp29,h⟩ | ⟨hp29,h⟩
   ·refine cT (vB hp29) (cK (eT (cS (cB (cS (cR (oY rfl (yMI rfl) (oY rfl (yAI rfl) (oN (eT ?_))))))))))
    obtain ⟨y31,hy32,h⟩:=bOs h
    obtain ⟨y41,hy42,h⟩:=bOs h
    obtain ⟨hg46,h⟩:=gOs h
    refine eF [[],[0],[],[2],[],[],[4,5],[4,5,6],[2,3,4,5,6,7],[2,3,4,5,6,7,8],[0,1,2,3,4,5,6,7,8,9],[0,1,2,3,4,5,6,7,8,9,10],[0,1,2,3,4,5,6,7,8,9,10,11]] [(none,0,[true,true,true,true,true,true,true,true]),(none,0,[true,true,true,true,true,true,true,true]),(none,0,[true,true,true,true,true,true,true,true]),(none,0,[true,true,true,true,true,true,true,true]),(none,0,[true,true,true,true,true,true,true,true]),(none,0,[true,true,true,true,true,true,true,true]),(none,1,[true,true,true,true,true,true,true,true]),(none,0,[true,true,true,true,true,true,true,true,true]),(none,0,[true,true,true,true,true,true,true,true,true]),(none,1,[true,true,true,true,true,true,true,true,true]),(some 7,0,[true,true,true,true,true,true,true,true,true,true]),(none,0,[true,true,true,true,true,true,true,true,true,true]),(some 3,0,[true,true,true,true,true,true,true,true,true,true])] [⟨fun _ => .pointer (some ⟨(ξ3 8 0).2.1,0 + 2,none⟩),fun _ => noR,fun _ => []⟩,⟨fun _ => .slice A7_s27 s27.2.length c7_s27,fun _ => noR,fun _ => []⟩,⟨fun _ => .pointer (some ⟨(ξ3 8 0).2.1,0 + 1,none⟩),fun _ => noR,fun _ => []⟩,⟨fun _ => vI y6,fun _ => noR,fun _ => []⟩,⟨fun _ => .agg #[.slice Aa p0.fB.length ca,.slice Ab p0.fR.length cb],fun _ => noR,fun _ => []⟩,⟨fun _ => vI s27.1,fun _ => noR,fun _ => []⟩,⟨fun ξ30 => .agg #[.slice (ξ30 6 0).1 y31.fB.length (ξ30 6 0).2.2.1,.slice Ab p0.fR.length cb],fun _ => noR,fun ξ30 => [aL (ξ30 6 0).1 (ξ30 6 0).2.2.1 69 3 y31.fB.length (encL aG y31.fB)]⟩,⟨fun _ => vI y41,fun _ => noR,fun _ => []⟩,⟨fun _ => vI (w64 (y6 - y41)),fun _ => noR,fun _ => []⟩,⟨fun ξ30 => .slice (some ⟨(ξ30 9 0).2.1,0,none⟩) 1 1,fun _ => noR,fun ξ30 => [aL (some ⟨(ξ30 9 0).2.1,0,none⟩) 1 3 1 1 (encL cI [w64 (y6 - y41)])]⟩,⟨fun ξ30 => .slice (ξ30 10 0).1 (s27.2.length + 1) (ξ30 10 0).2.2.1,fun ξ30 => aL (ξ30 10 0).1 (ξ30 10 0).2.2.1 3 1 (s27.2.length + 1) (encL cI (s27.2 ++ [w64 (y6 - y41)])),fun _ => []⟩,⟨fun _ => .pointer (some ⟨(ξ3 8 0).2.1,0 + 2,none⟩),fun _ => noR,fun _ => []⟩,⟨fun _ => undef,fun ξ30 => ai (ξ3 8 0).2.1 71 [.slice (some ⟨(ξ3 3 0).2.1,0,none⟩) (Int.toNat (p0.fR.length:Int)) (Int.toNat (p0.fR.length:Int)),vI y6,.slice (ξ30 10 0).1 (s27.2.length + 1) (ξ30 10 0).2.2.1],fun _ => []⟩] 8 cD (by kernel_rfl) (by kernel_rfl) ⟨⟨fun ξ30 ξ30' h => ⟨rfl,rfl,rfl⟩,fun _ => rfl⟩,⟨fun ξ30 ξ30' h => ⟨rfl,rfl,rfl⟩,fun _ => rfl⟩,⟨fun ξ30 ξ30' h => ⟨rfl,rfl,rfl⟩,fun _ => rfl⟩,⟨fun ξ30 ξ30' h => ⟨rfl,rfl,rfl⟩,fun _ => rfl⟩,⟨fun ξ30 ξ30' h => ⟨rfl,rfl,rfl⟩,fun _ => rfl⟩,⟨fun ξ30 ξ30' h => ⟨rfl,rfl,rfl⟩,fun _ => rfl⟩,⟨fun ξ30 ξ30' h => ⟨by simp only [h 6 (.inl rfl)],rfl,by simp only [h 6 (.inl rfl)]⟩,fun _ => rfl⟩,⟨fun ξ30 ξ30' h => ⟨rfl,rfl,rfl⟩,fun _ => rfl⟩,⟨fun ξ30 ξ30' h => ⟨rfl,rfl,rfl⟩,fun _ => rfl⟩,⟨fun ξ30 ξ30' h => ⟨by simp only [h 9 (.inl rfl)],rfl,by simp only [h 9 (.inl rfl)]⟩,fun _ => rfl⟩,⟨fun ξ30 ξ30' h => ⟨by simp only [h 10 (.inl rfl)],by simp only [h 10 (.inl rfl)],rfl⟩,fun _ => rfl⟩,⟨fun ξ30 ξ30' h => ⟨rfl,rfl,rfl⟩,fun _ => rfl⟩,⟨fun ξ30 ξ30' h => ⟨rfl,by simp only [h 10 (.inr rfl)],rfl⟩,fun _ => rfl⟩,trivial⟩ rfl (fun ξ30 => ?_)
    refine bN rfl (fun L2 => ?_) ?_
    ·dsimp only [aF,lca,lna]
     refine oY rfl (yFA rF rfl) (oN ?_)
     exact ap (fun _ => (none,0,0,[],noR)) rfl (List.append_nil _)
    dsimp only [bx,lsz,lss,lna,lca,List.append_nil]
    refine bN rfl (fun L2 => ?_) ?_
    ·dsimp only [aF,lca,lna]
     refine oY rfl (yL 3 iR rfl rfl rfl) (oN ?_)
     exact ap (fun _ => (none,0,0,[],noR)) rfl (List.append_nil _)
    dsimp only [bx,lsz,lss,lna,lca,List.append_nil]
    refine bN rfl (fun L2 => ?_) ?_
    ·dsimp only [aF,lca,lna]
     refine oY rfl (yFA pp rfl) (oN ?_)
     exact ap (fun _ => (none,0,0,[],noR)) rfl (List.append_nil _)
    dsimp only [bx,lsz,lss,lna,lca,List.append_nil]
    refine bN rfl (fun L2 => ?_) ?_
    ·dsimp only [aF,lca,lna]
     refine oY rfl (yL 3 aV rfl rfl rfl) (oN ?_)
     exact ap (fun _ => (none,0,0,[],noR)) rfl (List.append_nil _)
    dsimp only [bx,lsz,lss,lna,lca,List.append_nil]
    refine bN rfl (fun L2 => ?_) ?_
    ·dsimp only [aF,lca,lna]
     refine oY rfl (yN 0 [.slice Aa p0.fB.length ca,.slice Ab p0.fR.length cb] dp rfl rfl rfl) (oN ?_)
     exact ap (fun _ => (none,0,0,[],noR)) rfl (List.append_nil _)
    dsimp only [bx,lsz,lss,lna,lca,List.append_nil]
    refine bN rfl (fun L2 => ?_) ?_
    ·dsimp only [aF,lca,lna]
     refine oY rfl (yMI rfl) (oN ?_)
     exact ap (fun _ => (none,0,0,[],noR)) rfl (List.append_nil _)
    dsimp only [bx,lsz,lss,lna,lca,List.append_nil]
    refine bN rfl (fun L2 => ?_) ?_
    ·dsimp only [aF,lca,lna]
     refine oC [.agg #[.slice Aa p0.fB.length ca,.slice Ab p0.fR.length cb],vI s27.1] _ _ _ rfl go_97 rfl (fun W2 hW2 => kE p0 s27.1 y31 hy32 W2 Aa p0.fB.length ca rfl ((RdL.arg hr0_0) W2 hW2) Ab p0.fR.length cb rfl ((RdL.arg hr0_1) W2 hW2)) ?_
     rintro ⟨A37,n39,c38⟩ hn40
     replace hn40 : n39 = y31.fB.length:=hn40; subst hn40
     refine oN ?_
     exact ap (fun _ => (A37,0,c38,[],noR)) rfl rfl
    dsimp only [bx,lsz,lss,lna,lca,List.append_nil]
    refine bN rfl (fun L2 => ?_) ?_
    ·dsimp only [aF,lca,lna]
     refine oY rfl (yC [.agg #[.slice (ξ30 6 0).1 y31.fB.length (ξ30 6 0).2.2.1,.slice Ab p0.fR.length cb]] sP rfl (fun W2 hW2 => eQ (TY.mk y31.fB p0.fR) y41 hy42 W2 (ξ30 6 0).1 y31.fB.length (ξ30 6 0).2.2.1 rfl ((RdL.row 8 rfl) W2 hW2) Ab p0.fR.length cb rfl ((RdL.arg hr0_1) W2 hW2)) rfl) (oN ?_)
     exact ap (fun _ => (none,0,0,[],noR)) rfl (List.append_nil _)
    dsimp only [bx,lsz,lss,lna,lca,List.append_nil]
    refine bN rfl (fun L2 => ?_) ?_
    ·dsimp only [aF,lca,lna]
     refine oY rfl (eH rfl rfl) (oN ?_)
     exact ap (fun _ => (none,0,0,[],noR)) rfl (List.append_nil _)
    dsimp only [bx,lsz,lss,lna,lca,List.append_nil]
    refine bN rfl (fun L2 => ?_) ?_
    ·dsimp only [aF,lca,lna]
     refine aJ 1 (encL cI [w64 (y6 - y41)]) _ mM cV lj m4 (by decide) (by decide) (by kernel_rfl) (eL aA rfl) rfl (fun b43 => ?_)
     refine oN ?_
     exact ap (fun _ => (none,b43,0,[],noR)) rfl rfl
    dsimp only [bx,lsz,lss,lna,lca,List.append_nil]
    refine bN rfl (fun L2 => ?_) ?_
    ·dsimp only [aF,lca,lna]
     refine bE 7 cV lj m4 rfl rfl rfl (RdL.row 9 rfl) (eL aA rfl) (cv lG _) (cA hg46 (by decide)) rfl (fun A44 c45 => ?_)
     refine oN ?_
     first | exact ap (fun _ => (A44,0,c45,[],noR)) rfl rfl | exact ap (fun _ => (A44,0,c45,[],noR)) rfl (List.append_nil _)
    dsimp only [bx,lsz,lss,lna,lca,List.append_nil]
    refine bN rfl (fun L2 => ?_) ?_
    ·dsimp only [aF,lca,lna]
     refine oY rfl (yFA rF rfl) (oN ?_)
     exact ap (fun _ => (none,0,0,[],noR)) rfl (List.append_nil _)
    dsimp only [bx,lsz,lss,lna,lca,List.append_nil]
    refine tr rfl (fun L2 => ?_) ?_
    ·dsimp only [aF,lca,lna]
     refine cr rfl (dt 3 (v:=.slice (ξ30 10 0).1 (s27.2.length + 1) (ξ30 10 0).2.2.1) sz_42 rfl (Nat.lt_of_lt_of_le (Nat.lt_succ_self _) (nB rfl)) rfl rfl rfl) (oN ?_)
     first | exact bP (fun _ => (none,0,0,[],noR)) rfl | exact bP (fun _ => (none,0,0,[],noR)) (List.append_nil _)
    dsimp only [bx,lsz,lss,lna,lca,List.append_nil]
    refine kx (aw (eT (cR ?_)))
    try dsimp only [lna,lca,lsz,lss]
    refine oY rfl (aT rfl rfl) (oY rfl (yMI rfl) (oN (aU 8 ?_)))
    obtain rfl:=sI h
    exact eN ⟨_,(ξ30 10 0).1,(ξ30 10 0).2.2.1,(s27.2.length + 1),(gb rfl rfl),rfl,(kp4 (kp rfl))⟩
   ·refine cF (vB hp29) (aH (ag ?_))
    obtain rfl:=sI h
    exact ax ⟨rfl,_,A7_s27,c7_s27,s27.2.length,rfl,rfl,(kp4 (kp rfl))⟩
  ·intro e L tm hJ
   obtain ⟨rfl,tm0_u28,A7_u28,c7_u28,n7_u28,rfl,rfl,rfl⟩:=hJ
   refine ⟨(by intro hc; cases hc),?_⟩
   refine ac (eT (cS (cR ?_)))
   try dsimp only [lna,lca,lsz,lss]
   refine oY rfl (yN 3 [.slice (some ⟨(ξ3 3 0).2.1,0,none⟩) (Int.toNat (p0.fR.length:Int)) (Int.toNat (p0.fR.length:Int)),vI y6,.slice A7_u28 u28.2.length c7_u28] ag_71 rfl rfl rfl) (cr rfl (yS 1 [.slice (some ⟨(ξ3 3 0).2.1,0,none⟩) (Int.toNat (p0.fR.length:Int)) (Int.toNat (p0.fR.length:Int)),vI y6,.slice A7_u28 u28.2.length c7_u28] sz_71 rfl (nB rfl) rfl rfl rfl) (oN (eT (am ?_))))
   obtain rfl:=sI h
   exact al (.inl rfl) rfl (bz 1 [.slice (some ⟨(ξ3 3 0).2.1,0,none⟩) (Int.toNat (p0.fR.length:Int)) (Int.toNat (p0.fR.length:Int)),vI y6,.slice A7_u28 u28.2.length c7_u28] ag_71 rfl rfl rfl) (fun W2 hW2 => ⟨(((some ⟨(ξ3 3 0).2.1,0,none⟩),Int.toNat (p0.fR.length:Int),Int.toNat (p0.fR.length:Int)),(A7_u28,u28.2.length,c7_u28)),⟨(ob _ (List.length_replicate).symm),rfl⟩,rfl,hW2.pickL [2,7] (by decide) rfl⟩)
 ·refine oY rfl (yE rfl rfl) (oN (eT (cS (cT rfl (cK (eT (cB (cS (cR (oY rfl (rH 4 ((mapV Tryz.prog 3 kI dW kI 0 bm1_0 p1).inb _ hm1_0 _ rfl) rfl rfl) (oY rfl (yE rfl rfl) (oY rfl (yE rfl rfl) (oY rfl (yAI rfl) (oY rfl (yAI rfl) (oN (eT ?_))))))))))))))))
  refine bh 10 cD (by kernel_rfl) (by kernel_rfl) ?_
  refine qY rfl (yFA fo_71_0 rfl) (qY rfl (yL 3 iR rfl rfl rfl) (qY rfl (yMI rfl) (qY rfl (yFA eM rfl) (qY rfl (yL 0 ky rfl rfl rfl) (qY rfl (yMI rfl) ?_)))))
  refine qY rfl (yI mF (by decide) ((j6 (C:=(fun y12 => ((0:Int) ≤ y12 ∧ y12 < (p0.fB.length:Int)) ∧ ((0:Int) ≤ az 0 p1 y12 ∧ az 0 p1 y12 < ((Int.toNat (p0.fR.length:Int) : Nat) : Int)))) hg21 hM16).1).1 ((j6 (C:=(fun y12 => ((0:Int) ≤ y12 ∧ y12 < (p0.fB.length:Int)) ∧ ((0:Int) ≤ az 0 p1 y12 ∧ az 0 p1 y12 < ((Int.toNat (p0.fR.length:Int) : Nat) : Int)))) hg21 hM16).1).2 (RdL.arg hr0_0) (eL aK rfl) rfl rfl) ?_
  refine qY rfl (yFR (A:=Aa) (j:=(Int.toNat y12 * 3)) kL rfl) (qY rfl (yR (A:=Aa) (j:=((Int.toNat y12 * 3) + 0)) (v:=vI ((rdL p0.fB y12).fID)) aV (RdL.arg hr0_0) rfl (eG aK ((j6 (C:=(fun y12 => ((0:Int) ≤ y12 ∧ y12 < (p0.fB.length:Int)) ∧ ((0:Int) ≤ az 0 p1 y12 ∧ az 0 p1 y12 < ((Int.toNat (p0.fR.length:Int) : Nat) : Int)))) hg21 hM16).1).1 (ah ((j6 (C:=(fun y12 => ((0:Int) ≤ y12 ∧ y12 < (p0.fB.length:Int)) ∧ ((0:Int) ≤ az 0 p1 y12 ∧ az 0 p1 y12 < ((Int.toNat (p0.fR.length:Int) : Nat) : Int)))) hg21 hM16).1).2 rfl) rfl)) ?_)
  refine qY rfl (yI bZ (by decide) ((j6 (C:=(fun y12 => ((0:Int) ≤ y12 ∧ y12 < (p0.fB.length:Int)) ∧ ((0:Int) ≤ az 0 p1 y12 ∧ az 0 p1 y12 < ((Int.toNat (p0.fR.length:Int) : Nat) : Int)))) hg21 hM16).2).1 ((j6 (C:=(fun y12 => ((0:Int) ≤ y12 ∧ y12 < (p0.fB.length:Int)) ∧ ((0:Int) ≤ az 0 p1 y12 ∧ az 0 p1 y12 < ((Int.toNat (p0.fR.length:Int) : Nat) : Int)))) hg21 hM16).2).2 (RdL.row 2 rfl) (eL aA hn22) rfl rfl) ?_
  refine cd (cr rfl (gO 2 (xs:=s19.2.2) aA ((rdL p0.fB y12).fID) qk rfl ((j6 (C:=(fun y12 => ((0:Int) ≤ y12 ∧ y12 < (p0.fB.length:Int)) ∧ ((0:Int) ≤ az 0 p1 y12 ∧ az 0 p1 y12 < ((Int.toNat (p0.fR.length:Int) : Nat) : Int)))) hg21 hM16).2).1 (ah ((j6 (C:=(fun y12 => ((0:Int) ≤ y12 ∧ y12 < (p0.fB.length:Int)) ∧ ((0:Int) ≤ az 0 p1 y12 ∧ az 0 p1 y12 < ((Int.toNat (p0.fR.length:Int) : Nat) : Int)))) hg21 hM16).2).2 hn22) rfl rfl rfl rfl) (oN (aw (nW 4 rfl ?_))))
  exact rZ (k13,(fun q => s19.2.1 q && !decide (q = y12)),(s19.2.2.set (Int.toNat (az 0 p1 y12)) ((rdL p0.fB y12).fID))) ⟨hI20.step hy14 hly15 hM16,(cP hn22),_,rfl,(kp4 (kp (kp rfl)))⟩ hk17
theorem pW (p0:TY) (res:(TPlan × Int)) (h:mC p0 = some res) (W:World) (Aa:Option Addr) (n0_0 ca : Nat) (hn0_0:n0_0 = p0.fB.length) (hr0_0:Rd W Aa n0_0 ca (encL aG p0.fB)) (Ab:Option Addr) (n0_1 cb : Nat) (hn0_1:n0_1 = p0.fR.length) (hr0_1:Rd W Ab n0_1 cb (encL aB p0.fR)) (wb:World) (Hb:World → Prop) (hB:∀ W3,Below W.heap.size W W3 → Below wb.heap.size wb W3 ∧ Hb W3) :
  Calls Tryz.prog 37 [.agg #[.slice Aa n0_0 ca,.slice Ab n0_1 cb]].toArray W fun e W2 => ∃ x : ((Hd × Res) × (Hd × Res)),(x.1.1.2.1 = res.1.fG.length ∧ Pv cI wb (fun W4 => Hb W4 ∧ Res.holds x.1.2 W4) x.1.1 res.1.fG ∧ x.2.1.2.1 = res.1.fPrices.length ∧ Pv cI wb (fun W4 => Hb W4 ∧ Res.holds x.2.2 W4) x.2.1 res.1.fPrices) ∧ e = .returned (.tuple #[.agg #[.slice x.1.1.1 x.1.1.2.1 x.1.1.2.2,vI res.1.fW,.slice x.2.1.1 x.2.1.2.1 x.2.1.2.2],vI res.2]) ∧ Ext W W2 [x.1.2,x.2.2]:=by
 subst hn0_0
 subst hn0_1
 unfold mC at h
 refine ae (m:=15) Tryz.func37 rfl rfl (nB rfl) (cS (cR ?_))
 refine aW [.slice Aa p0.fB.length ca,.slice Ab p0.fR.length cb] rfl rfl rfl (fun b1 => ?_)
 refine aE sC rfl (fun b2 => ?_)
 refine oY rfl (yAI rfl) (oN (eT (cS (cS (cR (oY rfl (yN 0 [.slice Aa p0.fB.length ca,.slice Ab p0.fR.length cb] dp rfl rfl rfl) ?_))))))
 obtain ⟨y3,hy4,h⟩:=bOs h
 refine oY rfl (yC [.agg #[.slice Aa p0.fB.length ca,.slice Ab p0.fR.length cb]] go_45 rfl (fun W2 hW2 => dv p0 y3 hy4 W2 Aa p0.fB.length ca rfl ((RdL.arg hr0_0) W2 hW2) Ab p0.fR.length cb rfl ((RdL.arg hr0_1) W2 hW2)) rfl) (oY rfl (yAI rfl) (oN (eT (cS (cR (oY rfl (yMI rfl) (oY rfl (dl rfl rfl) (oN (eT ?_)))))))))
 rcases iOs h with ⟨hp5,h⟩ | ⟨hp5,h⟩
 ·refine cT (vB hp5) (cS (cR ?_))
  refine oY rfl (aY [.slice none 0 0,vI 0,.slice none 0 0] [(0,1),(1,1),(2,1)] ust_71 sC (by kernel_rfl)) ?_
  refine oY rfl (yMI rfl) (cr rfl (yS 1 [.slice none 0 0,vI 0,.slice none 0 0] sz_71 rfl (nB rfl) rfl rfl rfl) (oY rfl (yAI rfl) (oN (eT (am (aa ?_))))))
  obtain rfl:=sI h
  exact bI (.inl rfl) rfl (bz 1 [.slice none 0 0,vI 0,.slice none 0 0] ag_71 rfl rfl rfl) (rVt (v:=vI y3) rfl) (fun W2 hW2 => ⟨(((none,0,0),noR),((none,0,0),noR)),⟨rfl,(Pv.mono (Hb:=Hb) (Pv.nil rfl) (fun _ _ h => h.1)),rfl,(Pv.mono (Hb:=Hb) (Pv.nil rfl) (fun _ _ h => h.1))⟩,rfl,hW2.addNo.addNo.pickL [2,3] (by decide) rfl⟩)
 ·refine cF (vB hp5) (cK (eT (cS ?_)))
  obtain ⟨y6,hy7,h⟩:=bOs h
  refine cx_drawsQ 2 3 (fun v L1 => ∃ x : Nat,v = .map (some x) ∧ L1 = [mapV Tryz.prog 3 kI dW kI 0 x y6]) cD (by kernel_rfl) (by kernel_rfl) (by kernel_rfl) ?_
  refine bx_y rfl (fun _ => yN 0 [.slice Aa p0.fB.length ca,.slice Ab p0.fR.length cb] dp rfl rfl rfl) (bx_y rfl (fun _ => yN 0 [.slice Aa p0.fB.length ca,.slice Ab p0.fR.length cb] dp rfl rfl rfl) (bx_q rfl (l6 [.agg #[.slice Aa p0.fB.length ca,.slice Ab p0.fR.length cb]] _ _ rfl go_100 rfl (fun W2 hW2 => lN p0 y6 hy7 W2 Aa p0.fB.length ca rfl ((RdL.arg hr0_0) W2 hW2) Ab p0.fR.length cb rfl ((RdL.arg hr0_1) W2 hW2)) (fun x => oN (ex_cap ⟨x,rfl,rfl⟩))) (kx_nil rfl ?_)))
  rintro v L1 ⟨b8,rfl,rfl⟩
  obtain ⟨y9,hy10,h⟩:=bOs h
  refine oC [.agg #[.slice Aa p0.fB.length ca,.slice Ab p0.fR.length cb],.map (some b8)] _ _ _ rfl go_99 rfl (fun W2 hW2 => qv p0 y6 y9 hy10 W2 Aa p0.fB.length ca rfl ((RdL.arg hr0_0) W2 hW2) Ab p0.fR.length cb rfl ((RdL.arg hr0_1) W2 hW2) b8 ((MpL.own 2 rfl) W2 hW2)) ?_
  rintro ⟨⟨A11,n15,c12⟩,⟨A13,n17,c14⟩⟩ ⟨hn16,hn18⟩
  replace hn16 : n15 = y9.fG.length:=hn16; subst hn16
  replace hn18 : n17 = y9.fPrices.length:=hn18; subst hn18
  refine cr rfl (yS 1 [.slice A11 y9.fG.length c12,vI y9.fW,.slice A13 y9.fPrices.length c14] sz_71 rfl (nB rfl) rfl rfl rfl) (oY rfl (yAI rfl) (oN (qa (eT (am ?_)))))
  obtain rfl:=sI h
  exact bI (.inl rfl) rfl (bz 1 [.slice A11 y9.fG.length c12,vI y9.fW,.slice A13 y9.fPrices.length c14] ag_71 rfl rfl rfl) (rVt (v:=vI 0) rfl) (fun W2 hW2 => ⟨(((A11,y9.fG.length,c12),aL A11 c12 3 1 y9.fG.length (encL cI y9.fG)),((A13,y9.fPrices.length,c14),aL A13 c14 3 1 y9.fPrices.length (encL cI y9.fPrices))),⟨rfl,(fun _ _ h => eO h.2),rfl,(fun _ _ h => eO h.2)⟩,rfl,hW2.pickL [3,4] (by decide) rfl⟩)
theorem aR (p0:Int) (p1:Int) (p2:Int) (res:Bool) (h:aZ p0 p1 p2 = some res) (W:World)  :
  Calls Tryz.prog 109 [vI p0,vI p1,vI p2].toArray W fun e W2 => e = .returned (.bool res) ∧ Ext W W2 []:=by
 unfold aZ at h
 refine ae (m:=15) Tryz.func109 rfl rfl (nB rfl) (cS (cR (oY rfl (yAB rfl) (oN (eT (cS (cR (oY rfl (yMI rfl) (oY rfl (yMI rfl) (oY rfl (oR rfl rfl) (oY rfl (yMB rfl) ?_)))))))))))
 refine oJ 4 (fun tm0 => (upd (upd tm0 6 (.bool false)) 14 (.bool ((decide (p1 ≤ p0)) && (decide (p0 ≤ p2)))))) (fun tm0 => ?_) (fun key => ?_)
 ·refine oY rfl (yAB rfl) (oN (eT (am ?_)))
  obtain rfl:=sI h
  exact al (.inl rfl) rfl (rVt (v:=.bool ((decide (p1 ≤ p0)) && (decide (p0 ≤ p2)))) rfl) (fun W2 hW2 => ⟨rfl,hW2.none⟩)
 ·rcases ao (decide (p1 ≤ p0)) with hp1 | hp1
  ·refine oY (sT rfl rfl rfl rfl hp1) (yMI rfl) (oY (sT rfl rfl rfl rfl hp1) (yMI rfl) (oY (sT rfl rfl rfl rfl hp1) (jw rfl rfl) (oY rfl (ab (vB hp1) rfl) ?_)))
   exact key _ _ (keep (keep rfl rfl) (vB (fc hp1)))
  ·refine oSk (sF rfl rfl rfl rfl hp1) (oSk (sF rfl rfl rfl rfl hp1) (oSk (sF rfl rfl rfl rfl hp1) (oY rfl (ad (vB hp1) rfl) ?_)))
   exact key _ _ (keep (keep rfl rfl) (vB (fa hp1)))
theorem df (p0:Int) (res:Bool) (h:dc p0 = some res) (W:World)  :
  Calls Tryz.prog 77 [vI p0].toArray W fun e W2 => e = .returned (.bool res) ∧ Ext W W2 []:=by
 unfold dc at h
 refine ae (m:=5) Tryz.func77 rfl rfl (nB rfl) (cS (cR (oY rfl (yAB rfl) (oN (eT (cS (cR (oY rfl (yMI rfl) ?_))))))))
 obtain ⟨y1,hy2,h⟩:=bOs h
 refine oY rfl (yC [vI p0,vI 0,vI 16384] go rfl (fun W2 hW2 => aR p0 0 16384 y1 hy2 W2 ) rfl) (oY rfl (yAB rfl) (oN (eT (am ?_))))
 obtain rfl:=sI h
 exact al (.inl rfl) rfl (rVt (v:=.bool y1) rfl) (fun W2 hW2 => ⟨rfl,hW2.none⟩)
theorem lQ (p0:TY) (res:Int) (h:iu p0 = some res) (W:World) (Aa:Option Addr) (n0_0 ca : Nat) (hn0_0:n0_0 = p0.fB.length) (hr0_0:Rd W Aa n0_0 ca (encL aG p0.fB)) (Ab:Option Addr) (n0_1 cb : Nat) (hn0_1:n0_1 = p0.fR.length) (hr0_1:Rd W Ab n0_1 cb (encL aB p0.fR)) :
  Calls Tryz.prog 46 [.agg #[.slice Aa n0_0 ca,.slice Ab n0_1 cb]].toArray W fun e W2 => e = .returned (vI res) ∧ Ext W W2 []:=by
 subst hn0_0
 subst hn0_1
 unfold iu at h
 refine ae (m:=142) Tryz.func46 rfl rfl (nB rfl) (cS (cR ?_))
 refine aW [.slice Aa p0.fB.length ca,.slice Ab p0.fR.length cb] rfl rfl rfl (fun b1 => ?_)
 refine oY rfl (yAI rfl) (oN (eT (cS (cS (cR (oY rfl (yFA eM rfl) (oY rfl (yL 0 ky rfl rfl rfl) (oY rfl (bp (us:=[]) kg rfl) (oY rfl (gK rfl rfl) (oY rfl (yMB rfl) ?_))))))))))
 refine oJ 5 (fun tm0 => (upd (upd (upd tm0 1 (.pointer (some ⟨b1,0,none⟩))) 2 (vI 0)) 26 (.bool ((decide (24 < (p0.fB.length:Int))) || (decide (24 < (p0.fR.length:Int))))))) (fun tm0 => ?_) (fun key => ?_)
 ·refine oN (eT ?_)
  rcases iOs h with ⟨hp3,h⟩ | ⟨hp3,h⟩
  ·refine cT (vB hp3) (cS (cR (oY rfl (yAI rfl) (oN (eT (am (aa ?_)))))))
   obtain rfl:=sI h
   exact al (.inl rfl) rfl (rVt (v:=vI 2) rfl) (fun W2 hW2 => ⟨rfl,hW2.none⟩)
  ·refine cF (vB hp3) (cK (eT (cS (cS (cR (oY rfl (yAI rfl) (oN (eT (cB ?_)))))))))
   obtain ⟨u6,hl28,h⟩:=bOs h
   refine bF (fun (s:(Int × Int)) L tm => ∃ (tm0:Nat → Value),L = [ai b1 53 [.slice Aa p0.fB.length ca,.slice Ab p0.fR.length cb]] ∧ tm = (upd (upd (upd tm0 1 (.pointer (some ⟨b1,0,none⟩))) 2 (vI s.1)) 3 (vI s.2))) 0 hl28 ⟨_,rfl,(kp (kp (kp rfl)))⟩ ?_ ?_
   ·rintro s5 L tm st ⟨tm0_s5,rfl,rfl⟩ h
    unfold iU at h
    refine cS (cS (cR (oY rfl (yMI rfl) (oY rfl (yFA eM rfl) (oY rfl (yL 0 ky rfl rfl rfl) (oY rfl (bp (us:=[]) kg rfl) (oY rfl (bj rfl rfl) (oN (eT ?_)))))))))
    rcases iOs h with ⟨hp7,h⟩ | ⟨hp7,h⟩
    ·refine cT (vB hp7) (cK (eT (cS (cB (cS (cR (oY rfl (yFA eM rfl) (oY rfl (yL 0 ky rfl rfl rfl) (oY rfl (yMI rfl) ?_)))))))))
     obtain ⟨hg8,h⟩:=gOs h
     refine oY rfl (yI mF (by decide) hg8.1 hg8.2 (RdL.arg hr0_0) (eL aK rfl) rfl rfl) ?_
     refine oY rfl (yM (A:=Aa) (j:=(Int.toNat s5.2 * 3)) [vI ((rdL p0.fB s5.2).fID),vI ((rdL p0.fB s5.2).fHour),vI ((rdL p0.fB s5.2).fD)] ag_69 (Nat.succ_pos _) (RdL.arg hr0_0) rfl (bl aK hg8.1 (ah hg8.2 rfl))) ?_
     refine aE oK rfl (fun b9 => ?_)
     refine cr rfl (yS 1 [vI ((rdL p0.fB s5.2).fID),vI ((rdL p0.fB s5.2).fHour),vI ((rdL p0.fB s5.2).fD)] sz_69 rfl (nB rfl) rfl rfl rfl) (oN (eT (cS (cR (oY rfl (yFA kL rfl) (oY rfl (yL 1 aV rfl rfl rfl) ?_))))))
     obtain ⟨y10,hy11,h⟩:=bOs h
     refine oY rfl (yC [vI ((rdL p0.fB s5.2).fID),vI 1,vI 1099511627776] go rfl (fun W2 hW2 => aR ((rdL p0.fB s5.2).fID) 1 1099511627776 y10 hy11 W2 ) rfl) (oY rfl (yAB rfl) (oN (eT (cS (cR (oY rfl (yFA qb rfl) (oY rfl (yL 1 aV rfl rfl rfl) ?_)))))))
     obtain ⟨y12,hy13,h⟩:=bOs h
     refine oY rfl (yC [vI ((rdL p0.fB s5.2).fHour)] qN rfl (fun W2 hW2 => df ((rdL p0.fB s5.2).fHour) y12 hy13 W2 ) rfl) (oY rfl (yAB rfl) (oN (eT (cS (cR (oY rfl (yFA py rfl) (oY rfl (yL 1 aV rfl rfl rfl) ?_)))))))
     obtain ⟨y14,hy15,h⟩:=bOs h
     refine oY rfl (yC [vI ((rdL p0.fB s5.2).fD),vI 0,vI 9] go rfl (fun W2 hW2 => aR ((rdL p0.fB s5.2).fD) 0 9 y14 hy15 W2 ) rfl) (oY rfl (yAB rfl) (oN (eT (cS (cS (cR (oY rfl (yMB rfl) (oY rfl (bQ rfl) (oY rfl (yMB rfl) ?_)))))))))
     refine oJ 3 (fun tm0 => (upd (upd (upd (upd (upd (upd (upd (upd (upd tm0 1 (.pointer (some ⟨b1,0,none⟩))) 2 (vI s5.1)) 3 (vI s5.2)) 31 (.bool (decide (s5.2 < (p0.fB.length:Int))))) 4 (.pointer (some ⟨b9,0,none⟩))) 5 (.bool y10)) 6 (.bool y12)) 7 (.bool y14)) 53 (.bool ((!y10) || (!y12))))) (fun tm0 => ?_) (fun key => ?_)
     ·refine oY rfl (yMB rfl) ?_
      refine oJ 3 (fun tm0 => (upd (upd (upd (upd (upd (upd (upd (upd (upd tm0 1 (.pointer (some ⟨b1,0,none⟩))) 2 (vI s5.1)) 3 (vI s5.2)) 31 (.bool (decide (s5.2 < (p0.fB.length:Int))))) 4 (.pointer (some ⟨b9,0,none⟩))) 5 (.bool y10)) 6 (.bool y12)) 7 (.bool y14)) 57 (.bool (((!y10) || (!y12)) || (!y14))))) (fun tm0 => ?_) (fun key => ?_)
      ·refine oN (eT ?_)
       rcases iOs h with ⟨hp18,h⟩ | ⟨hp18,h⟩
       ·refine cT (vB hp18) (cS (cR (oY rfl (yAI rfl) (oN (eT (am (aa (ak (aa (aU 1 ?_))))))))))
        obtain rfl:=sI h
        exact ax ⟨rfl,_,rfl,(kp (kp (kp rfl)))⟩
       ·refine cF (vB hp18) (cK (eT (cS (cR (oY rfl (yAI rfl) (oN (eT (cB ?_))))))))
        obtain ⟨u21,hl25,h⟩:=bOs h
        refine bF (fun (s:(Int × Int)) L tm => ∃ (tm0:Nat → Value),L = [ai b1 53 [.slice Aa p0.fB.length ca,.slice Ab p0.fR.length cb],ai b9 69 [vI ((rdL p0.fB s5.2).fID),vI ((rdL p0.fB s5.2).fHour),vI ((rdL p0.fB s5.2).fD)]] ∧ tm = (upd (upd (upd (upd (upd (upd (upd (upd (upd (upd tm0 1 (.pointer (some ⟨b1,0,none⟩))) 2 (vI s.1)) 3 (vI s5.2)) 31 (.bool (decide (s5.2 < (p0.fB.length:Int))))) 4 (.pointer (some ⟨b9,0,none⟩))) 5 (.bool y10)) 6 (.bool y12)) 7 (.bool y14)) 57 (.bool (((!y10) || (!y12)) || (!y14)))) 8 (vI s.2))) 2 hl25 ⟨_,rfl,(kp4 (kp4 (kp (kp rfl))))⟩ ?_ ?_
        ·rintro s20 L tm st ⟨tm0_s20,rfl,rfl⟩ h
         unfold i7 at h
         refine cS (cS (cR (oY rfl (yMI rfl) (oY rfl (yMI rfl) (oY rfl (bj rfl rfl) (oN (eT ?_)))))))
         rcases iOs h with ⟨hp22,h⟩ | ⟨hp22,h⟩
         ·refine cT (vB hp22) (cK (eT (cS (cB (cS ?_)))))
          refine bh 9 cD (by kernel_rfl) (by kernel_rfl) ?_
          refine qY rfl (yFA eM rfl) (qY rfl (yL 0 ky rfl rfl rfl) (qY rfl (yMI rfl) ?_))
          obtain ⟨hg23,h⟩:=gOs h
          refine qY rfl (yI mF (by decide) hg23.1 hg23.2 (RdL.arg hr0_0) (eL aK rfl) rfl rfl) ?_
          refine qY rfl (yFR (A:=Aa) (j:=(Int.toNat s20.2 * 3)) kL rfl) (qY rfl (yR (A:=Aa) (j:=((Int.toNat s20.2 * 3) + 0)) (v:=vI ((rdL p0.fB s20.2).fID)) aV (RdL.arg hr0_0) rfl (eG aK hg23.1 (ah hg23.2 rfl) rfl)) (qY rfl (yFA kL rfl) (qY rfl (yL 1 aV rfl rfl rfl) (qY rfl (da rfl rfl) (cd (oN (eT ?_)))))))
          rcases iOs h with ⟨hp24,h⟩ | ⟨hp24,h⟩
          ·refine cT (vB hp24) (cS (cR (oY rfl (yAI rfl) (oN (eT (am (ak (aa ?_))))))))
           obtain rfl:=sI h
           exact ax ⟨rfl,_,rfl,(kp4 (kp4 (kp (kp rfl))))⟩
          ·refine cF (vB hp24) (cK (aw (eT (cR (oY rfl (yMI rfl) (oY rfl (aT rfl rfl) (oY rfl (yAI rfl) (oN ?_))))))))
           obtain rfl:=sI h
           exact eN ⟨_,rfl,(kp4 (kp4 (kp (kp rfl))))⟩
         ·refine cF (vB hp22) (aH (ag ?_))
          obtain rfl:=sI h
          exact ax ⟨rfl,_,rfl,(kp4 (kp4 (kp (kp rfl))))⟩
        ·intro e L tm hJ
         rcases u21 with u26 | u27
         ·dsimp only at h hJ
          obtain ⟨rfl,tm0_u26,rfl,rfl⟩:=hJ
          refine ⟨(by intro hc; cases hc),?_⟩
          refine ak (ak (aa (aU 1 ?_)))
          obtain rfl:=sI h
          exact ax ⟨rfl,_,rfl,(kp (kp (kp rfl)))⟩
         ·dsimp only at h hJ
          obtain ⟨rfl,tm0_u27,rfl,rfl⟩:=hJ
          refine ⟨(by intro hc; cases hc),?_⟩
          refine ac (aw (eT (cR (oY rfl (yMI rfl) (oY rfl (aT rfl rfl) (oY rfl (yAI rfl) (oN (aU 1 ?_))))))))
          obtain rfl:=sI h
          exact eN ⟨_,rfl,(kp (kp (kp rfl)))⟩
      ·rcases ao ((!y10) || (!y12)) with hp17 | hp17
       ·refine oSk (sF rfl rfl rfl rfl hp17) (oSk (sF rfl rfl rfl rfl hp17) (oY rfl (ab (vB hp17) rfl) ?_))
        exact key _ _ (keep (keep (keep (keep (keep (keep (keep (keep (keep rfl rfl) rfl) rfl) rfl) rfl) rfl) rfl) rfl) (vB (jf hp17)))
       ·refine oY (sT rfl rfl rfl rfl hp17) (yMB rfl) (oY (sT rfl rfl rfl rfl hp17) (bQ rfl) (oY rfl (ad (vB hp17) rfl) ?_))
        exact key _ _ (keep (keep (keep (keep (keep (keep (keep (keep (keep rfl rfl) rfl) rfl) rfl) rfl) rfl) rfl) rfl) (vB (jg hp17)))
     ·rcases ao (!y10) with hp16 | hp16
      ·refine oSk (sF rfl rfl rfl rfl hp16) (oSk (sF rfl rfl rfl rfl hp16) (oY rfl (ab (vB hp16) rfl) ?_))
       exact key _ _ (keep (keep (keep (keep (keep (keep (keep (keep (keep rfl rfl) rfl) rfl) rfl) rfl) rfl) rfl) rfl) (vB (jf hp16)))
      ·refine oY (sT rfl rfl rfl rfl hp16) (yMB rfl) (oY (sT rfl rfl rfl rfl hp16) (bQ rfl) (oY rfl (ad (vB hp16) rfl) ?_))
       exact key _ _ (keep (keep (keep (keep (keep (keep (keep (keep (keep rfl rfl) rfl) rfl) rfl) rfl) rfl) rfl) rfl) (vB (jg hp16)))
    ·refine cF (vB hp7) (aH (ag ?_))
     obtain rfl:=sI h
     exact ax ⟨rfl,_,rfl,(kp (kp (kp rfl)))⟩
   ·intro e L tm hJ
    rcases u6 with u29 | u30
    ·dsimp only at h hJ
     obtain ⟨rfl,tm0_u29,rfl,rfl⟩:=hJ
     refine ⟨(by intro hc; cases hc),?_⟩
     refine ak (aa ?_)
     obtain rfl:=sI h
     exact al (.inl rfl) rfl (rVt (v:=vI u29.1) rfl) (fun W2 hW2 => ⟨rfl,hW2.none⟩)
    ·dsimp only at h hJ
     obtain ⟨rfl,tm0_u30,rfl,rfl⟩:=hJ
     refine ⟨(by intro hc; cases hc),?_⟩
     refine ac (eT (cS (cS (cR (oY rfl (yAI rfl) (oN (eT (cB ?_))))))))
     obtain ⟨u33,hl62,h⟩:=bOs h
     refine bF (fun (s:(Int × Int)) L tm => ∃ (tm0:Nat → Value),L = [ai b1 53 [.slice Aa p0.fB.length ca,.slice Ab p0.fR.length cb]] ∧ tm = (upd (upd (upd tm0 1 (.pointer (some ⟨b1,0,none⟩))) 2 (vI s.1)) 9 (vI s.2))) 4 hl62 ⟨_,rfl,(kp (kp (kp rfl)))⟩ ?_ ?_
     ·rintro s32 L tm st ⟨tm0_s32,rfl,rfl⟩ h
      unfold i6 at h
      refine cS (cS (cR (oY rfl (yMI rfl) (oY rfl (yFA cn rfl) (oY rfl (yL 0 gP rfl rfl rfl) (oY rfl (bp (us:=[]) lC rfl) (oY rfl (bj rfl rfl) (oN (eT ?_)))))))))
      rcases iOs h with ⟨hp34,h⟩ | ⟨hp34,h⟩
      ·refine cT (vB hp34) (cK (eT (cS (cB (cS (cR (oY rfl (yFA cn rfl) (oY rfl (yL 0 gP rfl rfl rfl) (oY rfl (yMI rfl) ?_)))))))))
       obtain ⟨hg35,h⟩:=gOs h
       refine oY rfl (yI kC (by decide) hg35.1 hg35.2 (RdL.arg hr0_1) (eL ar rfl) rfl rfl) ?_
       refine oY rfl (yM (A:=Ab) (j:=(Int.toNat s32.2 * 5)) [vI ((rdL p0.fR s32.2).fID),vI ((rdL p0.fR s32.2).fH.fLo),vI ((rdL p0.fR s32.2).fH.fHi),vI ((rdL p0.fR s32.2).fD),vI ((rdL p0.fR s32.2).fW)] qV (Nat.succ_pos _) (RdL.arg hr0_1) rfl (bl ar hg35.1 (ah hg35.2 rfl))) ?_
       refine aE oQ rfl (fun b36 => ?_)
       refine cr rfl (yS 1 [vI ((rdL p0.fR s32.2).fID),vI ((rdL p0.fR s32.2).fH.fLo),vI ((rdL p0.fR s32.2).fH.fHi),vI ((rdL p0.fR s32.2).fD),vI ((rdL p0.fR s32.2).fW)] sz_65 rfl (nB rfl) rfl rfl rfl) (oN (eT (cS (cR (oY rfl (yFA ku rfl) (oY rfl (yL 1 aV rfl rfl rfl) ?_))))))
       obtain ⟨y37,hy38,h⟩:=bOs h
       refine oY rfl (yC [vI ((rdL p0.fR s32.2).fID),vI 1,vI 1099511627776] go rfl (fun W2 hW2 => aR ((rdL p0.fR s32.2).fID) 1 1099511627776 y37 hy38 W2 ) rfl) (oY rfl (yAB rfl) (oN (eT (cS (cR (oY rfl (yFA gX rfl) (oY rfl (yFA f0 rfl) (oY rfl (yL 1 aV rfl rfl rfl) ?_))))))))
       obtain ⟨y39,hy40,h⟩:=bOs h
       refine oY rfl (yC [vI ((rdL p0.fR s32.2).fH.fLo)] qN rfl (fun W2 hW2 => df ((rdL p0.fR s32.2).fH.fLo) y39 hy40 W2 ) rfl) (oY rfl (yAB rfl) (oN (eT (cS (cR (oY rfl (yFA gX rfl) (oY rfl (yFA eC rfl) (oY rfl (yL 1 aV rfl rfl rfl) ?_))))))))
       obtain ⟨y41,hy42,h⟩:=bOs h
       refine oY rfl (yC [vI ((rdL p0.fR s32.2).fH.fHi)] qN rfl (fun W2 hW2 => df ((rdL p0.fR s32.2).fH.fHi) y41 hy42 W2 ) rfl) (oY rfl (yAB rfl) (oN (eT (cS (cR (oY rfl (yFA p5 rfl) (oY rfl (yL 1 aV rfl rfl rfl) ?_)))))))
       obtain ⟨y43,hy44,h⟩:=bOs h
       refine oY rfl (yC [vI ((rdL p0.fR s32.2).fD),vI 0,vI 9] go rfl (fun W2 hW2 => aR ((rdL p0.fR s32.2).fD) 0 9 y43 hy44 W2 ) rfl) (oY rfl (yAB rfl) (oN (eT (cS (cR (oY rfl (yFA jc rfl) (oY rfl (yL 1 aV rfl rfl rfl) ?_)))))))
       obtain ⟨y45,hy46,h⟩:=bOs h
       refine oY rfl (yC [vI ((rdL p0.fR s32.2).fW),vI 1,vI 1000] go rfl (fun W2 hW2 => aR ((rdL p0.fR s32.2).fW) 1 1000 y45 hy46 W2 ) rfl) (oY rfl (yAB rfl) (oN (eT (cS (cS (cR (oY rfl (yMB rfl) (oY rfl (bQ rfl) (oY rfl (yMB rfl) ?_)))))))))
       refine oJ 3 (fun tm0 => (upd (upd (upd (upd (upd (upd (upd (upd (upd (upd (upd tm0 1 (.pointer (some ⟨b1,0,none⟩))) 2 (vI s32.1)) 9 (vI s32.2)) 76 (.bool (decide (s32.2 < (p0.fR.length:Int))))) 10 (.pointer (some ⟨b36,0,none⟩))) 11 (.bool y37)) 12 (.bool y39)) 13 (.bool y41)) 14 (.bool y43)) 15 (.bool y45)) 106 (.bool ((!y37) || (!y39))))) (fun tm0 => ?_) (fun key => ?_)
       ·refine oY rfl (yMB rfl) ?_
        refine oJ 3 (fun tm0 => (upd (upd (upd (upd (upd (upd (upd (upd (upd (upd (upd tm0 1 (.pointer (some ⟨b1,0,none⟩))) 2 (vI s32.1)) 9 (vI s32.2)) 76 (.bool (decide (s32.2 < (p0.fR.length:Int))))) 10 (.pointer (some ⟨b36,0,none⟩))) 11 (.bool y37)) 12 (.bool y39)) 13 (.bool y41)) 14 (.bool y43)) 15 (.bool y45)) 110 (.bool (((!y37) || (!y39)) || (!y41))))) (fun tm0 => ?_) (fun key => ?_)
        ·refine oY rfl (yMB rfl) ?_
         refine oJ 8 (fun tm0 => (upd (upd (upd (upd (upd (upd (upd (upd (upd (upd (upd tm0 1 (.pointer (some ⟨b1,0,none⟩))) 2 (vI s32.1)) 9 (vI s32.2)) 76 (.bool (decide (s32.2 < (p0.fR.length:Int))))) 10 (.pointer (some ⟨b36,0,none⟩))) 11 (.bool y37)) 12 (.bool y39)) 13 (.bool y41)) 14 (.bool y43)) 15 (.bool y45)) 119 (.bool ((((!y37) || (!y39)) || (!y41)) || (decide ((rdL p0.fR s32.2).fH.fHi < (rdL p0.fR s32.2).fH.fLo)))))) (fun tm0 => ?_) (fun key => ?_)
         ·refine oY rfl (yMB rfl) ?_
          refine oJ 3 (fun tm0 => (upd (upd (upd (upd (upd (upd (upd (upd (upd (upd (upd tm0 1 (.pointer (some ⟨b1,0,none⟩))) 2 (vI s32.1)) 9 (vI s32.2)) 76 (.bool (decide (s32.2 < (p0.fR.length:Int))))) 10 (.pointer (some ⟨b36,0,none⟩))) 11 (.bool y37)) 12 (.bool y39)) 13 (.bool y41)) 14 (.bool y43)) 15 (.bool y45)) 123 (.bool (((((!y37) || (!y39)) || (!y41)) || (decide ((rdL p0.fR s32.2).fH.fHi < (rdL p0.fR s32.2).fH.fLo))) || (!y43))))) (fun tm0 => ?_) (fun key => ?_)
          ·refine oY rfl (yMB rfl) ?_
           refine oJ 3 (fun tm0 => (upd (upd (upd (upd (upd (upd (upd (upd (upd (upd (upd tm0 1 (.pointer (some ⟨b1,0,none⟩))) 2 (vI s32.1)) 9 (vI s32.2)) 76 (.bool (decide (s32.2 < (p0.fR.length:Int))))) 10 (.pointer (some ⟨b36,0,none⟩))) 11 (.bool y37)) 12 (.bool y39)) 13 (.bool y41)) 14 (.bool y43)) 15 (.bool y45)) 127 (.bool ((((((!y37) || (!y39)) || (!y41)) || (decide ((rdL p0.fR s32.2).fH.fHi < (rdL p0.fR s32.2).fH.fLo))) || (!y43)) || (!y45))))) (fun tm0 => ?_) (fun key => ?_)
           ·refine oN (eT ?_)
            rcases iOs h with ⟨hp52,h⟩ | ⟨hp52,h⟩
            ·refine cT (vB hp52) (cS (cR (oY rfl (yAI rfl) (oN (eT (am (aa (ak (aa (aU 1 ?_))))))))))
             obtain rfl:=sI h
             exact ax ⟨rfl,_,rfl,(kp (kp (kp rfl)))⟩
            ·refine cF (vB hp52) (cK (eT (cS (cR (oY rfl (yAI rfl) (oN (eT (cB ?_))))))))
             obtain ⟨u55,hl59,h⟩:=bOs h
             refine bF (fun (s:(Int × Int)) L tm => ∃ (tm0:Nat → Value),L = [ai b1 53 [.slice Aa p0.fB.length ca,.slice Ab p0.fR.length cb],ai b36 65 [vI ((rdL p0.fR s32.2).fID),vI ((rdL p0.fR s32.2).fH.fLo),vI ((rdL p0.fR s32.2).fH.fHi),vI ((rdL p0.fR s32.2).fD),vI ((rdL p0.fR s32.2).fW)]] ∧ tm = (upd (upd (upd (upd (upd (upd (upd (upd (upd (upd (upd (upd tm0 1 (.pointer (some ⟨b1,0,none⟩))) 2 (vI s.1)) 9 (vI s32.2)) 76 (.bool (decide (s32.2 < (p0.fR.length:Int))))) 10 (.pointer (some ⟨b36,0,none⟩))) 11 (.bool y37)) 12 (.bool y39)) 13 (.bool y41)) 14 (.bool y43)) 15 (.bool y45)) 127 (.bool ((((((!y37) || (!y39)) || (!y41)) || (decide ((rdL p0.fR s32.2).fH.fHi < (rdL p0.fR s32.2).fH.fLo))) || (!y43)) || (!y45)))) 16 (vI s.2))) 6 hl59 ⟨_,rfl,(kp4 (kp4 (kp4 rfl)))⟩ ?_ ?_
             ·rintro s54 L tm st ⟨tm0_s54,rfl,rfl⟩ h
              unfold iW at h
              refine cS (cS (cR (oY rfl (yMI rfl) (oY rfl (yMI rfl) (oY rfl (bj rfl rfl) (oN (eT ?_)))))))
              rcases iOs h with ⟨hp56,h⟩ | ⟨hp56,h⟩
              ·refine cT (vB hp56) (cK (eT (cS (cB (cS ?_)))))
               refine bh 9 cD (by kernel_rfl) (by kernel_rfl) ?_
               refine qY rfl (yFA cn rfl) (qY rfl (yL 0 gP rfl rfl rfl) (qY rfl (yMI rfl) ?_))
               obtain ⟨hg57,h⟩:=gOs h
               refine qY rfl (yI kC (by decide) hg57.1 hg57.2 (RdL.arg hr0_1) (eL ar rfl) rfl rfl) ?_
               refine qY rfl (yFR (A:=Ab) (j:=(Int.toNat s54.2 * 5)) ku rfl) (qY rfl (yR (A:=Ab) (j:=((Int.toNat s54.2 * 5) + 0)) (v:=vI ((rdL p0.fR s54.2).fID)) aV (RdL.arg hr0_1) rfl (eG ar hg57.1 (ah hg57.2 rfl) rfl)) (qY rfl (yFA ku rfl) (qY rfl (yL 1 aV rfl rfl rfl) (qY rfl (da rfl rfl) (cd (oN (eT ?_)))))))
               rcases iOs h with ⟨hp58,h⟩ | ⟨hp58,h⟩
               ·refine cT (vB hp58) (cS (cR (oY rfl (yAI rfl) (oN (eT (am (ak (aa ?_))))))))
                obtain rfl:=sI h
                exact ax ⟨rfl,_,rfl,(kp4 (kp4 (kp4 rfl)))⟩
               ·refine cF (vB hp58) (cK (aw (eT (cR (oY rfl (yMI rfl) (oY rfl (aT rfl rfl) (oY rfl (yAI rfl) (oN ?_))))))))
                obtain rfl:=sI h
                exact eN ⟨_,rfl,(kp4 (kp4 (kp4 rfl)))⟩
              ·refine cF (vB hp56) (aH (ag ?_))
               obtain rfl:=sI h
               exact ax ⟨rfl,_,rfl,(kp4 (kp4 (kp4 rfl)))⟩
             ·intro e L tm hJ
              rcases u55 with u60 | u61
              ·dsimp only at h hJ
               obtain ⟨rfl,tm0_u60,rfl,rfl⟩:=hJ
               refine ⟨(by intro hc; cases hc),?_⟩
               refine ak (ak (aa (aU 1 ?_)))
               obtain rfl:=sI h
               exact ax ⟨rfl,_,rfl,(kp (kp (kp rfl)))⟩
              ·dsimp only at h hJ
               obtain ⟨rfl,tm0_u61,rfl,rfl⟩:=hJ
               refine ⟨(by intro hc; cases hc),?_⟩
               refine ac (aw (eT (cR (oY rfl (yMI rfl) (oY rfl (aT rfl rfl) (oY rfl (yAI rfl) (oN (aU 1 ?_))))))))
               obtain rfl:=sI h
               exact eN ⟨_,rfl,(kp (kp (kp rfl)))⟩
           ·rcases ao (((((!y37) || (!y39)) || (!y41)) || (decide ((rdL p0.fR s32.2).fH.fHi < (rdL p0.fR s32.2).fH.fLo))) || (!y43)) with hp51 | hp51
            ·refine oSk (sF rfl rfl rfl rfl hp51) (oSk (sF rfl rfl rfl rfl hp51) (oY rfl (ab (vB hp51) rfl) ?_))
             exact key _ _ (keep (keep (keep (keep (keep (keep (keep (keep (keep (keep (keep rfl rfl) rfl) rfl) rfl) rfl) rfl) rfl) rfl) rfl) rfl) (vB (jf hp51)))
            ·refine oY (sT rfl rfl rfl rfl hp51) (yMB rfl) (oY (sT rfl rfl rfl rfl hp51) (bQ rfl) (oY rfl (ad (vB hp51) rfl) ?_))
             exact key _ _ (keep (keep (keep (keep (keep (keep (keep (keep (keep (keep (keep rfl rfl) rfl) rfl) rfl) rfl) rfl) rfl) rfl) rfl) rfl) (vB (jg hp51)))
          ·rcases ao ((((!y37) || (!y39)) || (!y41)) || (decide ((rdL p0.fR s32.2).fH.fHi < (rdL p0.fR s32.2).fH.fLo))) with hp50 | hp50
           ·refine oSk (sF rfl rfl rfl rfl hp50) (oSk (sF rfl rfl rfl rfl hp50) (oY rfl (ab (vB hp50) rfl) ?_))
            exact key _ _ (keep (keep (keep (keep (keep (keep (keep (keep (keep (keep (keep rfl rfl) rfl) rfl) rfl) rfl) rfl) rfl) rfl) rfl) rfl) (vB (jf hp50)))
           ·refine oY (sT rfl rfl rfl rfl hp50) (yMB rfl) (oY (sT rfl rfl rfl rfl hp50) (bQ rfl) (oY rfl (ad (vB hp50) rfl) ?_))
            exact key _ _ (keep (keep (keep (keep (keep (keep (keep (keep (keep (keep (keep rfl rfl) rfl) rfl) rfl) rfl) rfl) rfl) rfl) rfl) rfl) (vB (jg hp50)))
         ·rcases ao (((!y37) || (!y39)) || (!y41)) with hp49 | hp49
          ·refine oSk (sF rfl rfl rfl rfl hp49) (oSk (sF rfl rfl rfl rfl hp49) (oSk (sF rfl rfl rfl rfl hp49) (oSk (sF rfl rfl rfl rfl hp49) (oSk (sF rfl rfl rfl rfl hp49) (oSk (sF rfl rfl rfl rfl hp49) (oSk (sF rfl rfl rfl rfl hp49) (oY rfl (ab (vB hp49) rfl) ?_)))))))
           exact key _ _ (keep (keep (keep (keep (keep (keep (keep (keep (keep (keep (keep rfl rfl) rfl) rfl) rfl) rfl) rfl) rfl) rfl) rfl) rfl) (vB (jf hp49)))
          ·refine oY (sT rfl rfl rfl rfl hp49) (yFA gX rfl) (oY (sT rfl rfl rfl rfl hp49) (yFA f0 rfl) (oY (sT rfl rfl rfl rfl hp49) (yL 1 aV rfl rfl rfl) (oY (sT rfl rfl rfl rfl hp49) (yFA gX rfl) (oY (sT rfl rfl rfl rfl hp49) (yFA eC rfl) (oY (sT rfl rfl rfl rfl hp49) (yL 1 aV rfl rfl rfl) (oY (sT rfl rfl rfl rfl hp49) (gK rfl rfl) (oY rfl (ad (vB hp49) rfl) ?_)))))))
           exact key _ _ (keep (keep (keep (keep (keep (keep (keep (keep (keep (keep (keep rfl rfl) rfl) rfl) rfl) rfl) rfl) rfl) rfl) rfl) rfl) (vB (jg hp49)))
        ·rcases ao ((!y37) || (!y39)) with hp48 | hp48
         ·refine oSk (sF rfl rfl rfl rfl hp48) (oSk (sF rfl rfl rfl rfl hp48) (oY rfl (ab (vB hp48) rfl) ?_))
          exact key _ _ (keep (keep (keep (keep (keep (keep (keep (keep (keep (keep (keep rfl rfl) rfl) rfl) rfl) rfl) rfl) rfl) rfl) rfl) rfl) (vB (jf hp48)))
         ·refine oY (sT rfl rfl rfl rfl hp48) (yMB rfl) (oY (sT rfl rfl rfl rfl hp48) (bQ rfl) (oY rfl (ad (vB hp48) rfl) ?_))
          exact key _ _ (keep (keep (keep (keep (keep (keep (keep (keep (keep (keep (keep rfl rfl) rfl) rfl) rfl) rfl) rfl) rfl) rfl) rfl) rfl) (vB (jg hp48)))
       ·rcases ao (!y37) with hp47 | hp47
        ·refine oSk (sF rfl rfl rfl rfl hp47) (oSk (sF rfl rfl rfl rfl hp47) (oY rfl (ab (vB hp47) rfl) ?_))
         exact key _ _ (keep (keep (keep (keep (keep (keep (keep (keep (keep (keep (keep rfl rfl) rfl) rfl) rfl) rfl) rfl) rfl) rfl) rfl) rfl) (vB (jf hp47)))
        ·refine oY (sT rfl rfl rfl rfl hp47) (yMB rfl) (oY (sT rfl rfl rfl rfl hp47) (bQ rfl) (oY rfl (ad (vB hp47) rfl) ?_))
         exact key _ _ (keep (keep (keep (keep (keep (keep (keep (keep (keep (keep (keep rfl rfl) rfl) rfl) rfl) rfl) rfl) rfl) rfl) rfl) rfl) (vB (jg hp47)))
      ·refine cF (vB hp34) (aH (ag ?_))
       obtain rfl:=sI h
       exact ax ⟨rfl,_,rfl,(kp (kp (kp rfl)))⟩
     ·intro e L tm hJ
      rcases u33 with u63 | u64
      ·dsimp only at h hJ
       obtain ⟨rfl,tm0_u63,rfl,rfl⟩:=hJ
       refine ⟨(by intro hc; cases hc),?_⟩
       refine ak (aa ?_)
       obtain rfl:=sI h
       exact al (.inl rfl) rfl (rVt (v:=vI u63.1) rfl) (fun W2 hW2 => ⟨rfl,hW2.none⟩)
      ·dsimp only at h hJ
       obtain ⟨rfl,tm0_u64,rfl,rfl⟩:=hJ
       refine ⟨(by intro hc; cases hc),?_⟩
       refine ac (eT (cS (cR (oY rfl (yAI rfl) (oN (eT (am ?_)))))))
       obtain rfl:=sI h
       exact al (.inl rfl) rfl (rVt (v:=vI 0) rfl) (fun W2 hW2 => ⟨rfl,hW2.none⟩)
 ·rcases ao (decide (24 < (p0.fB.length:Int))) with hp2 | hp2
  ·refine oSk (sF rfl rfl rfl rfl hp2) (oSk (sF rfl rfl rfl rfl hp2) (oSk (sF rfl rfl rfl rfl hp2) (oSk (sF rfl rfl rfl rfl hp2) (oY rfl (ab (vB hp2) rfl) ?_))))
   exact key _ _ (keep (keep (keep rfl rfl) rfl) (vB (jf hp2)))
  ·refine oY (sT rfl rfl rfl rfl hp2) (yFA cn rfl) (oY (sT rfl rfl rfl rfl hp2) (yL 0 gP rfl rfl rfl) (oY (sT rfl rfl rfl rfl hp2) (bp (us:=[]) lC rfl) (oY (sT rfl rfl rfl rfl hp2) (gK rfl rfl) (oY rfl (ad (vB hp2) rfl) ?_))))
   exact key _ _ (keep (keep (keep rfl rfl) rfl) (vB (jg hp2)))
theorem qI (p0:TY) (p1:Int) (res:Int) (h:od p0 p1 = some res) (W:World) (Aa:Option Addr) (n0_0 ca : Nat) (hn0_0:n0_0 = p0.fB.length) (hr0_0:Rd W Aa n0_0 ca (encL aG p0.fB)) (Ab:Option Addr) (n0_1 cb : Nat) (hn0_1:n0_1 = p0.fR.length) (hr0_1:Rd W Ab n0_1 cb (encL aB p0.fR)) :
  Calls Tryz.prog 98 [.agg #[.slice Aa n0_0 ca,.slice Ab n0_1 cb],vI p1].toArray W fun e W2 => e = .returned (vI res) ∧ Ext W W2 []:=by
 subst hn0_0
 subst hn0_1
 unfold od at h
 refine ae (m:=22) Tryz.func98 rfl rfl (nB rfl) (cS (cR ?_))
 refine aW [.slice Aa p0.fB.length ca,.slice Ab p0.fR.length cb] rfl rfl rfl (fun b1 => ?_)
 refine oY rfl (yAI rfl) (oN (eT (cS (cS (cR (oY rfl (yAI rfl) (oN (eT (cB ?_)))))))))
 obtain ⟨u4,hl8,h⟩:=bOs h
 refine bF (fun (s:(Int × Int)) L tm => ∃ (tm0:Nat → Value),L = [ai b1 53 [.slice Aa p0.fB.length ca,.slice Ab p0.fR.length cb]] ∧ tm = (upd (upd (upd (upd tm0 1 (vI p1)) 2 (.pointer (some ⟨b1,0,none⟩))) 4 (vI s.1)) 5 (vI s.2))) 0 hl8 ⟨_,rfl,(kp4 rfl)⟩ ?_ ?_
 ·rintro s3 L tm st ⟨tm0_s3,rfl,rfl⟩ h
  unfold mJ at h
  refine cS (cS (cR (oY rfl (yMI rfl) (oY rfl (yFA eM rfl) (oY rfl (yL 0 ky rfl rfl rfl) (oY rfl (bp (us:=[]) kg rfl) (oY rfl (bj rfl rfl) (oN (eT ?_)))))))))
  rcases iOs h with ⟨hp5,h⟩ | ⟨hp5,h⟩
  ·refine cT (vB hp5) (cK (eT (cS (cB (cS (cR (oY rfl (yFA eM rfl) (oY rfl (yL 0 ky rfl rfl rfl) (oY rfl (yMI rfl) ?_)))))))))
   obtain ⟨hg6,h⟩:=gOs h
   refine oY rfl (yI mF (by decide) hg6.1 hg6.2 (RdL.arg hr0_0) (eL aK rfl) rfl rfl) ?_
   refine oY rfl (yFR (A:=Aa) (j:=(Int.toNat s3.2 * 3)) kL rfl) (oY rfl (yR (A:=Aa) (j:=((Int.toNat s3.2 * 3) + 0)) (v:=vI ((rdL p0.fB s3.2).fID)) aV (RdL.arg hr0_0) rfl (eG aK hg6.1 (ah hg6.2 rfl) rfl)) (oY rfl (yMI rfl) (oY rfl (da rfl rfl) (oN (eT ?_)))))
   rcases iOs h with ⟨hp7,h⟩ | ⟨hp7,h⟩
   ·refine cT (vB hp7) (cS (cR (oY rfl (yMI rfl) (oY rfl (yAI rfl) (oN (eT (am (ak (aa ?_)))))))))
    obtain rfl:=sI h
    exact ax ⟨rfl,_,rfl,(kp4 rfl)⟩
   ·refine cF (vB hp7) (cK (aw (eT (cR (oY rfl (yMI rfl) (oY rfl (aT rfl rfl) (oY rfl (yAI rfl) (oN ?_))))))))
    obtain rfl:=sI h
    exact eN ⟨_,rfl,(kp4 rfl)⟩
  ·refine cF (vB hp5) (aH (ag ?_))
   obtain rfl:=sI h
   exact ax ⟨rfl,_,rfl,(kp4 rfl)⟩
 ·intro e L tm hJ
  rcases u4 with u9 | u10
  ·dsimp only at h hJ
   obtain ⟨rfl,tm0_u9,rfl,rfl⟩:=hJ
   refine ⟨(by intro hc; cases hc),?_⟩
   refine ak (aa ?_)
   obtain rfl:=sI h
   exact al (.inl rfl) rfl (rVt (v:=vI u9.1) rfl) (fun W2 hW2 => ⟨rfl,hW2.none⟩)
  ·dsimp only at h hJ
   obtain ⟨rfl,tm0_u10,rfl,rfl⟩:=hJ
   refine ⟨(by intro hc; cases hc),?_⟩
   refine ac (eT (cS (cR (oY rfl (yAI rfl) (oN (eT (am ?_)))))))
   obtain rfl:=sI h
   exact al (.inl rfl) rfl (rVt (v:=vI (-1)) rfl) (fun W2 hW2 => ⟨rfl,hW2.none⟩)
theorem jb (p0:TY) (p1:Int) (p2:Int) (res:Bool) (h:iQ p0 p1 p2 = some res) (W:World) (Aa:Option Addr) (n0_0 ca : Nat) (hn0_0:n0_0 = p0.fB.length) (hr0_0:Rd W Aa n0_0 ca (encL aG p0.fB)) (Ab:Option Addr) (n0_1 cb : Nat) (hn0_1:n0_1 = p0.fR.length) (hr0_1:Rd W Ab n0_1 cb (encL aB p0.fR)) :
  Calls Tryz.prog 104 [.agg #[.slice Aa n0_0 ca,.slice Ab n0_1 cb],vI p1,vI p2].toArray W fun e W2 => e = .returned (.bool res) ∧ Ext W W2 []:=by
 subst hn0_0
 subst hn0_1
 unfold iQ at h
 refine ae (m:=45) Tryz.func104 rfl rfl (nB rfl) (cS (cR ?_))
 refine aW [.slice Aa p0.fB.length ca,.slice Ab p0.fR.length cb] rfl rfl rfl (fun b1 => ?_)
 refine oY rfl (yAB rfl) (oN (eT (cS ?_)))
 refine bh 22 cD (by kernel_rfl) (by kernel_rfl) ?_
 refine qY rfl (yFA eM rfl) (qY rfl (yL 0 ky rfl rfl rfl) (qY rfl (yMI rfl) ?_))
 obtain ⟨hg2,h⟩:=gOs h
 refine qY rfl (yI mF (by decide) hg2.1 hg2.2 (RdL.arg hr0_0) (eL aK rfl) rfl rfl) ?_
 refine qY rfl (yFR (A:=Aa) (j:=(Int.toNat p2 * 3)) qb rfl) (qY rfl (yR (A:=Aa) (j:=((Int.toNat p2 * 3) + 1)) (v:=vI ((rdL p0.fB p2).fHour)) aV (RdL.arg hr0_0) rfl (eG aK hg2.1 (ah hg2.2 rfl) rfl)) (qY rfl (yFA cn rfl) (qY rfl (yL 0 gP rfl rfl rfl) (qY rfl (yMI rfl) ?_))))
 obtain ⟨hg3,h⟩:=gOs h
 refine qY rfl (yI kC (by decide) hg3.1 hg3.2 (RdL.arg hr0_1) (eL ar rfl) rfl rfl) ?_
 refine qY rfl (yFR (A:=Ab) (j:=(Int.toNat p1 * 5)) gX rfl) (qY rfl (yFR (A:=Ab) (j:=((Int.toNat p1 * 5) + 1)) f0 rfl) (qY rfl (yR (A:=Ab) (j:=(((Int.toNat p1 * 5) + 1) + 0)) (v:=vI ((rdL p0.fR p1).fH.fLo)) aV (RdL.arg hr0_1) rfl (eG (q:=1) ar hg3.1 (ah hg3.2 rfl) rfl)) (qY rfl (yFA cn rfl) (qY rfl (yL 0 gP rfl rfl rfl) (qY rfl (yMI rfl) ?_)))))
 obtain ⟨hg4,h⟩:=gOs h
 refine qY rfl (yI kC (by decide) hg4.1 hg4.2 (RdL.arg hr0_1) (eL ar rfl) rfl rfl) ?_
 refine qY rfl (yFR (A:=Ab) (j:=(Int.toNat p1 * 5)) gX rfl) (qY rfl (yFR (A:=Ab) (j:=((Int.toNat p1 * 5) + 1)) eC rfl) (qY rfl (yR (A:=Ab) (j:=(((Int.toNat p1 * 5) + 1) + 1)) (v:=vI ((rdL p0.fR p1).fH.fHi)) aV (RdL.arg hr0_1) rfl (eG (q:=2) ar hg4.1 (ah hg4.2 rfl) rfl)) ?_))
 obtain ⟨y5,hy6,h⟩:=bOs h
 refine qY rfl (yC [vI ((rdL p0.fB p2).fHour),vI ((rdL p0.fR p1).fH.fLo),vI ((rdL p0.fR p1).fH.fHi)] go rfl (fun W2 hW2 => aR ((rdL p0.fB p2).fHour) ((rdL p0.fR p1).fH.fLo) ((rdL p0.fR p1).fH.fHi) y5 hy6 W2 ) rfl) (qY rfl (yAB rfl) (cd (oN (eT (cS ?_)))))
 refine bh 17 cD (by kernel_rfl) (by kernel_rfl) ?_
 refine qY rfl (yMB rfl) (qY rfl (yMB rfl) ?_)
 obtain ⟨b8,hb9,h⟩:=bOs h
 refine qJ 14 (fun tm0 => (upd (upd tm0 6 (.bool false)) 44 (.bool b8))) (fun tm0 => ?_) (fun key => ?_)
 ·refine qY rfl (yAB rfl) (cd (oN (eT (am ?_))))
  obtain rfl:=sI h
  exact al (.inl rfl) rfl (rVt (v:=.bool b8) rfl) (fun W2 hW2 => ⟨rfl,hW2.none⟩)
 ·clear h; rcases iOs hb9 with ⟨hp7,h⟩ | ⟨hp7,h⟩
  ·refine qY (sT rfl rfl rfl rfl hp7) (yFA eM rfl) (qY (sT rfl rfl rfl rfl hp7) (yL 0 ky rfl rfl rfl) (qY (sT rfl rfl rfl rfl hp7) (yMI rfl) ?_))
   obtain ⟨hg10,h⟩:=gOs h
   refine qY (sT rfl rfl rfl rfl hp7) (yI mF (by decide) hg10.1 hg10.2 (RdL.arg hr0_0) (eL aK rfl) rfl rfl) ?_
   refine qY (sT rfl rfl rfl rfl hp7) (yFR (A:=Aa) (j:=(Int.toNat p2 * 3)) py rfl) (qY (sT rfl rfl rfl rfl hp7) (yR (A:=Aa) (j:=((Int.toNat p2 * 3) + 2)) (v:=vI ((rdL p0.fB p2).fD)) aV (RdL.arg hr0_0) rfl (eG aK hg10.1 (ah hg10.2 rfl) rfl)) (qY (sT rfl rfl rfl rfl hp7) (yFA cn rfl) (qY (sT rfl rfl rfl rfl hp7) (yL 0 gP rfl rfl rfl) (qY (sT rfl rfl rfl rfl hp7) (yMI rfl) ?_))))
   obtain ⟨hg11,h⟩:=gOs h
   refine qY (sT rfl rfl rfl rfl hp7) (yI kC (by decide) hg11.1 hg11.2 (RdL.arg hr0_1) (eL ar rfl) rfl rfl) ?_
   refine qY (sT rfl rfl rfl rfl hp7) (yFR (A:=Ab) (j:=(Int.toNat p1 * 5)) p5 rfl) (qY (sT rfl rfl rfl rfl hp7) (yR (A:=Ab) (j:=((Int.toNat p1 * 5) + 3)) (v:=vI ((rdL p0.fR p1).fD)) aV (RdL.arg hr0_1) rfl (eG ar hg11.1 (ah hg11.2 rfl) rfl)) (qY (sT rfl rfl rfl rfl hp7) (oR rfl rfl) (qY rfl (ab (vB hp7) rfl) ?_)))
   obtain rfl:=sI h
   exact key _ _ (kp (kp rfl))
  ·refine av (sF rfl rfl rfl rfl hp7) (av (sF rfl rfl rfl rfl hp7) (av (sF rfl rfl rfl rfl hp7) (av (sF rfl rfl rfl rfl hp7) (av (sF rfl rfl rfl rfl hp7) (av (sF rfl rfl rfl rfl hp7) (av (sF rfl rfl rfl rfl hp7) (av (sF rfl rfl rfl rfl hp7) (av (sF rfl rfl rfl rfl hp7) (av (sF rfl rfl rfl rfl hp7) (av (sF rfl rfl rfl rfl hp7) (av (sF rfl rfl rfl rfl hp7) (av (sF rfl rfl rfl rfl hp7) (qY rfl (ad (vB hp7) rfl) ?_)))))))))))))
   obtain rfl:=sI h
   exact key _ _ (kp (kp rfl))
theorem pA (p0:TY) (p1:(List Int)) (p2:Int) (res:Bool) (h:mw p0 p1 p2 = some res) (W:World) (Aa:Option Addr) (n0_0 ca : Nat) (hn0_0:n0_0 = p0.fB.length) (hr0_0:Rd W Aa n0_0 ca (encL aG p0.fB)) (Ab:Option Addr) (n0_1 cb : Nat) (hn0_1:n0_1 = p0.fR.length) (hr0_1:Rd W Ab n0_1 cb (encL aB p0.fR)) (Ac:Option Addr) (n1_0 cc : Nat) (hn1_0:n1_0 = p1.length) (hr1_0:Rd W Ac n1_0 cc (encL cI p1)) :
  Calls Tryz.prog 105 [.agg #[.slice Aa n0_0 ca,.slice Ab n0_1 cb],.slice Ac n1_0 cc,vI p2].toArray W fun e W2 => e = .returned (.bool res) ∧ Ext W W2 []:=by
 subst hn0_0
 subst hn0_1
 subst hn1_0
 unfold mw at h
 refine ae (m:=68) Tryz.func105 rfl rfl (nB rfl) (cS (cR ?_))
 refine aW [.slice Aa p0.fB.length ca,.slice Ab p0.fR.length cb] rfl rfl rfl (fun b1 => ?_)
 refine oY rfl (yAB rfl) (oN (eT (cS (cS (cR (oY rfl (yMS rfl) (oY rfl (bp (us:=[]) cV rfl) (oY rfl (yFA cn rfl) (oY rfl (yL 0 gP rfl rfl rfl) (oY rfl (bp (us:=[]) lC rfl) (oY rfl (dl rfl rfl) (oN (eT ?_)))))))))))))
 rcases iOs h with ⟨hp2,h⟩ | ⟨hp2,h⟩
 ·refine cT (vB hp2) (cS (cR (oY rfl (yAB rfl) (oN (eT (am (aa ?_)))))))
  obtain rfl:=sI h
  exact al (.inl rfl) rfl (rVt (v:=.bool false) rfl) (fun W2 hW2 => ⟨rfl,hW2.none⟩)
 ·refine cF (vB hp2) (cK (eT (cS (cR (oY rfl (yAI rfl) (oN (eT (cS (cS (cR (oY rfl (yAI rfl) (oN (eT (cB ?_))))))))))))))
  obtain ⟨u5,hl27,h⟩:=bOs h
  refine bF (fun (s:(Bool × Int × Int)) L tm => ∃ (tm0:Nat → Value),L = [ai b1 53 [.slice Aa p0.fB.length ca,.slice Ab p0.fR.length cb]] ∧ tm = (upd (upd (upd (upd (upd (upd tm0 1 (.slice Ac p1.length cc)) 2 (vI p2)) 3 (.pointer (some ⟨b1,0,none⟩))) 6 (.bool s.1)) 7 (vI s.2.1)) 8 (vI s.2.2))) 0 hl27 ⟨_,rfl,(kp4 (kp (kp rfl)))⟩ ?_ ?_
  ·rintro s4 L tm st ⟨tm0_s4,rfl,rfl⟩ h
   unfold l4 at h
   refine cS (cS (cR (oY rfl (yMI rfl) (oY rfl (yMS rfl) (oY rfl (bp (us:=[]) cV rfl) (oY rfl (bj rfl rfl) (oN (eT ?_))))))))
   rcases iOs h with ⟨hp6,h⟩ | ⟨hp6,h⟩
   ·refine cT (vB hp6) (cK (eT (cS (cB (cS (cS (cR (oY rfl (yMS rfl) (oY rfl (yMI rfl) ?_)))))))))
    obtain ⟨hg7,h⟩:=gOs h
    refine oY rfl (yI bZ (by decide) hg7.1 hg7.2 (RdL.arg hr1_0) (eL aA rfl) rfl rfl) ?_
    refine oY rfl (yR (A:=Ac) (j:=(Int.toNat s4.2.2 * 1)) (v:=vI (rdL p1 s4.2.2)) aV (RdL.arg hr1_0) rfl (aC aA hg7.1 (ah hg7.2 rfl) rfl)) (oY rfl (da rfl rfl) (oN (eT ?_)))
    rcases iOs h with ⟨hp8,h⟩ | ⟨hp8,h⟩
    ·refine cT (vB hp8) (aH (ag (ac (eT (cR (oY rfl (yMI rfl) (oY rfl (aT rfl rfl) (oY rfl (yAI rfl) (oN ?_)))))))))
     obtain rfl:=sI h
     exact eN ⟨_,rfl,(kp4 (kp (kp rfl)))⟩
    ·refine cF (vB hp8) (cK (eT (cS ?_)))
     refine bh 7 cD (by kernel_rfl) (by kernel_rfl) ?_
     refine qY rfl (yN 0 [.slice Aa p0.fB.length ca,.slice Ab p0.fR.length cb] dp rfl rfl rfl) (qY rfl (yMS rfl) (qY rfl (yMI rfl) ?_))
     obtain ⟨hg9,h⟩:=gOs h
     refine qY rfl (yI bZ (by decide) hg9.1 hg9.2 (RdL.arg hr1_0) (eL aA rfl) rfl rfl) ?_
     refine qY rfl (yR (A:=Ac) (j:=(Int.toNat s4.2.2 * 1)) (v:=vI (rdL p1 s4.2.2)) aV (RdL.arg hr1_0) rfl (aC aA hg9.1 (ah hg9.2 rfl) rfl)) ?_
     obtain ⟨y10,hy11,h⟩:=bOs h
     refine qY rfl (yC [.agg #[.slice Aa p0.fB.length ca,.slice Ab p0.fR.length cb],vI (rdL p1 s4.2.2)] go_98 rfl (fun W2 hW2 => qI p0 (rdL p1 s4.2.2) y10 hy11 W2 Aa p0.fB.length ca rfl ((RdL.arg hr0_0) W2 hW2) Ab p0.fR.length cb rfl ((RdL.arg hr0_1) W2 hW2)) rfl) (qY rfl (yAI rfl) (cd (oN (eT (cS (cS (cR (oY rfl (yMI rfl) (oY rfl (bj rfl rfl) (oN (eT ?_)))))))))))
     rcases iOs h with ⟨hp12,h⟩ | ⟨hp12,h⟩
     ·refine cT (vB hp12) (cS (cR (oY rfl (yAB rfl) (oN (eT (am (aa (ak (aa ?_)))))))))
      obtain rfl:=sI h
      exact ax ⟨rfl,_,rfl,(kp4 (kp (kp rfl)))⟩
     ·refine cF (vB hp12) (cK (eT (cS (cR (oY rfl (yN 0 [.slice Aa p0.fB.length ca,.slice Ab p0.fR.length cb] dp rfl rfl rfl) (oY rfl (yMI rfl) (oY rfl (yMI rfl) ?_)))))))
      obtain ⟨y13,hy14,h⟩:=bOs h
      refine oY rfl (yC [.agg #[.slice Aa p0.fB.length ca,.slice Ab p0.fR.length cb],vI s4.2.2,vI y10] go_104 rfl (fun W2 hW2 => jb p0 s4.2.2 y10 y13 hy14 W2 Aa p0.fB.length ca rfl ((RdL.arg hr0_0) W2 hW2) Ab p0.fR.length cb rfl ((RdL.arg hr0_1) W2 hW2)) rfl) (oY rfl (yAB rfl) (oN (eT (cS (cS (cR (oY rfl (yMB rfl) (oY rfl (bQ rfl) (oN (eT ?_))))))))))
      rcases iOs h with ⟨hp15,h⟩ | ⟨hp15,h⟩
      ·refine cT (vB hp15) (cS (cR (oY rfl (yAB rfl) (oN (eT (am (aa (ak (aa ?_)))))))))
       obtain rfl:=sI h
       exact ax ⟨rfl,_,rfl,(kp4 (kp (kp rfl)))⟩
      ·refine cF (vB hp15) (cK (eT (cS (cS (cR (oY rfl (yAI rfl) (oN (eT (cB ?_)))))))))
       obtain ⟨u18,hl23,h⟩:=bOs h
       refine bF (fun (s:(Bool × Int)) L tm => ∃ (tm0:Nat → Value),L = [ai b1 53 [.slice Aa p0.fB.length ca,.slice Ab p0.fR.length cb]] ∧ tm = (upd (upd (upd (upd (upd (upd (upd (upd (upd (upd (upd (upd (upd tm0 1 (.slice Ac p1.length cc)) 2 (vI p2)) 3 (.pointer (some ⟨b1,0,none⟩))) 6 (.bool s.1)) 7 (vI s4.2.1)) 8 (vI s4.2.2)) 21 (.bool (decide (s4.2.2 < (p1.length:Int))))) 28 (.bool ((rdL p1 s4.2.2) == 0))) 9 (vI y10)) 36 (.bool (decide (y10 < 0)))) 10 (.bool y13)) 42 (.bool (!y13))) 11 (vI s.2))) 2 hl23 ⟨_,rfl,(kp4 (kp4 (kp4 (kp rfl))))⟩ ?_ ?_
       ·rintro s17 L tm st ⟨tm0_s17,rfl,rfl⟩ h
        unfold mj at h
        refine cS (cS (cR (oY rfl (yMI rfl) (oY rfl (yMI rfl) (oY rfl (bj rfl rfl) (oN (eT ?_)))))))
        rcases iOs h with ⟨hp19,h⟩ | ⟨hp19,h⟩
        ·refine cT (vB hp19) (cK (eT (cS (cB (cS ?_)))))
         refine bh 9 cD (by kernel_rfl) (by kernel_rfl) ?_
         refine qY rfl (yMS rfl) (qY rfl (yMI rfl) ?_)
         obtain ⟨hg20,h⟩:=gOs h
         refine qY rfl (yI bZ (by decide) hg20.1 hg20.2 (RdL.arg hr1_0) (eL aA rfl) rfl rfl) ?_
         refine qY rfl (yR (A:=Ac) (j:=(Int.toNat s17.2 * 1)) (v:=vI (rdL p1 s17.2)) aV (RdL.arg hr1_0) rfl (aC aA hg20.1 (ah hg20.2 rfl) rfl)) (qY rfl (yMS rfl) (qY rfl (yMI rfl) ?_))
         obtain ⟨hg21,h⟩:=gOs h
         refine qY rfl (yI bZ (by decide) hg21.1 hg21.2 (RdL.arg hr1_0) (eL aA rfl) rfl rfl) ?_
         refine qY rfl (yR (A:=Ac) (j:=(Int.toNat s4.2.2 * 1)) (v:=vI (rdL p1 s4.2.2)) aV (RdL.arg hr1_0) rfl (aC aA hg21.1 (ah hg21.2 rfl) rfl)) (qY rfl (da rfl rfl) (cd (oN (eT ?_))))
         rcases iOs h with ⟨hp22,h⟩ | ⟨hp22,h⟩
         ·refine cT (vB hp22) (cS (cR (oY rfl (yAB rfl) (oN (eT (am (ak (aa ?_))))))))
          obtain rfl:=sI h
          exact ax ⟨rfl,_,rfl,(kp4 (kp4 (kp4 (kp rfl))))⟩
         ·refine cF (vB hp22) (cK (aw (eT (cR (oY rfl (yMI rfl) (oY rfl (aT rfl rfl) (oY rfl (yAI rfl) (oN ?_))))))))
          obtain rfl:=sI h
          exact eN ⟨_,rfl,(kp4 (kp4 (kp4 (kp rfl))))⟩
        ·refine cF (vB hp19) (aH (ag ?_))
         obtain rfl:=sI h
         exact ax ⟨rfl,_,rfl,(kp4 (kp4 (kp4 (kp rfl))))⟩
       ·intro e L tm hJ
        rcases u18 with u24 | u25
        ·dsimp only at h hJ
         obtain ⟨rfl,tm0_u24,rfl,rfl⟩:=hJ
         refine ⟨(by intro hc; cases hc),?_⟩
         refine ak (aa (ak (aa ?_)))
         obtain rfl:=sI h
         exact ax ⟨rfl,_,rfl,(kp4 (kp (kp rfl)))⟩
        ·dsimp only at h hJ
         obtain ⟨rfl,tm0_u25,rfl,rfl⟩:=hJ
         refine ⟨(by intro hc; cases hc),?_⟩
         refine ac (eT (cR (oY rfl (yMI rfl) (oY rfl (yFA cn rfl) (oY rfl (yL 0 gP rfl rfl rfl) (oY rfl (yMI rfl) ?_))))))
         obtain ⟨hg26,h⟩:=gOs h
         refine oY rfl (yI kC (by decide) hg26.1 hg26.2 (RdL.arg hr0_1) (eL ar rfl) rfl rfl) ?_
         refine oY rfl (yFR (A:=Ab) (j:=(Int.toNat s4.2.2 * 5)) jc rfl) (oY rfl (yR (A:=Ab) (j:=((Int.toNat s4.2.2 * 5) + 4)) (v:=vI ((rdL p0.fR s4.2.2).fW)) aV (RdL.arg hr0_1) rfl (eG ar hg26.1 (ah hg26.2 rfl) rfl)) (oY rfl (aT rfl rfl) (oY rfl (yAI rfl) (oN (aw (eT (cR (oY rfl (yMI rfl) (oY rfl (aT rfl rfl) (oY rfl (yAI rfl) (oN ?_)))))))))))
         obtain rfl:=sI h
         exact eN ⟨_,rfl,(kp4 (kp (kp rfl)))⟩
   ·refine cF (vB hp6) (aH (ag ?_))
    obtain rfl:=sI h
    exact ax ⟨rfl,_,rfl,(kp4 (kp (kp rfl)))⟩
  ·intro e L tm hJ
   rcases u5 with u28 | u29
   ·dsimp only at h hJ
    obtain ⟨rfl,tm0_u28,rfl,rfl⟩:=hJ
    refine ⟨(by intro hc; cases hc),?_⟩
    refine ak (aa ?_)
    obtain rfl:=sI h
    exact al (.inl rfl) rfl (rVt (v:=.bool u28.1) rfl) (fun W2 hW2 => ⟨rfl,hW2.none⟩)
   ·dsimp only at h hJ
    obtain ⟨rfl,tm0_u29,rfl,rfl⟩:=hJ
    refine ⟨(by intro hc; cases hc),?_⟩
    refine ac (eT (cS (cR (oY rfl (yMI rfl) (oY rfl (yMI rfl) (oY rfl (da rfl rfl) (oY rfl (yAB rfl) (oN (eT (am ?_))))))))))
    obtain rfl:=sI h
    exact al (.inl rfl) rfl (rVt (v:=.bool (u29.2.1 == p2)) rfl) (fun W2 hW2 => ⟨rfl,hW2.none⟩)
end Go.Proofs.YthndghnkebboaaaGreat
set_option maxHeartbeats 4000000
set_option maxRecDepth 100000
namespace Go.Proofs.YthndghnkebboaaaGreat
open Go.RowKit (Below)
attribute [local irreducible] OX QX CX EX OpY Calls CallsIn
theorem ns (p0:TY) (p1:(List Int)) (res:Int) (h:kK p0 p1 = some res) (W:World) (Aa:Option Addr) (n0_0 ca : Nat) (hn0_0:n0_0 = p0.fB.length) (hr0_0:Rd W Aa n0_0 ca (encL aG p0.fB)) (Ab:Option Addr) (n0_1 cb : Nat) (hn0_1:n0_1 = p0.fR.length) (hr0_1:Rd W Ab n0_1 cb (encL aB p0.fR)) (Ac:Option Addr) (n1_0 cc : Nat) (hn1_0:n1_0 = p1.length) (hr1_0:Rd W Ac n1_0 cc (encL cI p1)) :
  Calls Tryz.prog 106 [.agg #[.slice Aa n0_0 ca,.slice Ab n0_1 cb],.slice Ac n1_0 cc].toArray W fun e W2 => e = .returned (vI res) ∧ Ext W W2 []:=by
 subst hn0_0
 subst hn0_1
 subst hn1_0
 unfold kK at h
 refine ae (m:=96) Tryz.func106 rfl rfl (nB rfl) (cS (cR ?_))
 refine aW [.slice Aa p0.fB.length ca,.slice Ab p0.fR.length cb] rfl rfl rfl (fun b1 => ?_)
 refine oY rfl (yAI rfl) (oN (eT (cS (cS (cR (oY rfl (yMS rfl) (oY rfl (bp (us:=[]) cV rfl) (oY rfl (yFA eM rfl) (oY rfl (yL 0 ky rfl rfl rfl) (oY rfl (bp (us:=[]) kg rfl) (oY rfl (dl rfl rfl) (oN (eT ?_)))))))))))))
 rcases iOs h with ⟨hp2,h⟩ | ⟨hp2,h⟩
 ·refine cT (vB hp2) (cS (cR (oY rfl (yAI rfl) (oN (eT (am (aa ?_)))))))
  obtain rfl:=sI h
  exact al (.inl rfl) rfl (rVt (v:=vI (-1)) rfl) (fun W2 hW2 => ⟨rfl,hW2.none⟩)
 ·refine cF (vB hp2) (cK (eT (cS (cR (oY rfl (yAI rfl) (oN (eT (cS (cS (cR (oY rfl (yAI rfl) (oN (eT (cB ?_))))))))))))))
  obtain ⟨u5,hl12,h⟩:=bOs h
  refine bF (fun (s:(Int × Int × Int)) L tm => ∃ (tm0:Nat → Value),L = [ai b1 53 [.slice Aa p0.fB.length ca,.slice Ab p0.fR.length cb]] ∧ tm = (upd (upd (upd (upd (upd tm0 1 (.slice Ac p1.length cc)) 2 (.pointer (some ⟨b1,0,none⟩))) 4 (vI s.1)) 5 (vI s.2.1)) 6 (vI s.2.2))) 0 hl12 ⟨_,rfl,(kp4 (kp rfl))⟩ ?_ ?_
  ·rintro s4 L tm st ⟨tm0_s4,rfl,rfl⟩ h
   unfold kj at h
   refine cS (cS (cR (oY rfl (yMI rfl) (oY rfl (yMS rfl) (oY rfl (bp (us:=[]) cV rfl) (oY rfl (bj rfl rfl) (oN (eT ?_))))))))
   rcases iOs h with ⟨hp6,h⟩ | ⟨hp6,h⟩
   ·refine cT (vB hp6) (cK (eT (cS (cB (cS (cR (oY rfl (yMS rfl) (oY rfl (yMI rfl) ?_))))))))
    obtain ⟨hg7,h⟩:=gOs h
    refine oY rfl (yI bZ (by decide) hg7.1 hg7.2 (RdL.arg hr1_0) (eL aA rfl) rfl rfl) ?_
    refine oY rfl (yR (A:=Ac) (j:=(Int.toNat s4.2.2 * 1)) (v:=vI (rdL p1 s4.2.2)) aV (RdL.arg hr1_0) rfl (aC aA hg7.1 (ah hg7.2 rfl) rfl)) ?_
    obtain ⟨y8,hy9,h⟩:=bOs h
    refine oY rfl (yC [vI (rdL p1 s4.2.2),vI 0,vI 1000] go rfl (fun W2 hW2 => aR (rdL p1 s4.2.2) 0 1000 y8 hy9 W2 ) rfl) (oY rfl (yAB rfl) (oN (eT (cS (cS (cR (oY rfl (yMB rfl) (oY rfl (bQ rfl) (oN (eT ?_))))))))))
    rcases iOs h with ⟨hp10,h⟩ | ⟨hp10,h⟩
    ·refine cT (vB hp10) (cS (cR (oY rfl (yAI rfl) (oN (eT (am (aa (ak (aa ?_)))))))))
     obtain rfl:=sI h
     exact ax ⟨rfl,_,rfl,(kp4 (kp rfl))⟩
    ·refine cF (vB hp10) (cK (eT (cR (oY rfl (yMI rfl) (oY rfl (yMS rfl) (oY rfl (yMI rfl) ?_))))))
     obtain ⟨hg11,h⟩:=gOs h
     refine oY rfl (yI bZ (by decide) hg11.1 hg11.2 (RdL.arg hr1_0) (eL aA rfl) rfl rfl) ?_
     refine oY rfl (yR (A:=Ac) (j:=(Int.toNat s4.2.2 * 1)) (v:=vI (rdL p1 s4.2.2)) aV (RdL.arg hr1_0) rfl (aC aA hg11.1 (ah hg11.2 rfl) rfl)) (oY rfl (aT rfl rfl) (oY rfl (yAI rfl) (oN (aw (eT (cR (oY rfl (yMI rfl) (oY rfl (aT rfl rfl) (oY rfl (yAI rfl) (oN ?_))))))))))
     obtain rfl:=sI h
     exact eN ⟨_,rfl,(kp4 (kp rfl))⟩
   ·refine cF (vB hp6) (aH (ag ?_))
    obtain rfl:=sI h
    exact ax ⟨rfl,_,rfl,(kp4 (kp rfl))⟩
  ·intro e L tm hJ
   rcases u5 with u13 | u14
   ·dsimp only at h hJ
    obtain ⟨rfl,tm0_u13,rfl,rfl⟩:=hJ
    refine ⟨(by intro hc; cases hc),?_⟩
    refine ak (aa ?_)
    obtain rfl:=sI h
    exact al (.inl rfl) rfl (rVt (v:=vI u13.1) rfl) (fun W2 hW2 => ⟨rfl,hW2.none⟩)
   ·dsimp only at h hJ
    obtain ⟨rfl,tm0_u14,rfl,rfl⟩:=hJ
    refine ⟨(by intro hc; cases hc),?_⟩
    refine ac (eT (cS (cS (cR (oY rfl (yAI rfl) (oN (eT (cB ?_))))))))
    obtain ⟨u17,hl39,h⟩:=bOs h
    refine ba (fun (s:(Int × Int)) L tm => ∃ (tm0:Nat → Value),L = [ai b1 53 [.slice Aa p0.fB.length ca,.slice Ab p0.fR.length cb]] ∧ tm = (upd (upd (upd (upd (upd tm0 1 (.slice Ac p1.length cc)) 2 (.pointer (some ⟨b1,0,none⟩))) 4 (vI u14.1)) 5 (vI s.1)) 8 (vI s.2))) 2 hl39 ⟨_,rfl,(kp4 (kp rfl))⟩ ?_ ?_
    ·rintro s16 L tm st ⟨tm0_s16,rfl,rfl⟩ h
     unfold km at h
     refine cS (cS (cR (oY rfl (yMI rfl) (oY rfl (yFA cn rfl) (oY rfl (yL 0 gP rfl rfl rfl) (oY rfl (bp (us:=[]) lC rfl) (oY rfl (bj rfl rfl) (oN (eT ?_)))))))))
     rcases iOs h with ⟨hp18,h⟩ | ⟨hp18,h⟩
     ·refine cT (vB hp18) (cK (eT (cS (cB (cS (cR (oY rfl (yFA cn rfl) (oY rfl (yL 0 gP rfl rfl rfl) (oY rfl (yMI rfl) ?_)))))))))
      obtain ⟨hg19,h⟩:=gOs h
      refine oY rfl (yI kC (by decide) hg19.1 hg19.2 (RdL.arg hr0_1) (eL ar rfl) rfl rfl) ?_
      refine oY rfl (yFR (A:=Ab) (j:=(Int.toNat s16.2 * 5)) jc rfl) (oY rfl (yR (A:=Ab) (j:=((Int.toNat s16.2 * 5) + 4)) (v:=vI ((rdL p0.fR s16.2).fW)) aV (RdL.arg hr0_1) rfl (eG ar hg19.1 (ah hg19.2 rfl) rfl)) (oY rfl (yAI rfl) (oN (eT (cS (cS (cR (oY rfl (yAI rfl) (oN (eT (cB ?_)))))))))))
      obtain ⟨u22,hl28,h⟩:=bOs h
      refine ba (fun (s:(Int × Int)) L tm => ∃ (tm0:Nat → Value),L = [ai b1 53 [.slice Aa p0.fB.length ca,.slice Ab p0.fR.length cb]] ∧ tm = (upd (upd (upd (upd (upd (upd (upd (upd tm0 1 (.slice Ac p1.length cc)) 2 (.pointer (some ⟨b1,0,none⟩))) 4 (vI u14.1)) 5 (vI s16.1)) 8 (vI s16.2)) 44 (.bool (decide (s16.2 < (p0.fR.length:Int))))) 9 (vI s.1)) 10 (vI s.2))) 4 hl28 ⟨_,rfl,(kp4 (kp4 rfl))⟩ ?_ ?_
      ·rintro s21 L tm st ⟨tm0_s21,rfl,rfl⟩ h
       unfold kD at h
       refine cS (cS (cR (oY rfl (yMI rfl) (oY rfl (yMS rfl) (oY rfl (bp (us:=[]) cV rfl) (oY rfl (bj rfl rfl) (oN (eT ?_))))))))
       rcases iOs h with ⟨hp23,h⟩ | ⟨hp23,h⟩
       ·refine cT (vB hp23) (cK (eT (cS (cB (cS (cR (oY rfl (yN 0 [.slice Aa p0.fB.length ca,.slice Ab p0.fR.length cb] dp rfl rfl rfl) (oY rfl (yMI rfl) (oY rfl (yMI rfl) ?_)))))))))
        obtain ⟨y24,hy25,h⟩:=bOs h
        refine oY rfl (yC [.agg #[.slice Aa p0.fB.length ca,.slice Ab p0.fR.length cb],vI s16.2,vI s21.2] go_104 rfl (fun W2 hW2 => jb p0 s16.2 s21.2 y24 hy25 W2 Aa p0.fB.length ca rfl ((RdL.arg hr0_0) W2 hW2) Ab p0.fR.length cb rfl ((RdL.arg hr0_1) W2 hW2)) rfl) (oY rfl (yAB rfl) (oN (eT (cS (cR (oY rfl (yMB rfl) (oN (eT ?_))))))))
        rcases iOs h with ⟨hp26,h⟩ | ⟨hp26,h⟩
        ·refine cT (vB hp26) (cR (oY rfl (yMI rfl) (oY rfl (yMS rfl) (oY rfl (yMI rfl) ?_))))
         obtain ⟨hg27,h⟩:=gOs h
         refine oY rfl (yI bZ (by decide) hg27.1 hg27.2 (RdL.arg hr1_0) (eL aA rfl) rfl rfl) ?_
         refine oY rfl (yR (A:=Ac) (j:=(Int.toNat s21.2 * 1)) (v:=vI (rdL p1 s21.2)) aV (RdL.arg hr1_0) rfl (aC aA hg27.1 (ah hg27.2 rfl) rfl)) (oY rfl (y_min rfl rfl) (oY rfl (yAI rfl) (oN (aw (eT (cR (oY rfl (yMI rfl) (oY rfl (aT rfl rfl) (oY rfl (yAI rfl) (oN ?_))))))))))
         obtain rfl:=sI h
         exact eN ⟨_,rfl,(kp4 (kp4 rfl))⟩
        ·refine cF (vB hp26) (cK (aw (eT (cR (oY rfl (yMI rfl) (oY rfl (aT rfl rfl) (oY rfl (yAI rfl) (oN ?_))))))))
         obtain rfl:=sI h
         exact eN ⟨_,rfl,(kp4 (kp4 rfl))⟩
       ·refine cF (vB hp23) (aH (ag ?_))
        obtain rfl:=sI h
        exact ax ⟨rfl,_,rfl,(kp4 (kp4 rfl))⟩
      ·intro e L tm hJ
       obtain ⟨rfl,tm0_u22,rfl,rfl⟩:=hJ
       refine ⟨(by intro hc; cases hc),?_⟩
       refine ac (eT (cS (cR (oY rfl (yAB rfl) (oN (eT (cS (cS (cR (oY rfl (yAI rfl) (oN (eT (cB ?_)))))))))))))
       obtain ⟨u31,hl36,h⟩:=bOs h
       refine ba (fun (s:(Bool × Int)) L tm => ∃ (tm0:Nat → Value),L = [ai b1 53 [.slice Aa p0.fB.length ca,.slice Ab p0.fR.length cb]] ∧ tm = (upd (upd (upd (upd (upd (upd (upd (upd (upd (upd tm0 1 (.slice Ac p1.length cc)) 2 (.pointer (some ⟨b1,0,none⟩))) 4 (vI u14.1)) 5 (vI s16.1)) 8 (vI s16.2)) 44 (.bool (decide (s16.2 < (p0.fR.length:Int))))) 9 (vI u22.1)) 10 (vI u22.2)) 12 (.bool s.1)) 13 (vI s.2))) 6 hl36 ⟨_,rfl,(kp4 (kp4 (kp (kp rfl))))⟩ ?_ ?_
       ·rintro s30 L tm st ⟨tm0_s30,rfl,rfl⟩ h
        unfold kS at h
        refine cS (cS (cR (oY rfl (yMI rfl) (oY rfl (yMS rfl) (oY rfl (bp (us:=[]) cV rfl) (oY rfl (bj rfl rfl) (oN (eT ?_))))))))
        rcases iOs h with ⟨hp32,h⟩ | ⟨hp32,h⟩
        ·refine cT (vB hp32) (cK (eT (cS (cB (cS (cR (oY rfl (yN 0 [.slice Aa p0.fB.length ca,.slice Ab p0.fR.length cb] dp rfl rfl rfl) (oY rfl (yMI rfl) (oY rfl (yMI rfl) ?_)))))))))
         obtain ⟨y33,hy34,h⟩:=bOs h
         refine oY rfl (yC [.agg #[.slice Aa p0.fB.length ca,.slice Ab p0.fR.length cb],vI s16.2,vI s30.2] go_104 rfl (fun W2 hW2 => jb p0 s16.2 s30.2 y33 hy34 W2 Aa p0.fB.length ca rfl ((RdL.arg hr0_0) W2 hW2) Ab p0.fR.length cb rfl ((RdL.arg hr0_1) W2 hW2)) rfl) (oY rfl (yAB rfl) (oN (eT (cR (oY rfl (yMB rfl) (oY rfl (yMB rfl) ?_))))))
         refine oJ 2 (fun tm0 => (upd (upd (upd (upd (upd (upd (upd (upd (upd (upd (upd (upd (upd tm0 1 (.slice Ac p1.length cc)) 2 (.pointer (some ⟨b1,0,none⟩))) 4 (vI u14.1)) 5 (vI s16.1)) 8 (vI s16.2)) 44 (.bool (decide (s16.2 < (p0.fR.length:Int))))) 9 (vI u22.1)) 10 (vI u22.2)) 12 (.bool s30.1)) 13 (vI s30.2)) 73 (.bool (decide (s30.2 < (p1.length:Int))))) 14 (.bool y33)) 83 (.bool (s30.1 || y33)))) (fun tm0 => ?_) (fun key => ?_)
         ·refine oY rfl (yAB rfl) (oN (aw (eT (cR (oY rfl (yMI rfl) (oY rfl (aT rfl rfl) (oY rfl (yAI rfl) (oN ?_))))))))
          obtain rfl:=sI h
          exact eN ⟨_,rfl,(kp4 (kp4 (kp (kp rfl))))⟩
         ·rcases ao s30.1 with hp35 | hp35
          ·refine oSk (sF rfl rfl rfl rfl hp35) (oY rfl (ab (vB hp35) rfl) ?_)
           exact key _ _ (keep (keep (keep (keep (keep (keep (keep (keep (keep (keep (keep (keep (keep rfl rfl) rfl) rfl) rfl) rfl) rfl) rfl) rfl) rfl) rfl) rfl) rfl) (vB (jf hp35)))
          ·refine oY (sT rfl rfl rfl rfl hp35) (yMB rfl) (oY rfl (ad (vB hp35) rfl) ?_)
           exact key _ _ (keep (keep (keep (keep (keep (keep (keep (keep (keep (keep (keep (keep (keep rfl rfl) rfl) rfl) rfl) rfl) rfl) rfl) rfl) rfl) rfl) rfl) rfl) (vB (jg hp35)))
        ·refine cF (vB hp32) (aH (ag ?_))
         obtain rfl:=sI h
         exact ax ⟨rfl,_,rfl,(kp4 (kp4 (kp (kp rfl))))⟩
       ·intro e L tm hJ
        obtain ⟨rfl,tm0_u31,rfl,rfl⟩:=hJ
        refine ⟨(by intro hc; cases hc),?_⟩
        refine ac (eT (cS (cR (oY rfl (yMB rfl) (oN (eT ?_))))))
        rcases iOs h with ⟨hp37,h⟩ | ⟨hp37,h⟩
        ·refine cT (vB hp37) (cR (oY rfl (yMI rfl) (oY rfl (yFA cn rfl) (oY rfl (yL 0 gP rfl rfl rfl) (oY rfl (yMI rfl) ?_)))))
         obtain ⟨hg38,h⟩:=gOs h
         refine oY rfl (yI kC (by decide) hg38.1 hg38.2 (RdL.arg hr0_1) (eL ar rfl) rfl rfl) ?_
         refine oY rfl (yFR (A:=Ab) (j:=(Int.toNat s16.2 * 5)) jc rfl) (oY rfl (yR (A:=Ab) (j:=((Int.toNat s16.2 * 5) + 4)) (v:=vI ((rdL p0.fR s16.2).fW)) aV (RdL.arg hr0_1) rfl (eG ar hg38.1 (ah hg38.2 rfl) rfl)) (oY rfl (aT rfl rfl) (oY rfl (yMI rfl) (oY rfl (eH rfl rfl) (oY rfl (yAI rfl) (oN (aw (eT (cR (oY rfl (yMI rfl) (oY rfl (aT rfl rfl) (oY rfl (yAI rfl) (oN ?_)))))))))))))
         obtain rfl:=sI h
         exact eN ⟨_,rfl,(kp4 (kp rfl))⟩
        ·refine cF (vB hp37) (cK (aw (eT (cR (oY rfl (yMI rfl) (oY rfl (aT rfl rfl) (oY rfl (yAI rfl) (oN ?_))))))))
         obtain rfl:=sI h
         exact eN ⟨_,rfl,(kp4 (kp rfl))⟩
     ·refine cF (vB hp18) (aH (ag ?_))
      obtain rfl:=sI h
      exact ax ⟨rfl,_,rfl,(kp4 (kp rfl))⟩
    ·intro e L tm hJ
     obtain ⟨rfl,tm0_u17,rfl,rfl⟩:=hJ
     refine ⟨(by intro hc; cases hc),?_⟩
     refine ac (eT (cS (cR (oY rfl (yMI rfl) (oY rfl (yAI rfl) (oN (eT (am ?_))))))))
     obtain rfl:=sI h
     exact al (.inl rfl) rfl (rVt (v:=vI u17.1) rfl) (fun W2 hW2 => ⟨rfl,hW2.none⟩)
theorem lE (p0:TY) (p1:TPlan) (res:Int) (h:iB p0 p1 = some res) (W:World) (Aa:Option Addr) (n0_0 ca : Nat) (hn0_0:n0_0 = p0.fB.length) (hr0_0:Rd W Aa n0_0 ca (encL aG p0.fB)) (Ab:Option Addr) (n0_1 cb : Nat) (hn0_1:n0_1 = p0.fR.length) (hr0_1:Rd W Ab n0_1 cb (encL aB p0.fR)) (Ac:Option Addr) (n1_0 cc : Nat) (hn1_0:n1_0 = p1.fG.length) (hr1_0:Rd W Ac n1_0 cc (encL cI p1.fG)) (A1_2:Option Addr) (n1_2 c1_2 : Nat) (hn1_2:n1_2 = p1.fPrices.length) (hr1_2:Rd W A1_2 n1_2 c1_2 (encL cI p1.fPrices)) :
  Calls Tryz.prog 44 [.agg #[.slice Aa n0_0 ca,.slice Ab n0_1 cb],.agg #[.slice Ac n1_0 cc,vI p1.fW,.slice A1_2 n1_2 c1_2]].toArray W fun e W2 => e = .returned (vI res) ∧ Ext W W2 []:=by
 subst hn0_0
 subst hn0_1
 subst hn1_0
 subst hn1_2
 unfold iB at h
 refine ae (m:=29) Tryz.func44 rfl rfl (nB rfl) (cS (cR ?_))
 refine aW [.slice Aa p0.fB.length ca,.slice Ab p0.fR.length cb] rfl rfl rfl (fun b1 => ?_)
 refine aW [.slice Ac p1.fG.length cc,vI p1.fW,.slice A1_2 p1.fPrices.length c1_2] rfl rfl rfl (fun b2 => ?_)
 refine oY rfl (yAI rfl) (oN (eT (cS (cR (oY rfl (yN 0 [.slice Aa p0.fB.length ca,.slice Ab p0.fR.length cb] dp rfl rfl rfl) ?_)))))
 obtain ⟨y3,hy4,h⟩:=bOs h
 refine oY rfl (yC [.agg #[.slice Aa p0.fB.length ca,.slice Ab p0.fR.length cb]] go_46 rfl (fun W2 hW2 => lQ p0 y3 hy4 W2 Aa p0.fB.length ca rfl ((RdL.arg hr0_0) W2 hW2) Ab p0.fR.length cb rfl ((RdL.arg hr0_1) W2 hW2)) rfl) (oY rfl (yAI rfl) (oN (eT (cS (cS (cR (oY rfl (yMI rfl) (oY rfl (dl rfl rfl) (oN (eT ?_))))))))))
 rcases iOs h with ⟨hp5,h⟩ | ⟨hp5,h⟩
 ·refine cT (vB hp5) (cS (cR (oY rfl (yMI rfl) (oY rfl (yAI rfl) (oN (eT (am (aa ?_))))))))
  obtain rfl:=sI h
  exact al (.inl rfl) rfl (rVt (v:=vI y3) rfl) (fun W2 hW2 => ⟨rfl,hW2.none⟩)
 ·refine cF (vB hp5) (cK (eT (cS (cR (oY rfl (yN 0 [.slice Aa p0.fB.length ca,.slice Ab p0.fR.length cb] dp rfl rfl rfl) (oY rfl (yFA fo_71_0 rfl) (oY rfl (yL 1 iR rfl rfl rfl) (oY rfl (yFA pp rfl) (oY rfl (yL 1 aV rfl rfl rfl) ?_)))))))))
  obtain ⟨y6,hy7,h⟩:=bOs h
  refine oY rfl (yC [.agg #[.slice Aa p0.fB.length ca,.slice Ab p0.fR.length cb],.slice Ac p1.fG.length cc,vI p1.fW] go_105 rfl (fun W2 hW2 => pA p0 p1.fG p1.fW y6 hy7 W2 Aa p0.fB.length ca rfl ((RdL.arg hr0_0) W2 hW2) Ab p0.fR.length cb rfl ((RdL.arg hr0_1) W2 hW2) Ac p1.fG.length cc rfl ((RdL.arg hr1_0) W2 hW2)) rfl) (oY rfl (yAB rfl) (oN (eT (cS (cS ?_)))))
  refine bh 11 cD (by kernel_rfl) (by kernel_rfl) ?_
  refine qY rfl (yMB rfl) (qY rfl (bQ rfl) (qY rfl (yMB rfl) ?_))
  obtain ⟨b9,hb10,h⟩:=bOs h
  refine qJ 8 (fun tm0 => (upd (upd tm0 4 (vI 0)) 28 (.bool b9))) (fun tm0 => ?_) (fun key => ?_)
  ·refine cd (oN (eT ?_))
   rcases iOs h with ⟨hp11,h⟩ | ⟨hp11,h⟩
   ·refine cT (vB hp11) (cS (cR (oY rfl (yAI rfl) (oN (eT (am (aa ?_)))))))
    obtain rfl:=sI h
    exact al (.inl rfl) rfl (rVt (v:=vI 8) rfl) (fun W2 hW2 => ⟨rfl,hW2.none⟩)
   ·refine cF (vB hp11) (cK (eT (cS (cR (oY rfl (yAI rfl) (oN (eT (am ?_))))))))
    obtain rfl:=sI h
    exact al (.inl rfl) rfl (rVt (v:=vI 0) rfl) (fun W2 hW2 => ⟨rfl,hW2.none⟩)
  ·clear h; rcases iOs hb10 with ⟨hp8,h⟩ | ⟨hp8,h⟩
   ·refine av (sF rfl rfl rfl rfl hp8) (av (sF rfl rfl rfl rfl hp8) (av (sF rfl rfl rfl rfl hp8) (av (sF rfl rfl rfl rfl hp8) (av (sF rfl rfl rfl rfl hp8) (av (sF rfl rfl rfl rfl hp8) (av (sF rfl rfl rfl rfl hp8) (qY rfl (ab (vB hp8) rfl) ?_)))))))
    obtain rfl:=sI h
    exact key _ _ (kp (kp rfl))
   ·refine qY (sT rfl rfl rfl rfl hp8) (yN 0 [.slice Aa p0.fB.length ca,.slice Ab p0.fR.length cb] dp rfl rfl rfl) (qY (sT rfl rfl rfl rfl hp8) (yFA rF rfl) (qY (sT rfl rfl rfl rfl hp8) (yL 1 iR rfl rfl rfl) ?_))
    obtain ⟨y12,hy13,h⟩:=bOs h
    refine qY (sT rfl rfl rfl rfl hp8) (yC [.agg #[.slice Aa p0.fB.length ca,.slice Ab p0.fR.length cb],.slice A1_2 p1.fPrices.length c1_2] go_106 rfl (fun W2 hW2 => ns p0 p1.fPrices y12 hy13 W2 Aa p0.fB.length ca rfl ((RdL.arg hr0_0) W2 hW2) Ab p0.fR.length cb rfl ((RdL.arg hr0_1) W2 hW2) A1_2 p1.fPrices.length c1_2 rfl ((RdL.arg hr1_2) W2 hW2)) rfl) (qY (sT rfl rfl rfl rfl hp8) (yFA pp rfl) (qY (sT rfl rfl rfl rfl hp8) (yL 1 aV rfl rfl rfl) (qY (sT rfl rfl rfl rfl hp8) (dl rfl rfl) (qY rfl (ad (vB hp8) rfl) ?_))))
    obtain rfl:=sI h
    exact key _ _ (kp (kp rfl))
theorem mV (p0:TR) (p1:Int) (p2:Int) (res:(TTimes × Int)) (h:jW p0 p1 p2 = some res) (W:World) (Ab:Option Addr) (n0_1 cb : Nat) (ys0_1:List (Hd × TT)) (hn0_1:n0_1 = p0.fTracks.length) (hr0_1:Rd W Ab n0_1 cb (encL TTrack_cells2 ys0_1)) (hN0_1:NestW W (fun z : TT => z.fK) TSpan_cells ys0_1 p0.fTracks) (wb:World) (Hb:World → Prop) (hB:∀ W3,Below W.heap.size W W3 → Below wb.heap.size wb W3 ∧ Hb W3) :
  Calls Tryz.prog 49 [.agg #[vI p0.fPlaces,.slice Ab n0_1 cb],vI p1,vI p2].toArray W fun e W2 => ∃ x : ((Option Addr × Nat × Nat) × (List (Hd × (List Int))) × Res),(x.1.2.1 = res.1.fH.length ∧ NestP (fun z : (List Int) => z) x.2.1 res.1.fH ∧ PvL (fun z : (List Int) => z) cI wb (fun W4 => Hb W4 ∧ Res.holds x.2.2 W4) x.2.1) ∧ e = .returned (.tuple #[.agg #[.slice x.1.1 x.1.2.1 x.1.2.2],vI res.2]) ∧ Ext W W2 [aL x.1.1 x.1.2.2 42 1 x.1.2.1 (encL a7 x.2.1),x.2.2]:=by
 subst hn0_1
 unfold jW at h
 refine ae (m:=43) Tryz.func49 rfl rfl (nB rfl) (cS (cR ?_))
 refine aW [vI p0.fPlaces,.slice Ab p0.fTracks.length cb] rfl rfl rfl (fun b1 => ?_)
 refine aE ze_87 rfl (fun b2 => ?_)
 refine oY rfl (yAI rfl) (oN (eT (cS (cS (cR (oY rfl (yN 0 [vI p0.fPlaces,.slice Ab p0.fTracks.length cb] dM rfl rfl rfl) (oY rfl (yMI rfl) (oY rfl (yMI rfl) (oY rfl (yMI rfl) ?_)))))))))
 obtain ⟨y3,hy4,h⟩:=bOs h
 refine oY rfl (yC [.agg #[vI p0.fPlaces,.slice Ab p0.fTracks.length cb],vI p1,vI p1,vI p2,vI 0] go_70 rfl (fun W2 hW2 => ij p0 p1 p1 p2 0 y3 hy4 W2 Ab p0.fTracks.length cb ys0_1 rfl ((RdL.arg hr0_1) W2 hW2) (NestL.at (NestL.arg hN0_1) W2 hW2)) rfl) (oY rfl (yAI rfl) (oN (eT (cS (cR (oY rfl (yMI rfl) (oY rfl (dl rfl rfl) (oN (eT ?_)))))))))
 rcases iOs h with ⟨hp5,h⟩ | ⟨hp5,h⟩
 ·refine cT (vB hp5) (cS (cR ?_))
  refine oY rfl (aY [.slice none 0 0] [(0,1)] ust_87 ze_87 (by kernel_rfl)) ?_
  refine oY rfl (yMI rfl) (cr rfl (yS 1 [.slice none 0 0] sz_87 rfl (nB rfl) rfl rfl rfl) (oY rfl (yAI rfl) (oN (eT (am (aa ?_))))))
  obtain rfl:=sI h
  exact bI (.inl rfl) rfl (bz 1 [.slice none 0 0] ag_87 rfl rfl rfl) (rVt (v:=vI y3) rfl) (fun W2 hW2 => ⟨((none,0,0),[],noR),⟨rfl,NestP.nil,PvL.nil⟩,rfl,(hW2.nilrow 42 1).addNo.pickL [2,3] (by decide) rfl⟩)
 ·refine cF (vB hp5) (cK (eT (cS (cR (oY rfl (yN 0 [vI p0.fPlaces,.slice Ab p0.fTracks.length cb] dM rfl rfl rfl) (oY rfl (yMI rfl) (oY rfl (yMI rfl) ?_)))))))
  obtain ⟨y6,hy7,h⟩:=bOs h
  refine l6 [.agg #[vI p0.fPlaces,.slice Ab p0.fTracks.length cb],vI p1,vI p2] _ _ rfl go_110 rfl (fun W2 hW2 => lg p0 p1 p2 y6 hy7 W2 Ab p0.fTracks.length cb ys0_1 rfl ((RdL.arg hr0_1) W2 hW2) (NestL.at (NestL.arg hN0_1) W2 hW2)) ?_
  rintro b8
  refine oY rfl (eo rfl) (oN (eT (cS (cR ?_))))
  refine aE ze_87 rfl (fun b9 => ?_)
  refine oN (eT (cS (cS (cR (oY rfl (yFA d8 rfl) (oY rfl (yL 0 aV rfl rfl rfl) (oY rfl (yMI rfl) (oN (eT (cB ?_))))))))))
  obtain ⟨u13,hl30,h⟩:=bOs h
  refine cQ 42 1 (cQ 42 1 (pV (pV ?_)))
  refine ba (fun (s:(Int × (List (List Int)))) L tm => ∃ (tm0:Nat → Value) (A5_s:Option Addr) (c5_s:Nat) (n5_s:Nat) (ys5_s:List (Hd × (List Int))) (F5_s:Res),n5_s = s.2.length ∧ NestP (fun z : (List Int) => z) ys5_s s.2 ∧ PvL (fun z : (List Int) => z) cI wb (fun W4 => Hb W4 ∧ Res.holds F5_s W4) ys5_s ∧ L = [ai b1 24 [vI p0.fPlaces,.slice Ab p0.fTracks.length cb],ai b2 87 [.slice none 0 0],mapV Tryz.prog 191 co aQ bY (Tl.mk 0 (Ts.mk 0 0) (TLeg.mk 0 0) false) b8 y6,ai b9 87 [.slice A5_s n5_s c5_s],aL none 0 42 1 0 (encL a7 ([]:List (Hd × (List Int)))),aL A5_s c5_s 42 1 n5_s (encL a7 ys5_s),noR,F5_s] ∧ tm = (upd (upd (upd (upd (upd (upd tm0 6 (.pointer (some ⟨b2,0,none⟩))) 7 (vI 0)) 9 (.map (some b8))) 10 (.pointer (some ⟨b9,0,none⟩))) 27 (vI p0.fPlaces)) 28 (vI s.1))) 0 hl30 ⟨_,none,0,0,([]:List (Hd × (List Int))),noR,rfl,NestP.nil,(PvL.mono (Hb:=Hb) PvL.nil (fun _ _ h => h.1)),rfl,(kp4 (kp (kp rfl)))⟩ ?_ ?_
  ·rintro s12 L tm st ⟨tm0_s12,A5_s12,c5_s12,n5_s12,ys5_s12,F5_s12,rfl,hP5_s12,hV5_s12,rfl,rfl⟩ h
   unfold j7 at h
   refine cS (cR ?_)
   try dsimp only [lna,lca,lsz,lss]
   refine oY rfl (bj rfl rfl) (oN (eT (cS ?_)))
   rcases iOs h with ⟨hp14,h⟩ | ⟨hp14,h⟩
   ·refine cT (vB hp14) (cK (eT (cS (cB (cS (cR (oY rfl (yMI rfl) (oY rfl (yAI rfl) (oN (eT (cS (cR (oY rfl (cN rfl) (oY rfl (yMI rfl) ?_))))))))))))))
    obtain ⟨y15,hy16,h⟩:=bOs h
    refine oC [.map (some b8),vI s12.1] _ _ _ rfl go_111 rfl (fun W2 hW2 => kd y6 s12.1 y15 hy16 W2 b8 ((MpL.own 2 rfl) W2 hW2)) ?_
    rintro - hl17
    try dsimp only [List.append_nil]
    refine aE rS rfl (fun b18 => ?_)
    try dsimp only [lna,lca,lsz,lss]
    refine cr rfl (qd 8 (xs:=(List.replicate 61 0)) (xs':=y15) rm List.length_replicate hl17 rfl rfl rfl) (oN (eT ?_))
    obtain ⟨y20,hy21,h⟩:=bOs h
    obtain ⟨hg29,h⟩:=gOs h
    refine eF [[],[0],[],[2],[2,3],[0,1,2,3,4],[0,1,2,3,4,5],[0,1,2,3,4,5,6]] [(none,0,[true,true,true,true,true,true,true,false,true]),(none,0,[true,true,true,true,true,true,true,false,true]),(none,0,[true,true,true,true,true,true,true,true,true]),(some 7,1,[true,true,true,true,true,true,true,true,true]),(none,1,[true,true,true,true,true,true,true,true,true,true]),(some 5,0,[true,true,true,true,true,true,true,true,true,true,true]),(none,0,[true,true,true,true,true,true,true,true,true,true,true]),(some 3,0,[true,true,true,true,true,true,true,true,true,true,true])] [⟨fun _ => .pointer (some ⟨b9,0 + 0,none⟩),fun _ => noR,fun _ => []⟩,⟨fun _ => .slice A5_s12 s12.2.length c5_s12,fun _ => noR,fun _ => []⟩,⟨fun _ => .slice (some ⟨b18,0,none⟩) 61 61,fun _ => noR,fun _ => []⟩,⟨fun ξ19 => .slice (ξ19 3 0).1 y20.length (ξ19 3 0).2.2.1,fun ξ19 => oW F5_s12 (aL (ξ19 3 0).1 (ξ19 3 0).2.2.1 3 1 y20.length (encL cI y20)),fun _ => [noR]⟩,⟨fun ξ19 => .slice (some ⟨(ξ19 4 0).2.1,0,none⟩) 1 1,fun _ => noR,fun ξ19 => [aL (some ⟨(ξ19 4 0).2.1,0,none⟩) 1 42 1 1 (encL a7 [(((ξ19 3 0).1,y20.length,(ξ19 3 0).2.2.1),y20)])]⟩,⟨fun ξ19 => .slice (ξ19 5 0).1 (s12.2.length + 1) (ξ19 5 0).2.2.1,fun ξ19 => aL (ξ19 5 0).1 (ξ19 5 0).2.2.1 42 1 (s12.2.length + 1) (encL a7 (ys5_s12 ++ [(((ξ19 3 0).1,y20.length,(ξ19 3 0).2.2.1),y20)])),fun _ => []⟩,⟨fun _ => .pointer (some ⟨b9,0 + 0,none⟩),fun _ => noR,fun _ => []⟩,⟨fun _ => undef,fun ξ19 => ai b9 87 [.slice (ξ19 5 0).1 (s12.2.length + 1) (ξ19 5 0).2.2.1],fun _ => []⟩] 9 cD (by kernel_rfl) (by kernel_rfl) ⟨⟨fun ξ19 ξ19' h => ⟨rfl,rfl,rfl⟩,fun _ => rfl⟩,⟨fun ξ19 ξ19' h => ⟨rfl,rfl,rfl⟩,fun _ => rfl⟩,⟨fun ξ19 ξ19' h => ⟨rfl,rfl,rfl⟩,fun _ => rfl⟩,⟨fun ξ19 ξ19' h => ⟨by simp only [h 3 (.inl rfl)],by simp only [h 3 (.inl rfl)],rfl⟩,fun _ => rfl⟩,⟨fun ξ19 ξ19' h => ⟨by simp only [h 4 (.inl rfl)],rfl,by simp only [h 3 (.inr rfl),h 4 (.inl rfl)]⟩,fun _ => rfl⟩,⟨fun ξ19 ξ19' h => ⟨by simp only [h 5 (.inl rfl)],by simp only [h 3 (.inr rfl),h 5 (.inl rfl)],rfl⟩,fun _ => rfl⟩,⟨fun ξ19 ξ19' h => ⟨rfl,rfl,rfl⟩,fun _ => rfl⟩,⟨fun ξ19 ξ19' h => ⟨rfl,by simp only [h 5 (.inr rfl)],rfl⟩,fun _ => rfl⟩,trivial⟩ rfl (fun ξ19 => ?_)
    refine bN rfl (fun L2 => ?_) ?_
    ·dsimp only [aF,lca,lna]
     refine oY rfl (yFA lA rfl) (oN ?_)
     exact ap (fun _ => (none,0,0,[],noR)) rfl (List.append_nil _)
    dsimp only [bx,lsz,lss,lna,lca,List.append_nil]
    refine bN rfl (fun L2 => ?_) ?_
    ·dsimp only [aF,lca,lna]
     refine oY rfl (yL 3 tq rfl rfl rfl) (oN ?_)
     exact ap (fun _ => (none,0,0,[],noR)) rfl (List.append_nil _)
    dsimp only [bx,lsz,lss,lna,lca,List.append_nil]
    refine bN rfl (fun L2 => ?_) ?_
    ·dsimp only [aF,lca,lna]
     refine oY rfl (sK ua_160 qk rfl) (oN ?_)
     exact ap (fun _ => (none,0,0,[],noR)) rfl (List.append_nil _)
    dsimp only [bx,lsz,lss,lna,lca,List.append_nil]
    refine bN rfl (fun L2 => ?_) ?_
    ·dsimp only [aF,lca,lna]
     refine oC [.slice (some ⟨b18,0,none⟩) 61 61] _ _ _ rfl go_92 rfl (fun W2 hW2 => dQ y15 y20 hy21 W2 (some ⟨b18,0,none⟩) 61 61 (Eq.symm hl17) ((RdL.cellsAs 8 61 rfl) W2 hW2)) ?_
     rintro ⟨A22,n24,c23⟩ hn25
     replace hn25 : n24 = y20.length:=hn25; subst hn25
     refine ox_joinE 7 rfl ?_
     try dsimp only [lsz,lss,lca,lna]
     refine oN ?_
     exact ap (fun _ => (A22,0,c23,[],noR)) rfl rfl
    dsimp only [bx,lsz,lss,lna,lca,List.append_nil]
    refine bN rfl (fun L2 => ?_) ?_
    ·dsimp only [aF,lca,lna]
     refine aJ 1 (encL a7 [(((ξ19 3 0).1,y20.length,(ξ19 3 0).2.2.1),y20)]) _ mc_42_1 us_85 ze_42 by_42 (by decide) (by decide) (by kernel_rfl) (eL aq rfl) rfl (fun b26 => ?_)
     refine oN ?_
     exact ap (fun _ => (none,b26,0,[],noR)) rfl rfl
    dsimp only [bx,lsz,lss,lna,lca,List.append_nil]
    refine bN rfl (fun L2 => ?_) ?_
    ·dsimp only [aF,lca,lna]
     refine bE 5 us_85 ze_42 by_42 rfl rfl rfl (RdL.row 10 rfl) (eL aq (NestP.hn (NestP.cons (sel:=(fun z : (List Int) => z)) rfl NestP.nil) rfl)) (cv mW _) (cA hg29 (by decide)) rfl (fun A27 c28 => ?_)
     refine oN ?_
     first | exact ap (fun _ => (A27,0,c28,[],noR)) rfl rfl | exact ap (fun _ => (A27,0,c28,[],noR)) rfl (List.append_nil _)
    dsimp only [bx,lsz,lss,lna,lca,List.append_nil]
    refine bN rfl (fun L2 => ?_) ?_
    ·dsimp only [aF,lca,lna]
     refine oY rfl (yFA lA rfl) (oN ?_)
     exact ap (fun _ => (none,0,0,[],noR)) rfl (List.append_nil _)
    dsimp only [bx,lsz,lss,lna,lca,List.append_nil]
    refine tr rfl (fun L2 => ?_) ?_
    ·dsimp only [aF,lca,lna]
     refine cr rfl (dt 3 (v:=.slice (ξ19 5 0).1 (s12.2.length + 1) (ξ19 5 0).2.2.1) sz_85 rfl (Nat.lt_of_lt_of_le (Nat.lt_succ_self _) (nB rfl)) rfl rfl rfl) (oN ?_)
     first | exact bP (fun _ => (none,0,0,[],noR)) rfl | exact bP (fun _ => (none,0,0,[],noR)) (List.append_nil _)
    dsimp only [bx,lsz,lss,lna,lca,List.append_nil]
    refine kx (aw (eT (cR ?_)))
    try dsimp only [lna,lca,lsz,lss]
    refine oY rfl (aT rfl rfl) (oY rfl (yMI rfl) (oN (aU 8 ?_)))
    obtain rfl:=sI h
    exact eN ⟨_,(ξ19 5 0).1,(ξ19 5 0).2.2.1,(s12.2.length + 1),(ys5_s12 ++ [(((ξ19 3 0).1,y20.length,(ξ19 3 0).2.2.1),y20)]),oW F5_s12 (aL (ξ19 3 0).1 (ξ19 3 0).2.2.1 3 1 y20.length (encL cI y20)),(gb rfl rfl),(NestP.app hP5_s12 (NestP.cons (sel:=(fun z : (List Int) => z)) rfl NestP.nil)),(PvL.app (PvL.mono (Hb:=(fun W4 => Hb W4 ∧ Res.holds F5_s12 W4)) hV5_s12 (fun _ _ h => ⟨h.1,h.2.1⟩)) (PvL.cons (fun _ _ h => eO h.2.2.1) PvL.nil)),rfl,(kp4 (kp (kp rfl)))⟩
   ·refine cF (vB hp14) (aH (ag ?_))
    obtain rfl:=sI h
    exact ax ⟨rfl,_,A5_s12,c5_s12,s12.2.length,ys5_s12,F5_s12,rfl,hP5_s12,hV5_s12,rfl,(kp4 (kp (kp rfl)))⟩
  ·intro e L tm hJ
   obtain ⟨rfl,tm0_u13,A5_u13,c5_u13,n5_u13,ys5_u13,F5_u13,rfl,hP5_u13,hV5_u13,rfl,rfl⟩:=hJ
   refine ⟨(by intro hc; cases hc),?_⟩
   refine ac (eT (cS (cR ?_)))
   try dsimp only [lna,lca,lsz,lss]
   refine oY rfl (yN 3 [.slice A5_u13 u13.2.length c5_u13] ag_87 rfl rfl rfl) (cr rfl (yS 1 [.slice A5_u13 u13.2.length c5_u13] sz_87 rfl (nB rfl) rfl rfl rfl) (oY rfl (yAI rfl) (oN (eT (am ?_)))))
   obtain rfl:=sI h
   exact bI (.inl rfl) rfl (bz 1 [.slice A5_u13 u13.2.length c5_u13] ag_87 rfl rfl rfl) (rVt (v:=vI 0) rfl) (fun W2 hW2 => ⟨((A5_u13,u13.2.length,c5_u13),ys5_u13,F5_u13),⟨rfl,hP5_u13,hV5_u13⟩,rfl,hW2.pickL [5,7] (by decide) rfl⟩)
theorem pM (p0:TR) (p1:Int) (p2:Int) (p3:Int) (res:((List TJ) × Int)) (h:mE p0 p1 p2 p3 = some res) (W:World) (Ab:Option Addr) (n0_1 cb : Nat) (ys0_1:List (Hd × TT)) (hn0_1:n0_1 = p0.fTracks.length) (hr0_1:Rd W Ab n0_1 cb (encL TTrack_cells2 ys0_1)) (hN0_1:NestW W (fun z : TT => z.fK) TSpan_cells ys0_1 p0.fTracks) (wb:World) (Hb:World → Prop) (hB:∀ W3,Below W.heap.size W W3 → Below wb.heap.size wb W3 ∧ Hb W3) :
  Calls Tryz.prog 61 [.agg #[vI p0.fPlaces,.slice Ab n0_1 cb],vI p1,vI p2,vI p3].toArray W fun e W2 => ∃ x : ((Option Addr × Nat × Nat) × (List (Hd × TJ)) × Res),(x.1.2.1 = res.1.length ∧ NestP (fun z : TJ => z.fLegs) x.2.1 res.1 ∧ PvL (fun z : TJ => z.fLegs) bt wb (fun W4 => Hb W4 ∧ Res.holds x.2.2 W4) x.2.1) ∧ e = .returned (.tuple #[.slice x.1.1 x.1.2.1 x.1.2.2,vI res.2]) ∧ Ext W W2 [aL x.1.1 x.1.2.2 29 3 x.1.2.1 (encL cl x.2.1),x.2.2]:=by
 subst hn0_1
 unfold mE at h
 refine ae (m:=24) Tryz.func61 rfl rfl (nB rfl) (cS (cR ?_))
 refine aW [vI p0.fPlaces,.slice Ab p0.fTracks.length cb] rfl rfl rfl (fun b1 => ?_)
 refine oY rfl (yAS rfl) (oY rfl (yAI rfl) (oN (eT (cS (cS (cR (oY rfl (yN 0 [vI p0.fPlaces,.slice Ab p0.fTracks.length cb] dM rfl rfl rfl) (oY rfl (yMI rfl) (oY rfl (yMI rfl) (oY rfl (yMI rfl) ?_))))))))))
 obtain ⟨y2,hy3,h⟩:=bOs h
 refine oY rfl (yC [.agg #[vI p0.fPlaces,.slice Ab p0.fTracks.length cb],vI p1,vI p2,vI p3,vI 0] go_70 rfl (fun W2 hW2 => ij p0 p1 p2 p3 0 y2 hy3 W2 Ab p0.fTracks.length cb ys0_1 rfl ((RdL.arg hr0_1) W2 hW2) (NestL.at (NestL.arg hN0_1) W2 hW2)) rfl) (oY rfl (yAI rfl) (oN (eT (cS (cR (oY rfl (yMI rfl) (oY rfl (dl rfl rfl) (oN (eT ?_)))))))))
 rcases iOs h with ⟨hp4,h⟩ | ⟨hp4,h⟩
 ·refine cT (vB hp4) (cS (cR (oY rfl (yMI rfl) (oY rfl (yAS rfl) (oY rfl (yAI rfl) (oN (eT (am (aa ?_)))))))))
  obtain rfl:=sI h
  exact bI (.inl rfl) rfl (rVt (v:=.slice none 0 0) rfl) (rVt (v:=vI y2) rfl) (fun W2 hW2 => ⟨((none,0,0),[],noR),⟨rfl,NestP.nil,PvL.nil⟩,rfl,(hW2.nilrow 29 3).addNo.pickL [1,2] (by decide) rfl⟩)
 ·refine cF (vB hp4) (cK (eT (cS (cR (oY rfl (yN 0 [vI p0.fPlaces,.slice Ab p0.fTracks.length cb] dM rfl rfl rfl) (oY rfl (yMI rfl) (oY rfl (yMI rfl) (oY rfl (yMI rfl) ?_))))))))
  obtain ⟨y5,hy6,h⟩:=bOs h
  refine oC [.agg #[vI p0.fPlaces,.slice Ab p0.fTracks.length cb],vI p1,vI p2,vI p3] _ _ _ rfl go_119 rfl (fun W2 hW2 => lY p0 p1 p2 p3 y5 hy6 W2 Ab p0.fTracks.length cb ys0_1 rfl ((RdL.arg hr0_1) W2 hW2) (NestL.at (NestL.arg hN0_1) W2 hW2) wb Hb (fun W3 hb => hB W3 (fV hW2.below hb)) ) ?_
  rintro ⟨⟨A9,n11,c10⟩,ys14,F15⟩ ⟨hn12,hP13,hV16⟩
  replace hn12 : n11 = y5.length:=hn12; subst hn12
  refine oY rfl (yAS rfl) (oY rfl (yAI rfl) (oN (eT (am ?_))))
  obtain rfl:=sI h
  exact bI (.inl rfl) rfl (rVt (v:=.slice A9 y5.length c10) rfl) (rVt (v:=vI 0) rfl) (fun W2 hW2 => ⟨((A9,y5.length,c10),ys14,F15),⟨rfl,hP13,hV16⟩,rfl,hW2.pickL [1,2] (by decide) rfl⟩)
theorem lK  (res:TR) (h:iv = some res) (W:World) (wb:World) (Hb:World → Prop) (hB:∀ W3,Below W.heap.size W W3 → Below wb.heap.size wb W3 ∧ Hb W3) :
  Calls Tryz.prog 67 [].toArray W fun e W2 => ∃ x : ((Option Addr × Nat × Nat) × (List (Hd × TT)) × Res),(x.1.2.1 = res.fTracks.length ∧ NestP (fun z : TT => z.fK) x.2.1 res.fTracks ∧ PvL (fun z : TT => z.fK) TSpan_cells wb (fun W4 => Hb W4 ∧ Res.holds x.2.2 W4) x.2.1) ∧ e = .returned (.agg #[vI res.fPlaces,.slice x.1.1 x.1.2.1 x.1.2.2]) ∧ Ext W W2 [aL x.1.1 x.1.2.2 120 6 x.1.2.1 (encL TTrack_cells2 x.2.1),x.2.2]:=by
 unfold iv at h
 refine ae (m:=9) Tryz.func67 rfl rfl (nB rfl) (cS (cR ?_))
 refine aE ry rfl (fun b1 => ?_)
 refine oN (eT (cS (cR ?_)))
 refine oY rfl (aY [vI 1,vI 0,vI 1,vI 5,vI 0,.slice none 0 0] [(0,1),(1,1),(2,1),(3,1),(4,1),(5,1)] px gp (by kernel_rfl)) ?_
 refine oY rfl (aY [vI 8,vI 20] [(0,1),(1,1)] rR re (by kernel_rfl)) ?_
 refine aJ 1 (encL TSpan_cells [(TSpan.mk 8 20)]) _ mc_63_1 lO re by_63 (by decide) (by decide) (by kernel_rfl) (eL aD rfl) rfl (fun b2 => ?_)
 refine oY rfl (aY [vI 2,vI 1,vI 2,vI 5,vI 0,.slice (some ⟨b2,0,none⟩) 1 1] [(0,1),(1,1),(2,1),(3,1),(4,1),(5,1)] px gp (by kernel_rfl)) ?_
 refine oY rfl (aY [vI 3,vI 0,vI 2,vI 9,vI 6,.slice none 0 0] [(0,1),(1,1),(2,1),(3,1),(4,1),(5,1)] px gp (by kernel_rfl)) ?_
 refine oY rfl (aY [vI 4,vI 1,vI 2,vI 8,vI 2,.slice none 0 0] [(0,1),(1,1),(2,1),(3,1),(4,1),(5,1)] px gp (by kernel_rfl)) ?_
 refine rU ?_
 refine nr 2 1 (by decide) rfl rfl ?_
 refine aJ 4 (encL TTrack_cells2 [((none,0,0),(TT.mk 1 0 1 5 0 ([]:(List TSpan)))),(((some ⟨b2,0,none⟩),1,1),(TT.mk 2 1 2 5 0 [(TSpan.mk 8 20)])),((none,0,0),(TT.mk 3 0 2 9 6 ([]:(List TSpan)))),((none,0,0),(TT.mk 4 1 2 8 2 ([]:(List TSpan))))]) _ mc_120_4 gF gp og (by decide) (by decide) (by kernel_rfl) (eL au rfl) rfl (fun b3 => ?_)
 refine oY rfl (aY [vI 3,.slice (some ⟨b3,0,none⟩) 4 4] [(0,1),(1,1)] ust_24 ry (by kernel_rfl)) ?_
 refine cr rfl (yS 0 [vI 3,.slice (some ⟨b3,0,none⟩) 4 4] sz_24 rfl (nB rfl) rfl rfl rfl) (oN (eT (am ?_)))
 obtain rfl:=sI h
 exact al (.inl rfl) rfl (bz 0 [vI 3,.slice (some ⟨b3,0,none⟩) 4 4] dM rfl rfl rfl) (fun W2 hW2 => ⟨(((some ⟨b3,0,none⟩),4,4),[((none,0,0),(TT.mk 1 0 1 5 0 ([]:(List TSpan)))),(((some ⟨b2,0,none⟩),1,1),(TT.mk 2 1 2 5 0 [(TSpan.mk 8 20)])),((none,0,0),(TT.mk 3 0 2 9 6 ([]:(List TSpan)))),((none,0,0),(TT.mk 4 1 2 8 2 ([]:(List TSpan))))],oW noR (aL (some ⟨b2,0,none⟩) 1 63 2 1 (encL TSpan_cells [(TSpan.mk 8 20)]))),⟨rfl,(NestP.cons (sel:=(fun z : TT => z.fK)) rfl (NestP.cons (sel:=(fun z : TT => z.fK)) rfl (NestP.cons (sel:=(fun z : TT => z.fK)) rfl (NestP.cons (sel:=(fun z : TT => z.fK)) rfl NestP.nil)))),(PvL.cons (Pv.mono (Hb:=Hb) (Pv.nil rfl) (fun _ _ h => h.1)) (PvL.cons (fun _ _ h => eO h.2.2.1) (PvL.mono (Hb:=(fun W4 => Hb W4 ∧ Res.holds noR W4)) (PvL.cons (Pv.mono (Hb:=Hb) (Pv.nil rfl) (fun _ _ h => h.1)) (PvL.cons (Pv.mono (Hb:=Hb) (Pv.nil rfl) (fun _ _ h => h.1)) PvL.nil)) (fun _ _ h => ⟨h.1,h.2.1⟩))))⟩,rfl,hW2.pickL [3,2] (by decide) rfl⟩)
theorem lX  (res:TY) (h:iG = some res) (W:World)  :
  Calls Tryz.prog 68 [].toArray W fun e W2 => ∃ x : ((Option Addr × Nat × Nat) × (Option Addr × Nat × Nat)),(x.1.2.1 = res.fB.length ∧ x.2.2.1 = res.fR.length) ∧ e = .returned (.agg #[.slice x.1.1 x.1.2.1 x.1.2.2,.slice x.2.1 x.2.2.1 x.2.2.2]) ∧ Ext W W2 [aL x.1.1 x.1.2.2 69 3 x.1.2.1 (encL aG res.fB),aL x.2.1 x.2.2.2 65 5 x.2.2.1 (encL aB res.fR)]:=by
 unfold iG at h
 refine ae (m:=12) Tryz.func68 rfl rfl (nB rfl) (cS (cR ?_))
 refine aE q9 rfl (fun b1 => ?_)
 refine oN (eT (cS (cR ?_)))
 refine oY rfl (aY [vI 1,vI 10,vI 3] [(0,1),(1,1),(2,1)] ust_69 oK (by kernel_rfl)) ?_
 refine oY rfl (aY [vI 2,vI 11,vI 5] [(0,1),(1,1),(2,1)] ust_69 oK (by kernel_rfl)) ?_
 refine aJ 2 (encL aG [(TBay.mk 1 10 3),(TBay.mk 2 11 5)]) _ mc_69_2 kg oK by_69 (by decide) (by decide) (by kernel_rfl) (eL aK rfl) rfl (fun b2 => ?_)
 refine oY rfl (aY [vI 10,vI 11] [(0,1),(1,1)] rR re (by kernel_rfl)) ?_
 refine oY rfl (aY [vI 7,vI 10,vI 11,vI 3,vI 5] [(0,1),(1,2),(3,1),(4,1)] ust_65 oQ (by kernel_rfl)) ?_
 refine oY rfl (aY [vI 11,vI 12] [(0,1),(1,1)] rR re (by kernel_rfl)) ?_
 refine oY rfl (aY [vI 8,vI 11,vI 12,vI 4,vI 9] [(0,1),(1,2),(3,1),(4,1)] ust_65 oQ (by kernel_rfl)) ?_
 refine oY rfl (aY [vI 10,vI 11] [(0,1),(1,1)] rR re (by kernel_rfl)) ?_
 refine oY rfl (aY [vI 9,vI 10,vI 11,vI 4,vI 7] [(0,1),(1,2),(3,1),(4,1)] ust_65 oQ (by kernel_rfl)) ?_
 refine aJ 3 (encL aB [(TO.mk 7 (TSpan.mk 10 11) 3 5),(TO.mk 8 (TSpan.mk 11 12) 4 9),(TO.mk 9 (TSpan.mk 10 11) 4 7)]) _ mc_65_3 lC oQ by_65 (by decide) (by decide) (by kernel_rfl) (eL ar rfl) rfl (fun b3 => ?_)
 refine oY rfl (aY [.slice (some ⟨b2,0,none⟩) 2 2,.slice (some ⟨b3,0,none⟩) 3 3] [(0,1),(1,1)] ust_53 q9 (by kernel_rfl)) ?_
 refine cr rfl (yS 0 [.slice (some ⟨b2,0,none⟩) 2 2,.slice (some ⟨b3,0,none⟩) 3 3] sz_53 rfl (nB rfl) rfl rfl rfl) (oN (eT (am ?_)))
 obtain rfl:=sI h
 exact al (.inl rfl) rfl (bz 0 [.slice (some ⟨b2,0,none⟩) 2 2,.slice (some ⟨b3,0,none⟩) 3 3] dp rfl rfl rfl) (fun W2 hW2 => ⟨(((some ⟨b2,0,none⟩),2,2),((some ⟨b3,0,none⟩),3,3)),⟨rfl,rfl⟩,rfl,hW2.pickL [1,2] (by decide) rfl⟩)
theorem pF (p0:TT) (p1:Int) (res:(Int × Int)) (h:mq p0 p1 = some res) (W:World) (A0_5:Option Addr) (n0_5 c0_5 : Nat) (hn0_5:n0_5 = p0.fK.length) (hr0_5:Rd W A0_5 n0_5 c0_5 (encL TSpan_cells p0.fK)) :
  Calls Tryz.prog 69 [.agg #[vI p0.fID,vI p0.fFrom,vI p0.fTo,vI p0.fLong,vI p0.fToll,.slice A0_5 n0_5 c0_5],vI p1].toArray W fun e W2 => e = .returned (.tuple #[vI res.1,vI res.2]) ∧ Ext W W2 []:=by
 subst hn0_5
 unfold mq at h
 refine ae (m:=26) Tryz.func69 rfl rfl (nB rfl) (cS (cR ?_))
 refine aW [vI p0.fID,vI p0.fFrom,vI p0.fTo,vI p0.fLong,vI p0.fToll,.slice A0_5 p0.fK.length c0_5] rfl rfl rfl (fun b1 => ?_)
 refine oY rfl (yAI rfl) (oY rfl (yAI rfl) (oN (eT (cS (cS (cR (oY rfl (yFA fq rfl) (oY rfl (yL 0 j8 rfl rfl rfl) ?_))))))))
 obtain ⟨y2,hy3,h⟩:=bOs h
 refine oY rfl (yC [.slice A0_5 p0.fK.length c0_5] go_122 rfl (fun W2 hW2 => ld p0.fK y2 hy3 W2 A0_5 p0.fK.length c0_5 rfl ((RdL.arg hr0_5) W2 hW2)) rfl) (oY rfl (bQ rfl) (oY rfl (yMB rfl) ?_))
 obtain ⟨b5,hb6,h⟩:=bOs h
 refine oJ 4 (fun tm0 => (upd (upd (upd (upd (upd tm0 1 (vI p1)) 2 (.pointer (some ⟨b1,0,none⟩))) 4 (vI 0)) 5 (vI 0)) 16 (.bool b5))) (fun tm0 => ?_) (fun key => ?_)
 ·refine oN (eT ?_)
  rcases iOs h with ⟨hp7,h⟩ | ⟨hp7,h⟩
  ·refine cT (vB hp7) (cS (cR (oY rfl (yAI rfl) (oY rfl (yAI rfl) (oN (eT (am (aa ?_))))))))
   obtain rfl:=sI h
   exact bI (.inl rfl) rfl (rVt (v:=vI 0) rfl) (rVt (v:=vI 1) rfl) (fun W2 hW2 => ⟨rfl,hW2.none⟩)
  ·refine cF (vB hp7) (cK (eT (cS (cR (oY rfl (yN 0 [vI p0.fID,vI p0.fFrom,vI p0.fTo,vI p0.fLong,vI p0.fToll,.slice A0_5 p0.fK.length c0_5] i8 rfl rfl rfl) (oY rfl (yMI rfl) ?_))))))
   obtain ⟨y8,hy9,h⟩:=bOs h
   refine oY rfl (yC [.agg #[vI p0.fID,vI p0.fFrom,vI p0.fTo,vI p0.fLong,vI p0.fToll,.slice A0_5 p0.fK.length c0_5],vI p1] go_123 rfl (fun W2 hW2 => mi p0 p1 y8 hy9 W2 A0_5 p0.fK.length c0_5 rfl ((RdL.arg hr0_5) W2 hW2)) rfl) (oY rfl (aN rfl) (oY rfl (yE rfl rfl) (oY rfl (yE rfl rfl) (oY rfl (yAI rfl) (oY rfl (yAB rfl) (oN (eT (cS (cS (cR (oY rfl (yMB rfl) (oY rfl (bQ rfl) (oN (eT ?_))))))))))))))
   rcases iOs h with ⟨hp10,h⟩ | ⟨hp10,h⟩
   ·refine cT (vB hp10) (cS (cR (oY rfl (yAI rfl) (oY rfl (yAI rfl) (oN (eT (am (aa ?_))))))))
    obtain rfl:=sI h
    exact bI (.inl rfl) rfl (rVt (v:=vI 0) rfl) (rVt (v:=vI 5) rfl) (fun W2 hW2 => ⟨rfl,hW2.none⟩)
   ·refine cF (vB hp10) (cK (eT (cS (cR (oY rfl (yMI rfl) (oY rfl (yAI rfl) (oY rfl (yAI rfl) (oN (eT (am ?_))))))))))
    obtain rfl:=sI h
    exact bI (.inl rfl) rfl (rVt (v:=vI y8.1) rfl) (rVt (v:=vI 0) rfl) (fun W2 hW2 => ⟨rfl,hW2.none⟩)
 ·clear h; rcases iOs hb6 with ⟨hp4,h⟩ | ⟨hp4,h⟩
  ·refine oSk (sF rfl rfl rfl rfl hp4) (oSk (sF rfl rfl rfl rfl hp4) (oSk (sF rfl rfl rfl rfl hp4) (oY rfl (ab (vB hp4) rfl) ?_)))
   obtain rfl:=sI h
   exact key _ _ (kp4 (kp rfl))
  ·refine oY (sT rfl rfl rfl rfl hp4) (yMI rfl) ?_
   obtain ⟨y11,hy12,h⟩:=bOs h
   refine oY (sT rfl rfl rfl rfl hp4) (yC [vI p1] nZ rfl (fun W2 hW2 => eJ p1 y11 hy12 W2 ) rfl) (oY (sT rfl rfl rfl rfl hp4) (bQ rfl) (oY rfl (ad (vB hp4) rfl) ?_))
   obtain rfl:=sI h
   exact key _ _ (kp4 (kp rfl))
end Go.Proofs.YthndghnkebboaaaGreat
