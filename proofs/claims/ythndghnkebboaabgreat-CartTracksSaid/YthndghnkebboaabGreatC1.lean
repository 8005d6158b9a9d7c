import Derived.Test.YthndghnkebboaabGreatF
import Derived.Test.YthndghnkebboaabGreatGD
import Derived.Test.YthndghnkebboaabGreatGr
import Derived.Test.YthndghnkebboaabGreatGz
import Derived.Test.YthndghnkebboaabGreatC0
set_option maxHeartbeats 4000000
set_option maxRecDepth 100000
set_option linter.unusedVariables false
namespace Go.Proofs.YthndghnkebboaabGreat
open Go.RowKit (Below)
attribute [local irreducible] OX QX CX EX OpY Calls CallsIn
theorem la (p0:(List Twait)) (p1:Twait) (res:(List Twait)) (h:gT p0 p1 = some res) (W:World) (w0:World) (R:Res) (bq0:Nat) (Aa:Option Addr) (n0_0 ca : Nat) (hn0_0:n0_0 = p0.length) (hW:Ext w0 W [R,aj bq0 136 [.slice Aa n0_0 ca],aI Aa ca 134 3 n0_0 (encL ay p0)]) :
  Calls Tryz.prog 162 [.pointer (some ⟨bq0,0,none⟩),.iface 134 (.agg #[vI p1.f_at,vI p1.f_stop.f_place,vI p1.f_stop.f_toll])].toArray W fun e W2 => ∃ x : (Option Addr × Nat × Nat),x.2.1 = res.length ∧ e = .returned (.tuple #[]) ∧ Ext w0 W2 [R,aj bq0 136 [.slice x.1 x.2.1 x.2.2],aI x.1 x.2.2 134 3 x.2.1 (encL ay res)]:=by
 subst hn0_0
 unfold gT at h
 refine aM (m:=13) Tryz.func162 rfl rfl (nB rfl) hW ?_
 obtain ⟨hg5,h⟩:=gOs h
 refine dJ [[],[],[1],[1,2],[],[4],[4,5],[1,2,3,4,5,6],[0,1,2,3,4,5,6,7],[0,1,2,3,4,5,6,7,8]] [(none,0,[true,true,false]),(none,0,[true,true,true]),(none,0,[true,true,true]),(none,0,[true,true,true]),(none,0,[true,true,true]),(none,0,[true,true,true]),(none,1,[true,true,true]),(some 2,0,[true,true,true,true]),(none,0,[true,true,true,true]),(some 1,0,[true,true,true,true])] [⟨fun _ => .pointer (some ⟨bq0,0,none⟩),fun _ => noR,fun _ => []⟩,⟨fun _ => .pointer (some ⟨bq0,0,none⟩),fun _ => noR,fun _ => []⟩,⟨fun _ => .pointer (some ⟨bq0,0,none⟩),fun _ => noR,fun _ => []⟩,⟨fun _ => .slice Aa p0.length ca,fun _ => noR,fun _ => []⟩,⟨fun _ => .iface 134 (.agg #[vI p1.f_at,vI p1.f_stop.f_place,vI p1.f_stop.f_toll]),fun _ => noR,fun _ => []⟩,⟨fun _ => .agg #[vI p1.f_at,vI p1.f_stop.f_place,vI p1.f_stop.f_toll],fun _ => noR,fun _ => []⟩,⟨fun ξ1 => .slice (some ⟨(ξ1 6 0).2.1,0,none⟩) 1 1,fun _ => noR,fun ξ1 => [aI (some ⟨(ξ1 6 0).2.1,0,none⟩) 1 134 3 1 (encL ay [p1])]⟩,⟨fun ξ1 => .slice (ξ1 7 0).1 (p0.length + 1) (ξ1 7 0).2.2.1,fun ξ1 => aI (ξ1 7 0).1 (ξ1 7 0).2.2.1 134 3 (p0.length + 1) (encL ay (p0 ++ [p1])),fun _ => []⟩,⟨fun _ => .pointer (some ⟨bq0,0,none⟩),fun _ => noR,fun _ => []⟩,⟨fun _ => undef,fun ξ1 => aj bq0 136 [.slice (ξ1 7 0).1 (p0.length + 1) (ξ1 7 0).2.2.1],fun _ => []⟩] 3 cm (by kernel_rfl) (by kernel_rfl) ⟨⟨fun ξ1 ξ1' h => ⟨rfl,rfl,rfl⟩,fun _ => rfl⟩,⟨fun ξ1 ξ1' h => ⟨rfl,rfl,rfl⟩,fun _ => rfl⟩,⟨fun ξ1 ξ1' h => ⟨rfl,rfl,rfl⟩,fun _ => rfl⟩,⟨fun ξ1 ξ1' h => ⟨rfl,rfl,rfl⟩,fun _ => rfl⟩,⟨fun ξ1 ξ1' h => ⟨rfl,rfl,rfl⟩,fun _ => rfl⟩,⟨fun ξ1 ξ1' h => ⟨rfl,rfl,rfl⟩,fun _ => rfl⟩,⟨fun ξ1 ξ1' h => ⟨by simp only [h 6 (.inl rfl)],rfl,by simp only [h 6 (.inl rfl)]⟩,fun _ => rfl⟩,⟨fun ξ1 ξ1' h => ⟨by simp only [h 7 (.inl rfl)],by simp only [h 7 (.inl rfl)],rfl⟩,fun _ => rfl⟩,⟨fun ξ1 ξ1' h => ⟨rfl,rfl,rfl⟩,fun _ => rfl⟩,⟨fun ξ1 ξ1' h => ⟨rfl,by simp only [h 7 (.inr rfl)],rfl⟩,fun _ => rfl⟩,trivial⟩ rfl (fun ξ1 => ?_)
 refine bJ rfl (fun L2 => ?_) ?_
 ·dsimp only [aC,lca,lna]
  refine oY rfl (j8 rfl) (oN ?_)
  exact ar (fun _ => (none,0,0,[],noR)) rfl (List.append_nil _)
 dsimp only [bw,lsz,lss,lna,lca,List.append_nil]
 refine bJ rfl (fun L2 => ?_) ?_
 ·dsimp only [aC,lca,lna]
  refine oY rfl (j8 rfl) (oN ?_)
  exact ar (fun _ => (none,0,0,[],noR)) rfl (List.append_nil _)
 dsimp only [bw,lsz,lss,lna,lca,List.append_nil]
 refine bJ rfl (fun L2 => ?_) ?_
 ·dsimp only [aC,lca,lna]
  refine oY rfl (iV rfl) (oN ?_)
  exact ar (fun _ => (none,0,0,[],noR)) rfl (List.append_nil _)
 dsimp only [bw,lsz,lss,lna,lca,List.append_nil]
 refine bJ rfl (fun L2 => ?_) ?_
 ·dsimp only [aC,lca,lna]
  refine oY rfl (yL 1 iT rfl rfl rfl) (oN ?_)
  exact ar (fun _ => (none,0,0,[],noR)) rfl (List.append_nil _)
 dsimp only [bw,lsz,lss,lna,lca,List.append_nil]
 refine bJ rfl (fun L2 => ?_) ?_
 ·dsimp only [aC,lca,lna]
  refine oY rfl (bH (v:=.iface 134 (.agg #[vI p1.f_at,vI p1.f_stop.f_place,vI p1.f_stop.f_toll])) rfl) (oN ?_)
  exact ar (fun _ => (none,0,0,[],noR)) rfl (List.append_nil _)
 dsimp only [bw,lsz,lss,lna,lca,List.append_nil]
 refine bJ rfl (fun L2 => ?_) ?_
 ·dsimp only [aC,lca,lna]
  refine oY rfl (l6 pq rfl) (oN ?_)
  exact ar (fun _ => (none,0,0,[],noR)) rfl (List.append_nil _)
 dsimp only [bw,lsz,lss,lna,lca,List.append_nil]
 refine bJ rfl (fun L2 => ?_) ?_
 ·dsimp only [aC,lca,lna]
  refine aG 1 (encL ay [p1]) _ qA nZ nx tb (by decide) (by decide) (by kernel_rfl) (eL aP rfl) rfl (fun b2 => ?_)
  refine oN ?_
  exact ar (fun _ => (none,b2,0,[],noR)) rfl rfl
 dsimp only [bw,lsz,lss,lna,lca,List.append_nil]
 refine bJ rfl (fun L2 => ?_) ?_
 ·dsimp only [aC,lca,lna]
  refine bn 2 nZ nx tb rfl rfl rfl (RdL.row 3 rfl) (eL aP rfl) (bO na _) (bW hg5 (by decide)) rfl (fun A3 c4 => ?_)
  refine oN ?_
  first | exact ar (fun _ => (A3,0,c4,[],noR)) rfl rfl | exact ar (fun _ => (A3,0,c4,[],noR)) rfl (List.append_nil _)
 dsimp only [bw,lsz,lss,lna,lca,List.append_nil]
 refine bJ rfl (fun L2 => ?_) ?_
 ·dsimp only [aC,lca,lna]
  refine oY rfl (iV rfl) (oN ?_)
  exact ar (fun _ => (none,0,0,[],noR)) rfl (List.append_nil _)
 dsimp only [bw,lsz,lss,lna,lca,List.append_nil]
 refine qI rfl (fun L2 => ?_) ?_
 ·dsimp only [aC,lca,lna]
  refine bT rfl (cv 1 (v:=.slice (ξ1 7 0).1 (p0.length + 1) (ξ1 7 0).2.2.1) sz_136 rfl (Nat.lt_of_lt_of_le (Nat.lt_succ_self _) (nB rfl)) rfl rfl rfl) (oN ?_)
  first | exact bA (fun _ => (none,0,0,[],noR)) rfl | exact bA (fun _ => (none,0,0,[],noR)) (List.append_nil _)
 dsimp only [bw,lsz,lss,lna,lca,List.append_nil]
 refine jm ?_
 obtain rfl:=sI h
 exact bR (.inr rfl) rfl  (fun W2 hW2 => ⟨((ξ1 7 0).1,(p0.length + 1),(ξ1 7 0).2.2.1),(dT rfl rfl),rfl,hW2.take 3⟩)
theorem ju (p0:(List Twait)) (p1:Twait) (res:(List Twait)) (h:fe p0 p1 = some res) (W:World) (w0:World) (R:Res) (bq0:Nat) (Aa:Option Addr) (n0_0 ca : Nat) (hn0_0:n0_0 = p0.length) (hW:Ext w0 W [R,aj bq0 136 [.slice Aa n0_0 ca],aI Aa ca 134 3 n0_0 (encL ay p0)]) :
  Calls Tryz.prog 79 [.iface 132 (.pointer (some ⟨bq0,0,none⟩)),.iface 134 (.agg #[vI p1.f_at,vI p1.f_stop.f_place,vI p1.f_stop.f_toll])].toArray W fun e W2 => ∃ x : (Option Addr × Nat × Nat),x.2.1 = res.length ∧ e = .returned (.tuple #[]) ∧ Ext w0 W2 [R,aj bq0 136 [.slice x.1 x.2.1 x.2.2],aI x.1 x.2.2 134 3 x.2.1 (encL ay res)]:=by
 subst hn0_0
 unfold fe at h
 refine aM (m:=12) Tryz.func79 rfl rfl (nB rfl) hW (cS (cR (oY rfl (bH (v:=.iface 132 (.pointer (some ⟨bq0,0,none⟩))) rfl) (oY rfl (bH (v:=.iface 134 (.agg #[vI p1.f_at,vI p1.f_stop.f_place,vI p1.f_stop.f_toll])) rfl) ?_))))
 obtain ⟨y1,hy2,h⟩:=bOs h
 refine kh [1,2] [.pointer (some ⟨bq0,0,none⟩)] [.iface 134 (.agg #[vI p1.f_at,vI p1.f_stop.f_place,vI p1.f_stop.f_toll])] [] (fun (x:(Option Addr × Nat × Nat)) => x.2.1 = y1.length) (fun _ => .tuple #[]) (fun x => [aj bq0 136 [.slice x.1 x.2.1 x.2.2],aI x.1 x.2.2 134 3 x.2.1 (encL ay y1)]) (fun _ => []) (Foc.c2 rfl rfl) (by decide) rfl go_162 (exM_P p9 jn go_162 rfl) rfl (fun _ => rfl) (fun W2 hW2 => la p0 p1 y1 hy2 W2 _ (cD [R,aj bq0 136 [.slice Aa p0.length ca],aI Aa ca 134 3 p0.length (encL ay p0)] [1,2]) bq0 Aa p0.length ca rfl hW2) ?_
 rintro ⟨A3,n4,c5⟩ hn6
 replace hn6 : n4 = y1.length:=hn6; subst hn6
 try dsimp only [kO,lsz,lss,List.append_nil]
 refine oN (eT (cR (oY rfl (bH (v:=.iface 132 (.pointer (some ⟨bq0,0,none⟩))) rfl) (oY rfl (bH (v:=.iface 132 (.pointer (some ⟨bq0,0,none⟩))) rfl) ?_))))
 obtain ⟨y7,hy8,h⟩:=bOs h
 refine oY rfl (j9 1 [] rfl oy jn iT go_76 rfl rfl (fun W2 hW2 => f7 y1 y7 hy8 W2 A3 y1.length c5 rfl ((RdL.row 2 rfl) W2 hW2))) (oY rfl (dV rfl rfl) ?_)
 obtain ⟨y9,hy10,h⟩:=bOs h
 refine fF [1,2] [] [.iface 132 (.pointer (some ⟨bq0,0,none⟩)),vI (w64 (y7 - 1))] [] (fun (x:(Option Addr × Nat × Nat)) => x.2.1 = y9.length) (fun _ => .tuple #[]) (fun x => [aj bq0 136 [.slice x.1 x.2.1 x.2.2],aI x.1 x.2.2 134 3 x.2.1 (encL ay y9)]) (fun _ => []) (Foc.c2 rfl rfl) (by decide) rfl go_114 rfl rfl (fun _ => rfl) (fun W2 hW2 => kk y1 (w64 (y7 - 1)) y9 hy10 W2 _ (cD [R,aj bq0 136 [.slice A3 y1.length c5],aI A3 c5 134 3 y1.length (encL ay y1)] [1,2]) bq0 A3 y1.length c5 rfl hW2) ?_
 rintro ⟨A11,n12,c13⟩ hn14
 replace hn14 : n12 = y9.length:=hn14; subst hn14
 try dsimp only [kO,lsz,lss,List.append_nil]
 refine oN ?_
 obtain rfl:=sI h
 exact bR (.inr rfl) rfl  (fun W2 hW2 => ⟨(A11,y9.length,c13),rfl,rfl,hW2.take 3⟩)
theorem kz (p0:TR) (p1:Int) (p2:Int) (res:(List (Ts × Tl))) (h:i2 p0 p1 p2 = some res) (W:World) (Ab:Option Addr) (n0_1 cb : Nat) (ys0_1:List (Hd × TT)) (hn0_1:n0_1 = p0.fT.length) (hr0_1:Rd W Ab n0_1 cb (encL TTrack_cells2 ys0_1)) (hN0_1:NestW W (fun z : TT => z.fK) TSpan_cells ys0_1 p0.fT) :
  Calls Tryz.prog 48 [.agg #[vI p0.fL,.slice Ab n0_1 cb],vI p1,vI p2].toArray W fun e W2 => ∃ x : Nat,e = .returned (.map (some x)) ∧ Ext W W2 [mapV Tryz.prog 127 cl bq bY (Tl.mk 0 (Ts.mk 0 0) (TLeg.mk 0 0) false) x res]:=by
 subst hn0_1
 unfold i2 at h
 refine pD (m:=122) Tryz.func48 rfl rfl (nB rfl) (cS (cR ?_))
 refine aO [vI p0.fL,.slice Ab p0.fT.length cb] rfl rfl rfl (fun b1 => ?_)
 refine oY rfl (ed rfl) (oN (eT (cS (cR ?_))))
 refine jh 127 cl bq bY (Tl.mk 0 (Ts.mk 0 0) (TLeg.mk 0 0) false) rfl (fun b2 => ?_)
 refine oY rfl (yMI rfl) ?_
 refine oY rfl (aL [vI p1,vI 0] [(0,1),(1,1)] mN od (by kernel_rfl)) ?_
 refine oY rfl (yMI rfl) ?_
 refine oY rfl (aL [vI p2,vI 0,vI 0,vI 0,vI 0,.bool true] [(0,1),(1,2),(3,2),(5,1)] rF jk (by kernel_rfl)) ?_
 obtain ⟨hg3,h⟩:=gOs h
 refine bT rfl (tc 1 (k:=(Ts.mk p1 0)) (v:=(Tl.mk p2 (Ts.mk 0 0) (TLeg.mk 0 0) true)) rfl l8 py rfl rfl rfl hg3) (oY rfl (cG rfl) ?_)
 refine aB ze_97 rfl (fun b4 => ?_)
 refine bT rfl (cv 2 (v:=.map (some b2)) sz_97 rfl (Nat.lt_of_lt_of_le (Nat.lt_succ_self _) (nB rfl)) rfl rfl rfl) (oN (eT (cS (cR (oY rfl (yMI rfl) (oY rfl (yMI rfl) ?_))))))
 refine oY rfl (aL [vI p1,vI 0] [(0,1),(1,1)] mN od (by kernel_rfl)) ?_
 refine oY rfl (aL [vI p2,vI p1,vI 0] [(0,1),(1,2)] sH nx (by kernel_rfl)) ?_
 refine aG 1 (encL ay [(Twait.mk p2 (Ts.mk p1 0))]) _ qA nZ nx tb (by decide) (by decide) (by kernel_rfl) (eL aP rfl) rfl (fun b5 => ?_)
 refine aO [.slice (some ⟨b5,0,none⟩) 1 1] rfl rfl rfl (fun b6 => ?_)
 refine aB ze_132 rfl (fun b7 => ?_)
 try dsimp only [lna,lca,lsz,lss]
 refine bT rfl (cv 5 (v:=.pointer (some ⟨b6,0,none⟩)) sz_132 rfl (Nat.lt_of_lt_of_le (Nat.lt_succ_self _) (nB rfl)) rfl rfl rfl) (oN (eT (cS (cB ?_))))
 obtain ⟨u11,hl70,h⟩:=bOs h
 refine sJ ?_
 refine cx_loopD (fun (s:((List Twait) × (List (Ts × Tl)))) L tm d => ∃ (tm0:Nat → Value) (A3_s:Option Addr) (c3_s:Nat) (n3_s:Nat) (Ds_s:List Nat),Ds_s.Nodup ∧ n3_s = s.1.length ∧ L = [aj b1 24 [vI p0.fL,.slice Ab p0.fT.length cb],mapV Tryz.prog 127 cl bq bY (Tl.mk 0 (Ts.mk 0 0) (TLeg.mk 0 0) false) b2 s.2,aj b4 97 [.map (some b2)],aI A3_s c3_s 134 3 n3_s (encL ay s.1),aj b6 136 [.slice A3_s n3_s c3_s],aj b7 132 [.pointer (some ⟨b6,0,none⟩)],lT Ds_s] ∧ tm = (upd (upd (upd (upd tm0 3 (.pointer (some ⟨b1,0,none⟩))) 6 (.map none)) 7 (.pointer (some ⟨b4,0,none⟩))) 8 (.pointer (some ⟨b7,0,none⟩))) ∧ d = colD Ds_s) (fun s e L tm d => e = .exit 0 ∧ ∃ (tm0:Nat → Value) (A3_s:Option Addr) (c3_s:Nat) (n3_s:Nat) (Ds_s:List Nat),Ds_s.Nodup ∧ n3_s = s.1.length ∧ L = [aj b1 24 [vI p0.fL,.slice Ab p0.fT.length cb],mapV Tryz.prog 127 cl bq bY (Tl.mk 0 (Ts.mk 0 0) (TLeg.mk 0 0) false) b2 s.2,aj b4 97 [.map (some b2)],aI A3_s c3_s 134 3 n3_s (encL ay s.1),aj b6 136 [.slice A3_s n3_s c3_s],aj b7 132 [.pointer (some ⟨b6,0,none⟩)],lT Ds_s] ∧ tm = (upd (upd (upd (upd tm0 3 (.pointer (some ⟨b1,0,none⟩))) 6 (.map none)) 7 (.pointer (some ⟨b4,0,none⟩))) 8 (.pointer (some ⟨b7,0,none⟩))) ∧ d = colD Ds_s) hl70 ⟨_,(some ⟨b5,0,none⟩),1,1,[],List.nodup_nil,rfl,rfl,(kp4 rfl),rfl⟩ ?_ ?_
 ·rintro s10 L tm d st ⟨tm0_s10,A3_s10,c3_s10,n3_s10,Ds_s10,hd_s10,rfl,rfl,rfl,rfl⟩ h
  unfold kw at h
  refine cS (cS (cR ?_))
  try dsimp only [lna,lca,lsz,lss]
  refine oY rfl (yL 5 rW rfl rfl rfl) (oY rfl (iV rfl) (oY rfl (yL 4 iT rfl rfl rfl) ?_))
  obtain ⟨y12,hy13,h⟩:=bOs h
  refine oY rfl (yC [.slice A3_s10 s10.1.length c3_s10] go_76 rfl (fun W2 hW2 => f7 s10.1 y12 hy13 W2 A3_s10 s10.1.length c3_s10 rfl ((RdL.row 3 rfl) W2 hW2)) rfl) (oY rfl (eI rfl rfl) (oN (eT ?_)))
  rcases iOs h with ⟨hp14,h⟩ | ⟨hp14,h⟩
  ·refine cT (vB hp14) (cK (eT (cB (cS (cR (oY rfl (yL 5 rW rfl rfl rfl) (oY rfl (jf sV rfl) ?_)))))))
   obtain ⟨y15,hy16,h⟩:=bOs h
   refine fF [4,3] [] [.iface 132 (.pointer (some ⟨b6,0,none⟩))] [] (fun (x:(Option Addr × Nat × Nat)) => x.2.1 = y15.2.length) (fun _ => .iface 134 (.agg #[vI y15.1.f_at,vI y15.1.f_stop.f_place,vI y15.1.f_stop.f_toll])) (fun x => [aj b6 136 [.slice x.1 x.2.1 x.2.2],aI x.1 x.2.2 134 3 x.2.1 (encL ay y15.2)]) (fun _ => []) (Foc.c2 rfl rfl) (by decide) rfl go_77 rfl rfl (fun _ => rfl) (fun W2 hW2 => jV s10.1 y15 hy16 W2 _ (cD [aj b1 24 [vI p0.fL,.slice Ab p0.fT.length cb],mapV Tryz.prog 127 cl bq bY (Tl.mk 0 (Ts.mk 0 0) (TLeg.mk 0 0) false) b2 s10.2,aj b4 97 [.map (some b2)],aI A3_s10 c3_s10 134 3 s10.1.length (encL ay s10.1),aj b6 136 [.slice A3_s10 s10.1.length c3_s10],aj b7 132 [.pointer (some ⟨b6,0,none⟩)],lT Ds_s10] [4,3]) b6 A3_s10 s10.1.length c3_s10 rfl hW2) ?_
   rintro ⟨A17,n18,c19⟩ hn20
   replace hn20 : n18 = y15.2.length:=hn20; subst hn20
   try dsimp only [kO,lsz,lss,List.append_nil]
   refine oY rfl (l6 pq rfl) ?_
   refine aB nx rfl (fun b21 => ?_)
   try dsimp only [lna,lca,lsz,lss]
   refine bT rfl (yS 7 [vI y15.1.f_at,vI y15.1.f_stop.f_place,vI y15.1.f_stop.f_toll] q6 rfl (nB rfl) rfl rfl rfl) (oN (eT (cS (cS ?_))))
   refine ba 8 cm (by kernel_rfl) (by kernel_rfl) ?_
   refine qY rfl (yL 2 sc_97 rfl rfl rfl) (qY rfl (yFA mA rfl) (qY rfl (yN 7 [vI y15.1.f_stop.f_place,vI y15.1.f_stop.f_toll] ma rfl rfl rfl) ?_))
   obtain ⟨hg22,h⟩:=gOs h
   refine qY rfl (jA (k:=y15.1.f_stop) (MpL.own 1 rfl) l8 py jk rfl rfl hg22) (qY rfl (qZ [vI ((az (Tl.mk 0 (Ts.mk 0 0) (TLeg.mk 0 0) false) s10.2 y15.1.f_stop).f_at),vI ((az (Tl.mk 0 (Ts.mk 0 0) (TLeg.mk 0 0) false) s10.2 y15.1.f_stop).f_from.f_place),vI ((az (Tl.mk 0 (Ts.mk 0 0) (TLeg.mk 0 0) false) s10.2 y15.1.f_stop).f_from.f_toll),vI ((az (Tl.mk 0 (Ts.mk 0 0) (TLeg.mk 0 0) false) s10.2 y15.1.f_stop).f_leg.fTrack),vI ((az (Tl.mk 0 (Ts.mk 0 0) (TLeg.mk 0 0) false) s10.2 y15.1.f_stop).f_leg.fHour),.bool ((az (Tl.mk 0 (Ts.mk 0 0) (TLeg.mk 0 0) false) s10.2 y15.1.f_stop).f_begin)] (v:=vI ((az (Tl.mk 0 (Ts.mk 0 0) (TLeg.mk 0 0) false) s10.2 y15.1.f_stop).f_at)) qN aV rfl rfl) (qY rfl (yFA mI rfl) (qY rfl (yL 7 aV rfl rfl rfl) (qY rfl (bm rfl rfl) (bX (oN (eT ?_)))))))
   rcases iOs h with ⟨hp23,h⟩ | ⟨hp23,h⟩
   ·refine cT (vB hp23) (aH (ah (ac (aQ 7 ?_))))
    obtain rfl:=sI h
    exact qV ⟨_,A17,c19,y15.2.length,Ds_s10,hd_s10,rfl,rfl,(kp4 rfl),rfl⟩
   ·refine cF (vB hp23) (cK (eT (cS (cR (oY rfl (yN 0 [vI p0.fL,.slice Ab p0.fT.length cb] dl rfl rfl rfl) (oY rfl (yFA mA rfl) (oY rfl (yFA fo_127_0 rfl) (oY rfl (yL 7 aV rfl rfl rfl) ?_))))))))
    obtain ⟨y24,hy25,h⟩:=bOs h
    refine lv [.agg #[vI p0.fL,.slice Ab p0.fT.length cb],vI y15.1.f_stop.f_place] _ _ rfl go_78 rfl (fun W2 hW2 => nP p0 y15.1.f_stop.f_place y24 hy25 W2 Ab p0.fT.length cb ys0_1 rfl ((RdL.arg hr0_1) W2 hW2) (NestL.at (NestL.arg hN0_1) W2 hW2)) ?_
    rintro ⟨b26,b27⟩
    try dsimp only [lna,lca,lsz,lss]
    refine oN (eT (cB ?_))
    obtain ⟨hok65,h⟩:=gOs h
    obtain ⟨u41,hl64,h⟩:=bOs h
    refine sP (enc:=fun y : {y : Hd × TT // y ∈ ys0_1} => .agg #[vI y.1.2.fID,vI y.1.2.fFrom,vI y.1.2.fTo,vI y.1.2.fLong,vI y.1.2.fToll,.slice y.1.1.1 y.1.1.2.1 y.1.1.2.2]) (bodyf:=fun s y => gd y15 s y.1.2) (caps:=[.pointer (some ⟨b26,0,none⟩),.pointer (some ⟨b27,0,none⟩)]) (fun (s:((List (Ts × Tl)) × (List Twait))) L => ∃ (A3_s:Option Addr) (c3_s:Nat) (n3_s:Nat),n3_s = s.2.length ∧ L = [aj b1 24 [vI p0.fL,.slice Ab p0.fT.length cb],mapV Tryz.prog 127 cl bq bY (Tl.mk 0 (Ts.mk 0 0) (TLeg.mk 0 0) false) b2 s.1,aj b4 97 [.map (some b2)],aI A3_s c3_s 134 3 n3_s (encL ay s.2),aj b6 136 [.slice A3_s n3_s c3_s],aj b7 132 [.pointer (some ⟨b6,0,none⟩)],lT Ds_s10,aj b21 134 [vI y15.1.f_at,vI y15.1.f_stop.f_place,vI y15.1.f_stop.f_toll],aj b26 24 [vI p0.fL,.slice Ab p0.fT.length cb],aj b27 3 [vI y15.1.f_stop.f_place]]) (fun (_:Unit) _ _ => False) (rh (xs:=p0.fT) hN0_1.p.eq hl64) rfl go_113 (lM (p0,y15.1.f_stop.f_place) hok65 b26 b27 Ab p0.fT.length cb ys0_1 rfl hN0_1.p) (fun W2 s L hI hW2 => by obtain ⟨A3_s,c3_s,n3_s,rfl,rfl⟩:=hI; exact ⟨hW2.mem (i:=8) rfl,hW2.mem (i:=9) rfl,(RdL.arg hr0_1) W2 hW2⟩) ⟨A17,c19,y15.2.length,rfl,rfl⟩ (fun W2 hW2 s L hI => by obtain ⟨A3_s,c3_s,n3_s,rfl,rfl⟩:=hI; exact (.cons Cy.cells (.cons (Cy.mapV (Res.inb (mapV Tryz.prog 127 cl bq bY (Tl.mk 0 (Ts.mk 0 0) (TLeg.mk 0 0) false) b2 _) W2 (hW2.mem (i:=1) rfl) _ rfl)) (.cons Cy.cells (.cons Cy.row (.cons Cy.cells (.cons Cy.cells (.cons Cy.dfs (.cons Cy.cells (.cons Cy.cells (.cons Cy.cells CyL.nil))))))))))) (fun _ _ _ _ _ h => h.elim) (fun _ _ _ h => h.elim) ?_ ?_ ?_
    ·rintro D28 l29 rec30 s39 ⟨⟨⟨A33,n66,c34⟩,x40⟩,hm32⟩ L st hrec31 ⟨A3_s39,c3_s39,n3_s39,rfl,rfl⟩ h
     have hn67 : n66 = x40.fK.length:=NestP.ln hN0_1.p _ hm32
     subst hn67
     replace h : gd y15 s39 x40 = _:=h
     unfold gd at h
     refine cR ?_
     try dsimp only [lna,lca,lsz,lss]
     refine aB iK rfl (fun b42 => ?_)
     try dsimp only [lna,lca,lsz,lss]
     refine bT rfl (yS 12 [vI x40.fID,vI x40.fFrom,vI x40.fTo,vI x40.fLong,vI x40.fToll,.slice A33 x40.fK.length c34] qh rfl (nB rfl) rfl rfl rfl) (oN (ex_begin 11 rfl hrec31 (cB (cS (cR (oY rfl (yN 12 [vI x40.fID,vI x40.fFrom,vI x40.fTo,vI x40.fLong,vI x40.fToll,.slice A33 x40.fK.length c34] jJ rfl rfl rfl) (oY rfl (yFA mI rfl) (oY rfl (yL 7 aV rfl rfl rfl) ?_))))))))
     obtain ⟨y43,hy44,h⟩:=bOs h
     refine oY rfl (yC [.agg #[vI x40.fID,vI x40.fFrom,vI x40.fTo,vI x40.fLong,vI x40.fToll,.slice A33 x40.fK.length c34],vI y15.1.f_at] go_39 rfl (fun W2 hW2 => lD x40 y15.1.f_at y43 hy44 W2 A33 x40.fK.length c34 rfl ((NestL.inn (NestL.arg hN0_1) _ hm32) W2 hW2)) rfl) (oY rfl (aR rfl) (oY rfl (yE rfl rfl) (oY rfl (yE rfl rfl) (oY rfl (yAI rfl) (oY rfl (yAB rfl) (oN (eT (cS (cR (oY rfl (yFA kM rfl) (oY rfl (yL 12 aV rfl rfl rfl) (oY rfl (yFA mA rfl) (oY rfl (yFA oz rfl) (oY rfl (yL 7 aV rfl rfl rfl) (oY rfl (yFA mP rfl) (oY rfl (yL 12 aV rfl rfl rfl) (oY rfl (aX rfl rfl) ?_)))))))))))))))))
     refine oY rfl (aL [vI x40.fTo,vI (w64 (y15.1.f_stop.f_toll + x40.fToll))] [(0,1),(1,1)] mN od (by kernel_rfl)) ?_
     refine aB od rfl (fun b45 => ?_)
     try dsimp only [lna,lca,lsz,lss]
     refine bT rfl (yS 13 [vI x40.fTo,vI (w64 (y15.1.f_stop.f_toll + x40.fToll))] sz_127 rfl (nB rfl) rfl rfl rfl) (oN (eT (cS (cS (cR (oY rfl (yMB rfl) (oY rfl (bM rfl) (oY rfl (yMB rfl) ?_))))))))
     refine oJ 4 (fun tm0 => (upd (upd (upd (upd (upd (upd (upd (upd (upd (upd (upd (upd (upd tm0 3 (.pointer (some ⟨b1,0,none⟩))) 6 (.map none)) 7 (.pointer (some ⟨b4,0,none⟩))) 8 (.pointer (some ⟨b7,0,none⟩))) 32 (.bool (decide (0 < y12)))) 9 (.pointer (some ⟨b21,0,none⟩))) 44 (.bool (decide ((az (Tl.mk 0 (Ts.mk 0 0) (TLeg.mk 0 0) false) s10.2 y15.1.f_stop).f_at < y15.1.f_at)))) 49 (.func (.func 113) #[] #[.pointer (some ⟨b26,0,none⟩),.pointer (some ⟨b27,0,none⟩)])) 10 (.pointer (some ⟨b42,0,none⟩))) 11 (vI y43.1)) 12 (.bool y43.2)) 13 (.pointer (some ⟨b45,0,none⟩))) 73 (.bool ((!y43.2) || (decide (60 < w64 (y15.1.f_stop.f_toll + x40.fToll))))))) (fun tm0 => ?_) (fun key => ?_)
     ·refine oY rfl (yMB rfl) ?_
      obtain ⟨b48,hb49,h⟩:=bOs h
      refine oJ 7 (fun tm0 => (upd (upd (upd (upd (upd (upd (upd (upd (upd (upd (upd (upd (upd tm0 3 (.pointer (some ⟨b1,0,none⟩))) 6 (.map none)) 7 (.pointer (some ⟨b4,0,none⟩))) 8 (.pointer (some ⟨b7,0,none⟩))) 32 (.bool (decide (0 < y12)))) 9 (.pointer (some ⟨b21,0,none⟩))) 44 (.bool (decide ((az (Tl.mk 0 (Ts.mk 0 0) (TLeg.mk 0 0) false) s10.2 y15.1.f_stop).f_at < y15.1.f_at)))) 49 (.func (.func 113) #[] #[.pointer (some ⟨b26,0,none⟩),.pointer (some ⟨b27,0,none⟩)])) 10 (.pointer (some ⟨b42,0,none⟩))) 11 (vI y43.1)) 12 (.bool y43.2)) 13 (.pointer (some ⟨b45,0,none⟩))) 81 (.bool b48))) (fun tm0 => ?_) (fun key => ?_)
      ·refine oN (eT ?_)
       rcases iOs h with ⟨hp50,h⟩ | ⟨hp50,h⟩
       ·refine cT (vB hp50) (aH (ah (ac (aQ 12 ?_))))
        obtain rfl:=sI h
        exact pl [aj b1 24 [vI p0.fL,.slice Ab p0.fT.length cb],mapV Tryz.prog 127 cl bq bY (Tl.mk 0 (Ts.mk 0 0) (TLeg.mk 0 0) false) b2 s39.1,aj b4 97 [.map (some b2)],aI A3_s39 c3_s39 134 3 s39.2.length (encL ay s39.2),aj b6 136 [.slice A3_s39 s39.2.length c3_s39],aj b7 132 [.pointer (some ⟨b6,0,none⟩)],lT Ds_s10,aj b21 134 [vI y15.1.f_at,vI y15.1.f_stop.f_place,vI y15.1.f_stop.f_toll],aj b26 24 [vI p0.fL,.slice Ab p0.fT.length cb],aj b27 3 [vI y15.1.f_stop.f_place]] ⟨A3_s39,c3_s39,s39.2.length,rfl,rfl⟩
       ·refine cF (vB hp50) (cK (eT (cS (cS (cR (oY rfl (yL 2 sc_97 rfl rfl rfl) (oY rfl (yN 13 [vI x40.fTo,vI (w64 (y15.1.f_stop.f_toll + x40.fToll))] ma rfl rfl rfl) ?_)))))))
        obtain ⟨hg51,h⟩:=gOs h
        refine oY rfl (lQ (k:=(Ts.mk x40.fTo (w64 (y15.1.f_stop.f_toll + x40.fToll)))) (MpL.own 1 rfl) l8 py jk rfl rfl hg51) (oY rfl (aR rfl) (oY rfl (yE rfl rfl) (oY rfl (yE rfl rfl) ?_)))
        refine aB jk rfl (fun b52 => ?_)
        try dsimp only [lna,lca,lsz,lss]
        refine bT rfl (yS 14 [vI ((az (Tl.mk 0 (Ts.mk 0 0) (TLeg.mk 0 0) false) s39.1 (Ts.mk x40.fTo (w64 (y15.1.f_stop.f_toll + x40.fToll)))).f_at),vI ((az (Tl.mk 0 (Ts.mk 0 0) (TLeg.mk 0 0) false) s39.1 (Ts.mk x40.fTo (w64 (y15.1.f_stop.f_toll + x40.fToll)))).f_from.f_place),vI ((az (Tl.mk 0 (Ts.mk 0 0) (TLeg.mk 0 0) false) s39.1 (Ts.mk x40.fTo (w64 (y15.1.f_stop.f_toll + x40.fToll)))).f_from.f_toll),vI ((az (Tl.mk 0 (Ts.mk 0 0) (TLeg.mk 0 0) false) s39.1 (Ts.mk x40.fTo (w64 (y15.1.f_stop.f_toll + x40.fToll)))).f_leg.fTrack),vI ((az (Tl.mk 0 (Ts.mk 0 0) (TLeg.mk 0 0) false) s39.1 (Ts.mk x40.fTo (w64 (y15.1.f_stop.f_toll + x40.fToll)))).f_leg.fHour),.bool ((az (Tl.mk 0 (Ts.mk 0 0) (TLeg.mk 0 0) false) s39.1 (Ts.mk x40.fTo (w64 (y15.1.f_stop.f_toll + x40.fToll)))).f_begin)] pJ rfl (nB rfl) rfl rfl rfl) (oY rfl (yAB rfl) (oN (eT (cS (cR (oY rfl (yMB rfl) (oY rfl (yMB rfl) ?_)))))))
        refine oJ 8 (fun tm0 => (upd (upd (upd (upd (upd (upd (upd (upd (upd (upd (upd (upd (upd (upd (upd (upd tm0 3 (.pointer (some ⟨b1,0,none⟩))) 6 (.map none)) 7 (.pointer (some ⟨b4,0,none⟩))) 8 (.pointer (some ⟨b7,0,none⟩))) 32 (.bool (decide (0 < y12)))) 9 (.pointer (some ⟨b21,0,none⟩))) 44 (.bool (decide ((az (Tl.mk 0 (Ts.mk 0 0) (TLeg.mk 0 0) false) s10.2 y15.1.f_stop).f_at < y15.1.f_at)))) 49 (.func (.func 113) #[] #[.pointer (some ⟨b26,0,none⟩),.pointer (some ⟨b27,0,none⟩)])) 10 (.pointer (some ⟨b42,0,none⟩))) 11 (vI y43.1)) 12 (.bool y43.2)) 13 (.pointer (some ⟨b45,0,none⟩))) 81 (.bool b48)) 14 (.pointer (some ⟨b52,0,none⟩))) 15 (.bool (bl s39.1 (Ts.mk x40.fTo (w64 (y15.1.f_stop.f_toll + x40.fToll)))))) 97 (.bool ((bl s39.1 (Ts.mk x40.fTo (w64 (y15.1.f_stop.f_toll + x40.fToll)))) && (decide ((az (Tl.mk 0 (Ts.mk 0 0) (TLeg.mk 0 0) false) s39.1 (Ts.mk x40.fTo (w64 (y15.1.f_stop.f_toll + x40.fToll)))).f_at ≤ w64 (y43.1 + x40.fLong))))))) (fun tm0 => ?_) (fun key => ?_)
        ·refine oN (eT ?_)
         rcases iOs h with ⟨hp54,h⟩ | ⟨hp54,h⟩
         ·refine cT (vB hp54) (aH (ah (ac (aQ 12 ?_))))
          obtain rfl:=sI h
          exact pl [aj b1 24 [vI p0.fL,.slice Ab p0.fT.length cb],mapV Tryz.prog 127 cl bq bY (Tl.mk 0 (Ts.mk 0 0) (TLeg.mk 0 0) false) b2 s39.1,aj b4 97 [.map (some b2)],aI A3_s39 c3_s39 134 3 s39.2.length (encL ay s39.2),aj b6 136 [.slice A3_s39 s39.2.length c3_s39],aj b7 132 [.pointer (some ⟨b6,0,none⟩)],lT Ds_s10,aj b21 134 [vI y15.1.f_at,vI y15.1.f_stop.f_place,vI y15.1.f_stop.f_toll],aj b26 24 [vI p0.fL,.slice Ab p0.fT.length cb],aj b27 3 [vI y15.1.f_stop.f_place]] ⟨A3_s39,c3_s39,s39.2.length,rfl,rfl⟩
         ·refine cF (vB hp54) (cK (eT (cS (cR (oY rfl (yL 2 sc_97 rfl rfl rfl) (oY rfl (yN 13 [vI x40.fTo,vI (w64 (y15.1.f_stop.f_toll + x40.fToll))] ma rfl rfl rfl) (oY rfl (yMI rfl) (oY rfl (yFA j5 rfl) (oY rfl (yL 12 aV rfl rfl rfl) (oY rfl (aX rfl rfl) (oY rfl (yFA mA rfl) (oY rfl (yN 7 [vI y15.1.f_stop.f_place,vI y15.1.f_stop.f_toll] ma rfl rfl rfl) (oY rfl (yFA ii rfl) (oY rfl (yL 12 aV rfl rfl rfl) (oY rfl (yMI rfl) ?_)))))))))))))))
          refine oY rfl (aL [vI x40.fID,vI y43.1] [(0,1),(1,1)] ust_129 sn (by kernel_rfl)) ?_
          refine oY rfl (aL [vI (w64 (y43.1 + x40.fLong)),vI y15.1.f_stop.f_place,vI y15.1.f_stop.f_toll,vI x40.fID,vI y43.1,.bool false] [(0,1),(1,2),(3,2),(5,1)] rF jk (by kernel_rfl)) ?_
          obtain ⟨hg55,h⟩:=gOs h
          refine bT rfl (jE 1 (k:=(Ts.mk x40.fTo (w64 (y15.1.f_stop.f_toll + x40.fToll)))) (v:=(Tl.mk (w64 (y43.1 + x40.fLong)) y15.1.f_stop (TLeg.mk x40.fID y43.1) false)) rfl l8 py rfl rfl rfl hg55) (oN (eT (cR (oY rfl (yL 5 rW rfl rfl rfl) (oY rfl (jf sV rfl) (oY rfl (yMI rfl) (oY rfl (yFA j5 rfl) (oY rfl (yL 12 aV rfl rfl rfl) (oY rfl (aX rfl rfl) (oY rfl (yN 13 [vI x40.fTo,vI (w64 (y15.1.f_stop.f_toll + x40.fToll))] ma rfl rfl rfl) ?_))))))))))
          refine oY rfl (aL [vI (w64 (y43.1 + x40.fLong)),vI x40.fTo,vI (w64 (y15.1.f_stop.f_toll + x40.fToll))] [(0,1),(1,2)] sH nx (by kernel_rfl)) ?_
          refine oY rfl (jf pq rfl) ?_
          obtain ⟨y56,hy57,h⟩:=bOs h
          refine fF [4,3] [] [.iface 132 (.pointer (some ⟨b6,0,none⟩)),.iface 134 (.agg #[vI (w64 (y43.1 + x40.fLong)),vI x40.fTo,vI (w64 (y15.1.f_stop.f_toll + x40.fToll))])] [] (fun (x:(Option Addr × Nat × Nat)) => x.2.1 = y56.length) (fun _ => .tuple #[]) (fun x => [aj b6 136 [.slice x.1 x.2.1 x.2.2],aI x.1 x.2.2 134 3 x.2.1 (encL ay y56)]) (fun _ => []) (Foc.c2 rfl rfl) (by decide) rfl go_79 rfl rfl (fun _ => rfl) (fun W2 hW2 => ju s39.2 (Twait.mk (w64 (y43.1 + x40.fLong)) (Ts.mk x40.fTo (w64 (y15.1.f_stop.f_toll + x40.fToll)))) y56 hy57 W2 _ (cD [aj b1 24 [vI p0.fL,.slice Ab p0.fT.length cb],mapV Tryz.prog 127 cl bq bY (Tl.mk 0 (Ts.mk 0 0) (TLeg.mk 0 0) false) b2 (((Ts.mk x40.fTo (w64 (y15.1.f_stop.f_toll + x40.fToll))),(Tl.mk (w64 (y43.1 + x40.fLong)) y15.1.f_stop (TLeg.mk x40.fID y43.1) false)) :: s39.1),aj b4 97 [.map (some b2)],aI A3_s39 c3_s39 134 3 s39.2.length (encL ay s39.2),aj b6 136 [.slice A3_s39 s39.2.length c3_s39],aj b7 132 [.pointer (some ⟨b6,0,none⟩)],lT Ds_s10,aj b21 134 [vI y15.1.f_at,vI y15.1.f_stop.f_place,vI y15.1.f_stop.f_toll],aj b26 24 [vI p0.fL,.slice Ab p0.fT.length cb],aj b27 3 [vI y15.1.f_stop.f_place],dfR D28,lpR l29 { rec30 with state:=.busy },aj b42 39 [vI x40.fID,vI x40.fFrom,vI x40.fTo,vI x40.fLong,vI x40.fToll,.slice A33 x40.fK.length c34],aj b45 127 [vI x40.fTo,vI (w64 (y15.1.f_stop.f_toll + x40.fToll))],aj b52 131 [vI ((az (Tl.mk 0 (Ts.mk 0 0) (TLeg.mk 0 0) false) s39.1 (Ts.mk x40.fTo (w64 (y15.1.f_stop.f_toll + x40.fToll)))).f_at),vI ((az (Tl.mk 0 (Ts.mk 0 0) (TLeg.mk 0 0) false) s39.1 (Ts.mk x40.fTo (w64 (y15.1.f_stop.f_toll + x40.fToll)))).f_from.f_place),vI ((az (Tl.mk 0 (Ts.mk 0 0) (TLeg.mk 0 0) false) s39.1 (Ts.mk x40.fTo (w64 (y15.1.f_stop.f_toll + x40.fToll)))).f_from.f_toll),vI ((az (Tl.mk 0 (Ts.mk 0 0) (TLeg.mk 0 0) false) s39.1 (Ts.mk x40.fTo (w64 (y15.1.f_stop.f_toll + x40.fToll)))).f_leg.fTrack),vI ((az (Tl.mk 0 (Ts.mk 0 0) (TLeg.mk 0 0) false) s39.1 (Ts.mk x40.fTo (w64 (y15.1.f_stop.f_toll + x40.fToll)))).f_leg.fHour),.bool ((az (Tl.mk 0 (Ts.mk 0 0) (TLeg.mk 0 0) false) s39.1 (Ts.mk x40.fTo (w64 (y15.1.f_stop.f_toll + x40.fToll)))).f_begin)]] [4,3]) b6 A3_s39 s39.2.length c3_s39 rfl hW2) ?_
          rintro ⟨A58,n59,c60⟩ hn61
          replace hn61 : n59 = y56.length:=hn61; subst hn61
          try dsimp only [kO,lsz,lss,List.append_nil]
          refine oN (aw (aQ 12 ?_))
          obtain rfl:=sI h
          exact pl [aj b1 24 [vI p0.fL,.slice Ab p0.fT.length cb],mapV Tryz.prog 127 cl bq bY (Tl.mk 0 (Ts.mk 0 0) (TLeg.mk 0 0) false) b2 (((Ts.mk x40.fTo (w64 (y15.1.f_stop.f_toll + x40.fToll))),(Tl.mk (w64 (y43.1 + x40.fLong)) y15.1.f_stop (TLeg.mk x40.fID y43.1) false)) :: s39.1),aj b4 97 [.map (some b2)],aI A58 c60 134 3 y56.length (encL ay y56),aj b6 136 [.slice A58 y56.length c60],aj b7 132 [.pointer (some ⟨b6,0,none⟩)],lT Ds_s10,aj b21 134 [vI y15.1.f_at,vI y15.1.f_stop.f_place,vI y15.1.f_stop.f_toll],aj b26 24 [vI p0.fL,.slice Ab p0.fT.length cb],aj b27 3 [vI y15.1.f_stop.f_place]] ⟨A58,c60,y56.length,rfl,rfl⟩
        ·rcases aq (bl s39.1 (Ts.mk x40.fTo (w64 (y15.1.f_stop.f_toll + x40.fToll)))) with hp53 | hp53
         ·refine oY (sT rfl rfl rfl rfl hp53) (yFA oR rfl) (oY (sT rfl rfl rfl rfl hp53) (yL 14 aV rfl rfl rfl) (oY (sT rfl rfl rfl rfl hp53) (yMI rfl) (oY (sT rfl rfl rfl rfl hp53) (yFA j5 rfl) (oY (sT rfl rfl rfl rfl hp53) (yL 12 aV rfl rfl rfl) (oY (sT rfl rfl rfl rfl hp53) (aX rfl rfl) (oY (sT rfl rfl rfl rfl hp53) (jX rfl rfl) (oY rfl (ae (vB hp53) rfl) ?_)))))))
          exact key _ _ (keep (keep (keep (keep (keep (keep (keep (keep (keep (keep (keep (keep (keep (keep (keep (keep rfl rfl) rfl) rfl) rfl) rfl) rfl) rfl) rfl) rfl) rfl) rfl) rfl) rfl) rfl) rfl) (vB (gh hp53)))
         ·refine oSk (sF rfl rfl rfl rfl hp53) (oSk (sF rfl rfl rfl rfl hp53) (oSk (sF rfl rfl rfl rfl hp53) (oSk (sF rfl rfl rfl rfl hp53) (oSk (sF rfl rfl rfl rfl hp53) (oSk (sF rfl rfl rfl rfl hp53) (oSk (sF rfl rfl rfl rfl hp53) (oY rfl (ag (vB hp53) rfl) ?_)))))))
          exact key _ _ (keep (keep (keep (keep (keep (keep (keep (keep (keep (keep (keep (keep (keep (keep (keep (keep rfl rfl) rfl) rfl) rfl) rfl) rfl) rfl) rfl) rfl) rfl) rfl) rfl) rfl) rfl) rfl) (vB (gq hp53)))
      ·clear h; rcases iOs hb49 with ⟨hp47,h⟩ | ⟨hp47,h⟩
       ·refine oSk (sF rfl rfl rfl rfl hp47) (oSk (sF rfl rfl rfl rfl hp47) (oSk (sF rfl rfl rfl rfl hp47) (oSk (sF rfl rfl rfl rfl hp47) (oSk (sF rfl rfl rfl rfl hp47) (oSk (sF rfl rfl rfl rfl hp47) (oY rfl (ae (vB hp47) rfl) ?_))))))
        obtain rfl:=sI h
        exact key _ _ (kp4 (kp4 (kp4 (kp rfl))))
       ·refine oY (sT rfl rfl rfl rfl hp47) (yMI rfl) (oY (sT rfl rfl rfl rfl hp47) (yFA j5 rfl) (oY (sT rfl rfl rfl rfl hp47) (yL 12 aV rfl rfl rfl) (oY (sT rfl rfl rfl rfl hp47) (aX rfl rfl) ?_)))
        obtain ⟨y62,hy63,h⟩:=bOs h
        refine oY (sT rfl rfl rfl rfl hp47) (yC [vI (w64 (y43.1 + x40.fLong))] oM rfl (fun W2 hW2 => cV (w64 (y43.1 + x40.fLong)) y62 hy63 W2 ) rfl) (oY (sT rfl rfl rfl rfl hp47) (bM rfl) (oY rfl (ag (vB hp47) rfl) ?_))
        obtain rfl:=sI h
        exact key _ _ (kp4 (kp4 (kp4 (kp rfl))))
     ·rcases aq (!y43.2) with hp46 | hp46
      ·refine oSk (sF rfl rfl rfl rfl hp46) (oSk (sF rfl rfl rfl rfl hp46) (oSk (sF rfl rfl rfl rfl hp46) (oY rfl (ae (vB hp46) rfl) ?_)))
       exact key _ _ (keep (keep (keep (keep (keep (keep (keep (keep (keep (keep (keep (keep (keep rfl rfl) rfl) rfl) rfl) rfl) rfl) rfl) rfl) rfl) rfl) rfl) rfl) (vB (iI hp46)))
      ·refine oY (sT rfl rfl rfl rfl hp46) (yFA oz rfl) (oY (sT rfl rfl rfl rfl hp46) (yL 13 aV rfl rfl rfl) (oY (sT rfl rfl rfl rfl hp46) (eI rfl rfl) (oY rfl (ag (vB hp46) rfl) ?_)))
       exact key _ _ (keep (keep (keep (keep (keep (keep (keep (keep (keep (keep (keep (keep (keep rfl rfl) rfl) rfl) rfl) rfl) rfl) rfl) rfl) rfl) rfl) rfl) rfl) (vB (iH hp46)))
    ·rintro D28 u68 L hst ⟨A3_u68,c3_u68,n3_u68,rfl,rfl⟩
     subst hst
     dsimp only at h
     refine aw (aw ?_)
     refine ex_dfs 6 10 (by decide) rfl rfl (fun hd69 => ?_)
     try dsimp only [lsz,lss]
     refine aQ 7 ?_
     obtain rfl:=sI h
     exact qV ⟨_,A3_u68,c3_u68,u68.2.length,(D28 :: Ds_s10),(List.nodup_cons.2 ⟨hd69,hd_s10⟩),rfl,rfl,(kp4 rfl),rfl⟩
    ·intro D28 t e L _ hh
     exact hh.elim
  ·refine cF (vB hp14) (aH (ah ?_))
   obtain rfl:=sI h
   exact ex_stopD ⟨rfl,_,A3_s10,c3_s10,s10.1.length,Ds_s10,hd_s10,rfl,rfl,(kp4 rfl),rfl⟩
 ·intro e L tm d hJ
  obtain ⟨rfl,tm0_u11,A3_u11,c3_u11,n3_u11,Ds_u11,hd_u11,rfl,rfl,rfl,rfl⟩:=hJ
  refine ⟨(by intro hc; cases hc),?_⟩
  refine ac (eT (cS (cR ?_)))
  try dsimp only [lna,lca,lsz,lss]
  refine oY rfl (yL 2 sc_97 rfl rfl rfl) (oY rfl (ed rfl) (oN (eT (al (ex_MN 6 rfl hd_u11 (.inl rfl) ?_)))))
  obtain rfl:=sI h
  exact ap (.inl rfl) rfl (rVt (v:=.map (some b2)) rfl) (fun W2 hW2 => ⟨b2,rfl,(hW2.pick 1 rfl)⟩)
theorem jp (p0:(List (Ts × Tl))) (p1:Int) (res:(List Int)) (h:gC p0 p1 = some res) (W:World) (bm0_0:Nat) (hm0_0:(mapV Tryz.prog 127 cl bq bY (Tl.mk 0 (Ts.mk 0 0) (TLeg.mk 0 0) false) bm0_0 p0).holds W) :
  Calls Tryz.prog 49 [.map (some bm0_0),vI p1].toArray W fun e W2 => ∃ x : Unit,res.length = 61 ∧ e = .returned (.agg (encL cI res).toArray) ∧ Ext W W2 []:=by
 unfold gC at h
 refine ad (m:=39) Tryz.func49 rfl rfl (nB rfl) (cS (cR ?_))
 refine aB qE rfl (fun b1 => ?_)
 refine oN (eT (cS (cR ?_)))
 refine aB qE rfl (fun b2 => ?_)
 refine oN (eT (cS (cR (oY rfl (yAI rfl) (oN (eT (cS (cS (cR (oY rfl (yMI rfl) (oN (eT (cB ?_)))))))))))))
 obtain ⟨u6,hl15,h⟩:=bOs h
 refine bc (fun (s:(Int × Int × (List Int))) L tm => ∃ (tm0:Nat → Value),s.2.2.length = 61 ∧ L = [aj b1 100 (encL cI (List.replicate 61 0)),aj b2 100 (encL cI s.2.2)] ∧ tm = (upd (upd (upd (upd (upd (upd tm0 0 (.map (some bm0_0))) 1 (vI p1)) 4 (.pointer (some ⟨b1,0,none⟩))) 5 (.pointer (some ⟨b2,0,none⟩))) 6 (vI s.1)) 10 (vI s.2.1))) 0 hl15 ⟨_,List.length_replicate,rfl,(kp4 (kp (kp rfl)))⟩ ?_ ?_
 ·rintro s5 L tm st ⟨tm0_s5,hl1_s5,rfl,rfl⟩ h
  unfold jo at h
  refine cS (cR (oY rfl (bm rfl rfl) (oN (eT (cS ?_)))))
  rcases iOs h with ⟨hp7,h⟩ | ⟨hp7,h⟩
  ·refine cT (vB hp7) (cK (eT (cS (cB (cS (cR (oY rfl (yMI rfl) (oY rfl (yAI rfl) (oN (eT (cS (cS (cR (oY rfl (cG rfl) (oY rfl (yMI rfl) (oY rfl (yMI rfl) ?_))))))))))))))))
   refine oY rfl (aL [vI p1,vI s5.2.1] [(0,1),(1,1)] mN od (by kernel_rfl)) ?_
   obtain ⟨hg8,h⟩:=gOs h
   refine oY rfl (lQ (k:=(Ts.mk p1 s5.2.1)) (MpL.arg hm0_0) l8 py jk rfl rfl hg8) (oY rfl (aR rfl) (oY rfl (yE rfl rfl) (oY rfl (yE rfl rfl) ?_)))
   refine aB jk rfl (fun b9 => ?_)
   refine bT rfl (yS 2 [vI ((az (Tl.mk 0 (Ts.mk 0 0) (TLeg.mk 0 0) false) p0 (Ts.mk p1 s5.2.1)).f_at),vI ((az (Tl.mk 0 (Ts.mk 0 0) (TLeg.mk 0 0) false) p0 (Ts.mk p1 s5.2.1)).f_from.f_place),vI ((az (Tl.mk 0 (Ts.mk 0 0) (TLeg.mk 0 0) false) p0 (Ts.mk p1 s5.2.1)).f_from.f_toll),vI ((az (Tl.mk 0 (Ts.mk 0 0) (TLeg.mk 0 0) false) p0 (Ts.mk p1 s5.2.1)).f_leg.fTrack),vI ((az (Tl.mk 0 (Ts.mk 0 0) (TLeg.mk 0 0) false) p0 (Ts.mk p1 s5.2.1)).f_leg.fHour),.bool ((az (Tl.mk 0 (Ts.mk 0 0) (TLeg.mk 0 0) false) p0 (Ts.mk p1 s5.2.1)).f_begin)] pJ rfl (nB rfl) rfl rfl rfl) (oY rfl (yAB rfl) (oN (eT (cS (cR (oY rfl (yMB rfl) (oY rfl (yMB rfl) ?_)))))))
   refine oJ 9 (fun tm0 => (upd (upd (upd (upd (upd (upd (upd (upd (upd (upd (upd tm0 0 (.map (some bm0_0))) 1 (vI p1)) 4 (.pointer (some ⟨b1,0,none⟩))) 5 (.pointer (some ⟨b2,0,none⟩))) 6 (vI s5.1)) 10 (vI s5.2.1)) 11 (.bool (decide (s5.2.1 < 61)))) 7 (vI s5.2.1)) 8 (.pointer (some ⟨b9,0,none⟩))) 9 (.bool (bl p0 (Ts.mk p1 s5.2.1)))) 31 (.bool ((bl p0 (Ts.mk p1 s5.2.1)) && ((decide (s5.1 < 0)) || (decide ((az (Tl.mk 0 (Ts.mk 0 0) (TLeg.mk 0 0) false) p0 (Ts.mk p1 s5.2.1)).f_at < s5.1))))))) (fun tm0 => ?_) (fun key => ?_)
   ·refine oN (eT ?_)
    rcases iOs h with ⟨hp11,h⟩ | ⟨hp11,h⟩
    ·refine cT (vB hp11) (cR (oY rfl (yFA oR rfl) (oY rfl (yL 2 aV rfl rfl rfl) (oY rfl (yAI rfl) (oN (eT (cR (oY rfl (yMI rfl) (oY rfl (yMI rfl) ?_)))))))))
     obtain ⟨hg12,h⟩:=gOs h
     refine oY rfl (oh ar_100 hg12.1 hg12.2 rfl rfl) (bT rfl (pX 1 (encL cI (s5.2.2.set (Int.toNat s5.2.1) ((az (Tl.mk 0 (Ts.mk 0 0) (TLeg.mk 0 0) false) p0 (Ts.mk p1 s5.2.1)).f_at))) p6 rfl (ltA hl1_s5 hg12.1 hg12.2) setA' rfl rfl rfl) (oN (aw (eT (cR (oY rfl (aX rfl rfl) (oY rfl (yMI rfl) (oN (aQ 2 ?_)))))))))
     obtain rfl:=sI h
     exact eN ⟨_,(sf hl1_s5),rfl,(kp4 (kp (kp rfl)))⟩
    ·refine cF (vB hp11) (cK (eT (cR (oY rfl (yMI rfl) (oY rfl (yMI rfl) ?_)))))
     obtain ⟨hg13,h⟩:=gOs h
     refine oY rfl (oh ar_100 hg13.1 hg13.2 rfl rfl) (bT rfl (pX 1 (encL cI (s5.2.2.set (Int.toNat s5.2.1) s5.1)) p6 rfl (ltA hl1_s5 hg13.1 hg13.2) setA' rfl rfl rfl) (oN (aw (eT (cR (oY rfl (aX rfl rfl) (oY rfl (yMI rfl) (oN (aQ 2 ?_)))))))))
     obtain rfl:=sI h
     exact eN ⟨_,(sf hl1_s5),rfl,(kp4 (kp (kp rfl)))⟩
   ·rcases aq (bl p0 (Ts.mk p1 s5.2.1)) with hp10 | hp10
    ·refine oY (sT rfl rfl rfl rfl hp10) (yMI rfl) (oY (sT rfl rfl rfl rfl hp10) (bm rfl rfl) (oY (sT rfl rfl rfl rfl hp10) (yMB rfl) ?_))
     refine oJ 5 (fun tm0 => (upd (upd (upd (upd (upd (upd (upd (upd (upd (upd (upd (upd tm0 0 (.map (some bm0_0))) 1 (vI p1)) 4 (.pointer (some ⟨b1,0,none⟩))) 5 (.pointer (some ⟨b2,0,none⟩))) 6 (vI s5.1)) 10 (vI s5.2.1)) 11 (.bool (decide (s5.2.1 < 61)))) 7 (vI s5.2.1)) 8 (.pointer (some ⟨b9,0,none⟩))) 9 (.bool (bl p0 (Ts.mk p1 s5.2.1)))) 22 (.bool (bl p0 (Ts.mk p1 s5.2.1)))) 30 (.bool ((decide (s5.1 < 0)) || (decide ((az (Tl.mk 0 (Ts.mk 0 0) (TLeg.mk 0 0) false) p0 (Ts.mk p1 s5.2.1)).f_at < s5.1)))))) (fun tm0 => ?_) (fun key => ?_)
     ·refine oY rfl (ae (vB hp10) rfl) ?_
      exact key _ _ (keep (keep (keep (keep (keep (keep (keep (keep (keep (keep (keep rfl rfl) rfl) rfl) rfl) rfl) rfl) rfl) rfl) rfl) rfl) (vB (gh hp10)))
     ·rcases aq (decide (s5.1 < 0)) with hp14 | hp14
      ·refine oSk (sF rfl rfl rfl rfl hp14) (oSk (sF rfl rfl rfl rfl hp14) (oSk (sF rfl rfl rfl rfl hp14) (oSk (sF rfl rfl rfl rfl hp14) (oY (sT rfl rfl rfl rfl hp10) (ae (vB hp14) rfl) ?_))))
       exact key _ _ (keep (keep (keep (keep (keep (keep (keep (keep (keep (keep (keep (keep rfl rfl) rfl) rfl) rfl) rfl) rfl) rfl) rfl) rfl) rfl) rfl) (vB (iI hp14)))
      ·refine oY (sT rfl rfl rfl rfl hp14) (yFA oR rfl) (oY (sT rfl rfl rfl rfl hp14) (yL 2 aV rfl rfl rfl) (oY (sT rfl rfl rfl rfl hp14) (yMI rfl) (oY (sT rfl rfl rfl rfl hp14) (bm rfl rfl) (oY (sT rfl rfl rfl rfl hp10) (ag (vB hp14) rfl) ?_))))
       exact key _ _ (keep (keep (keep (keep (keep (keep (keep (keep (keep (keep (keep (keep rfl rfl) rfl) rfl) rfl) rfl) rfl) rfl) rfl) rfl) rfl) rfl) (vB (iH hp14)))
    ·refine oSk (sF rfl rfl rfl rfl hp10) (oSk (sF rfl rfl rfl rfl hp10) (oSk (sF rfl rfl rfl rfl hp10) (oSk rfl (oSk rfl (oSk rfl (oSk rfl (oSk (sF rfl rfl rfl rfl hp10) (oY rfl (ag (vB hp10) rfl) ?_))))))))
     exact key _ _ (keep (keep (keep (keep (keep (keep (keep (keep (keep (keep (keep rfl rfl) rfl) rfl) rfl) rfl) rfl) rfl) rfl) rfl) rfl) (vB (gq hp10)))
  ·refine cF (vB hp7) (aH (ah ?_))
   obtain rfl:=sI h
   exact ax ⟨rfl,_,hl1_s5,rfl,(kp4 (kp (kp rfl)))⟩
 ·intro e L tm hJ
  obtain ⟨rfl,tm0_u6,hl1_u6,rfl,rfl⟩:=hJ
  refine ⟨(by intro hc; cases hc),?_⟩
  refine ac (eT (cS (cR (oY rfl (yN 1 (encL cI u6.2.2) (aggA qm hl1_u6) rfl rfl (takeA _)) (bT rfl (pm 0 (xs:=(List.replicate 61 0)) (xs':=u6.2.2) qp List.length_replicate hl1_u6 rfl rfl rfl) (oN (eT (al ?_))))))))
  obtain rfl:=sI h
  exact ap (.inl rfl) rfl (rf 0 qm hl1_u6 rfl rfl) (fun W2 hW2 => ⟨(),hl1_u6,rfl,hW2.none⟩)
theorem iF (p0:(List TLeg)) (res:(List TLeg)) (h:dO p0 = some res) (W:World) (w0:World) (R:Res) (Aa:Option Addr) (n0_0 ca : Nat) (hn0_0:n0_0 = p0.length) (hW:Ext w0 W [R,aI Aa ca 129 2 n0_0 (encL bz p0)]) :
  Calls Tryz.prog 115 [.slice Aa n0_0 ca].toArray W fun e W2 => e = .returned (.tuple #[]) ∧ n0_0 = res.length ∧ Ext w0 W2 [R,aI Aa ca 129 2 n0_0 (encL bz res)]:=by
 subst hn0_0
 unfold dO at h
 refine aM (m:=28) Tryz.func115 rfl rfl (nB rfl) hW (cS (cR (oY rfl (yMS rfl) (oY rfl (bd (us:=[]) us_29 rfl) (oY rfl (dV rfl rfl) (oY rfl (yAI rfl) (oY rfl (yAI rfl) (oN (eT (cB ?_))))))))))
 obtain ⟨u4,hl10,h⟩:=bOs h
 refine bc (fun (s:(Int × Int × (List TLeg))) L tm => ∃ (tm0:Nat → Value),p0.length = s.2.2.length ∧ L = [R,aI Aa ca 129 2 p0.length (encL bz s.2.2)] ∧ tm = (upd (upd (upd tm0 0 (.slice Aa p0.length ca)) 2 (vI s.1)) 3 (vI s.2.1))) 0 hl10 ⟨_,rfl,rfl,(kp (kp (kp rfl)))⟩ ?_ ?_
 ·rintro s3 L tm st ⟨tm0_s3,hn1_s3,rfl,rfl⟩ h
  unfold eF at h
  refine cS (cS (cR (oY rfl (yMI rfl) (oY rfl (yMI rfl) (oY rfl (bm rfl rfl) (oN (eT ?_)))))))
  rcases iOs h with ⟨hp5,h⟩ | ⟨hp5,h⟩
  ·refine cT (vB hp5) (cK (eT (cS (cB ?_))))
   refine pO [2,3] 13 cm (by kernel_rfl) (by kernel_rfl) ?_
   refine qY rfl (yMS rfl) (qY rfl (yMI rfl) (qY rfl (yMS rfl) (qY rfl (yMI rfl) (qY rfl (yMS rfl) (qY rfl (yMI rfl) ?_)))))
   obtain ⟨hg6,h⟩:=gOs h
   refine qY rfl (yI sl_29 (by decide) hg6.1 hg6.2 (RdL.row 1 rfl) (eL bN hn1_s3) rfl rfl) ?_
   refine qY rfl (yM (A:=Aa) (j:=(Int.toNat s3.2.1 * 2)) [vI ((rdL s3.2.2 s3.2.1).fTrack),vI ((rdL s3.2.2 s3.2.1).fHour)] rM (Nat.succ_pos _) (RdL.row 1 rfl) rfl (aU bN hg6.1 (av hg6.2 hn1_s3))) (qY rfl (yMS rfl) (qY rfl (yMI rfl) ?_))
   obtain ⟨hg7,h⟩:=gOs h
   refine qY rfl (yI sl_29 (by decide) hg7.1 hg7.2 (RdL.row 1 rfl) (eL bN hn1_s3) rfl rfl) ?_
   refine qY rfl (yM (A:=Aa) (j:=(Int.toNat s3.1 * 2)) [vI ((rdL s3.2.2 s3.1).fTrack),vI ((rdL s3.2.2 s3.1).fHour)] rM (Nat.succ_pos _) (RdL.row 1 rfl) rfl (aU bN hg7.1 (av hg7.2 hn1_s3))) ?_
   obtain ⟨hg8,h⟩:=gOs h
   refine qY rfl (yI sl_29 (by decide) hg8.1 hg8.2 (RdL.row 1 rfl) (eL bN hn1_s3) rfl rfl) ?_
   refine bX (bT rfl (iW 1 (xs:=s3.2.2) [vI ((rdL s3.2.2 s3.2.1).fTrack),vI ((rdL s3.2.2 s3.2.1).fHour)] bN (Nat.succ_pos _) (rdL s3.2.2 s3.2.1) sz_129 rfl hg8.1 (av hg8.2 hn1_s3) rfl rfl rfl rfl) ?_)
   obtain ⟨hg9,h⟩:=gOs h
   refine oY rfl (yI sl_29 (by decide) hg9.1 hg9.2 (RdL.row 1 rfl) (eL bN (cU hn1_s3)) rfl rfl) ?_
   refine bT rfl (iW 1 (xs:=(s3.2.2.set (Int.toNat s3.1) (rdL s3.2.2 s3.2.1))) [vI ((rdL s3.2.2 s3.1).fTrack),vI ((rdL s3.2.2 s3.1).fHour)] bN (Nat.succ_pos _) (rdL s3.2.2 s3.1) sz_129 rfl hg9.1 (av hg9.2 (cU hn1_s3)) rfl rfl rfl rfl) (oN (lR (aw (eT (cR (oY rfl (yMI rfl) (oY rfl (aX rfl rfl) (oY rfl (yMI rfl) (oY rfl (dV rfl rfl) (oY rfl (yAI rfl) (oY rfl (yAI rfl) (oN ?_))))))))))))
   obtain rfl:=sI h
   exact eN ⟨_,(cU (cU hn1_s3)),rfl,(kp (kp (kp rfl)))⟩
  ·refine cF (vB hp5) (aH (ah ?_))
   obtain rfl:=sI h
   exact ax ⟨rfl,_,hn1_s3,rfl,(kp (kp (kp rfl)))⟩
 ·intro e L tm hJ
  obtain ⟨rfl,tm0_u4,hn1_u4,rfl,rfl⟩:=hJ
  refine ⟨(by intro hc; cases hc),?_⟩
  refine ac ?_
  obtain rfl:=sI h
  exact bR (.inr rfl) rfl  (fun W2 hW2 => ⟨rfl,hn1_u4,hW2.take 2⟩)
theorem nw (p0:(List (Ts × Tl))) (p1:Ts) (res:TJ) (h:jN p0 p1 = some res) (W:World) (bm0_0:Nat) (hm0_0:(mapV Tryz.prog 127 cl bq bY (Tl.mk 0 (Ts.mk 0 0) (TLeg.mk 0 0) false) bm0_0 p0).holds W) :
  Calls Tryz.prog 80 [.map (some bm0_0),.agg #[vI p1.f_place,vI p1.f_toll]].toArray W fun e W2 => ∃ x : Option Addr × Nat × Nat,x.2.1 = res.fLegs.length ∧ e = .returned (.agg #[.slice x.1 x.2.1 x.2.2,vI res.fA,vI res.fToll]) ∧ Ext W W2 [aI x.1 x.2.2 129 2 x.2.1 (encL bz res.fLegs)]:=by
 unfold jN at h
 refine ad (m:=36) Tryz.func80 rfl rfl (nB rfl) (cS (cR ?_))
 refine aO [vI p1.f_place,vI p1.f_toll] rfl rfl rfl (fun b1 => ?_)
 refine aB kq rfl (fun b2 => ?_)
 refine oN (eT (cS ?_))
 refine sQ 7 cm (by kernel_rfl) (by kernel_rfl) (by kernel_rfl) ?_
 refine ax_y rfl (fun _ => cG rfl) (ax_y rfl (fun _ => yN 0 [vI p1.f_place,vI p1.f_toll] ma rfl rfl rfl) ?_)
 obtain ⟨hg3,h⟩:=gOs h
 refine ax_y rfl (fun _ => jA (k:=p1) (MpL.arg hm0_0) l8 py jk rfl rfl hg3) (ax_y rfl (fun _ => qZ [vI ((az (Tl.mk 0 (Ts.mk 0 0) (TLeg.mk 0 0) false) p0 p1).f_at),vI ((az (Tl.mk 0 (Ts.mk 0 0) (TLeg.mk 0 0) false) p0 p1).f_from.f_place),vI ((az (Tl.mk 0 (Ts.mk 0 0) (TLeg.mk 0 0) false) p0 p1).f_from.f_toll),vI ((az (Tl.mk 0 (Ts.mk 0 0) (TLeg.mk 0 0) false) p0 p1).f_leg.fTrack),vI ((az (Tl.mk 0 (Ts.mk 0 0) (TLeg.mk 0 0) false) p0 p1).f_leg.fHour),.bool ((az (Tl.mk 0 (Ts.mk 0 0) (TLeg.mk 0 0) false) p0 p1).f_begin)] (v:=vI ((az (Tl.mk 0 (Ts.mk 0 0) (TLeg.mk 0 0) false) p0 p1).f_at)) qN aV rfl rfl) (ax_y rfl (fun _ => yFA oz rfl) (ax_y rfl (fun _ => yL 0 (v:=vI p1.f_toll) aV rfl rfl rfl) ?_)))
 refine ax_y rfl (fun _ => aL [.slice none 0 0,vI ((az (Tl.mk 0 (Ts.mk 0 0) (TLeg.mk 0 0) false) p0 p1).f_at),vI p1.f_toll] [(0,1),(1,1),(2,1)] rR kq (by kernel_rfl)) ?_
 refine ax_nil rfl kq (fun b4 => ?_)
 refine bT rfl (yS 2 [.slice none 0 0,vI ((az (Tl.mk 0 (Ts.mk 0 0) (TLeg.mk 0 0) false) p0 p1).f_at),vI p1.f_toll] lY rfl (nB rfl) rfl rfl rfl) (oN (lR (eT (cS (cS (cR (oY rfl (cG rfl) (oY rfl (yN 0 [vI p1.f_place,vI p1.f_toll] ma rfl rfl rfl) ?_))))))))
 obtain ⟨hg5,h⟩:=gOs h
 refine oY rfl (jA (k:=p1) (MpL.arg hm0_0) l8 py jk rfl rfl hg5) ?_
 refine aB jk rfl (fun b6 => ?_)
 refine bT rfl (yS 3 [vI ((az (Tl.mk 0 (Ts.mk 0 0) (TLeg.mk 0 0) false) p0 p1).f_at),vI ((az (Tl.mk 0 (Ts.mk 0 0) (TLeg.mk 0 0) false) p0 p1).f_from.f_place),vI ((az (Tl.mk 0 (Ts.mk 0 0) (TLeg.mk 0 0) false) p0 p1).f_from.f_toll),vI ((az (Tl.mk 0 (Ts.mk 0 0) (TLeg.mk 0 0) false) p0 p1).f_leg.fTrack),vI ((az (Tl.mk 0 (Ts.mk 0 0) (TLeg.mk 0 0) false) p0 p1).f_leg.fHour),.bool ((az (Tl.mk 0 (Ts.mk 0 0) (TLeg.mk 0 0) false) p0 p1).f_begin)] pJ rfl (nB rfl) rfl rfl rfl) (oN (eT (cB ?_)))
 obtain ⟨u10,hl18,h⟩:=bOs h
 refine ci 129 2 (ci 129 2 ?_)
 refine bc (fun (s:(Tl × (List TLeg))) L tm => ∃ (tm0:Nat → Value) (A5_s:Option Addr) (c5_s:Nat) (n5_s:Nat) (b3_s:Nat),n5_s = s.2.length ∧ L = [aj b1 127 [vI p1.f_place,vI p1.f_toll],aj b2 31 [.slice none 0 0,vI 0,vI 0],aj b4 31 [.slice A5_s n5_s c5_s,vI ((az (Tl.mk 0 (Ts.mk 0 0) (TLeg.mk 0 0) false) p0 p1).f_at),vI p1.f_toll],aj b3_s 131 [vI s.1.f_at,vI s.1.f_from.f_place,vI s.1.f_from.f_toll,vI s.1.f_leg.fTrack,vI s.1.f_leg.fHour,.bool s.1.f_begin],aI none 0 129 2 0 (encL bz ([]:List TLeg)),aI A5_s c5_s 129 2 n5_s (encL bz s.2)] ∧ tm = (upd (upd (upd (upd tm0 0 (.map (some bm0_0))) 4 (.pointer (some ⟨b2,0,none⟩))) 5 (.pointer (some ⟨b4,0,none⟩))) 6 (.pointer (some ⟨b3_s,0,none⟩)))) 0 hl18 ⟨_,none,0,0,b6,rfl,rfl,(kp4 rfl)⟩ ?_ ?_
 ·rintro s9 L tm st ⟨tm0_s9,A5_s9,c5_s9,n5_s9,b3_s9,rfl,rfl,rfl⟩ h
  unfold jL at h
  refine cS (cS (cR ?_))
  try dsimp only [lna,lca,lsz,lss]
  refine oY rfl (yFA fo_131_3 rfl) (oY rfl (yL 3 sc_4 rfl rfl rfl) (oY rfl (bM rfl) (oN (eT ?_))))
  rcases iOs h with ⟨hp11,h⟩ | ⟨hp11,h⟩
  ·refine cT (vB hp11) (cK (eT (cS (cB (cR (oY rfl (yFA qi rfl) (oY rfl (yL 2 sc_29 rfl rfl rfl) (oY rfl (yFA fo_131_2 rfl) (oY rfl (yN 3 [vI s9.1.f_leg.fTrack,vI s9.1.f_leg.fHour] rM rfl rfl rfl) ?_)))))))))
   refine aG 1 (encL bz [s9.1.f_leg]) _ mc_129_1 us_29 sn by_129 (by decide) (by decide) (by kernel_rfl) (eL bN rfl) rfl (fun b12 => ?_)
   try dsimp only [lna,lca,lsz,lss]
   obtain ⟨hg15,h⟩:=gOs h
   refine bn 5 us_29 sn by_129 rfl rfl rfl (RdL.row 6 rfl) (eL bN rfl) (bO nG _) (bW hg15 (by decide)) rfl (fun A13 c14 => ?_)
   refine oY rfl (yFA qi rfl) (bT rfl (cv 2 (v:=.slice A13 (s9.2.length + 1) c14) sz_29 rfl (Nat.lt_of_lt_of_le (Nat.lt_succ_self _) (nB rfl)) rfl rfl rfl) (oN (aw (eT (cS (cS (cR (oY rfl (yN 3 [vI s9.1.f_at,vI s9.1.f_from.f_place,vI s9.1.f_from.f_toll,vI s9.1.f_leg.fTrack,vI s9.1.f_leg.fHour,.bool s9.1.f_begin] ag_131 rfl rfl rfl) (oN (eT (cR ?_)))))))))))
   refine aB jk rfl (fun b16 => ?_)
   try dsimp only [lna,lca,lsz,lss]
   refine bT rfl (yS 7 [vI s9.1.f_at,vI s9.1.f_from.f_place,vI s9.1.f_from.f_toll,vI s9.1.f_leg.fTrack,vI s9.1.f_leg.fHour,.bool s9.1.f_begin] pJ rfl (nB rfl) rfl rfl rfl) (oN (eT (cR (oY rfl (cG rfl) (oY rfl (yFA fo_131_1 rfl) (oY rfl (yN 7 [vI s9.1.f_from.f_place,vI s9.1.f_from.f_toll] ma rfl rfl rfl) ?_))))))
   obtain ⟨hg17,h⟩:=gOs h
   refine oY rfl (jA (k:=s9.1.f_from) (MpL.arg hm0_0) l8 py jk rfl rfl hg17) (bT rfl (yS 7 [vI ((az (Tl.mk 0 (Ts.mk 0 0) (TLeg.mk 0 0) false) p0 s9.1.f_from).f_at),vI ((az (Tl.mk 0 (Ts.mk 0 0) (TLeg.mk 0 0) false) p0 s9.1.f_from).f_from.f_place),vI ((az (Tl.mk 0 (Ts.mk 0 0) (TLeg.mk 0 0) false) p0 s9.1.f_from).f_from.f_toll),vI ((az (Tl.mk 0 (Ts.mk 0 0) (TLeg.mk 0 0) false) p0 s9.1.f_from).f_leg.fTrack),vI ((az (Tl.mk 0 (Ts.mk 0 0) (TLeg.mk 0 0) false) p0 s9.1.f_from).f_leg.fHour),.bool ((az (Tl.mk 0 (Ts.mk 0 0) (TLeg.mk 0 0) false) p0 s9.1.f_from).f_begin)] pJ rfl (nB rfl) rfl rfl rfl) (oN ?_))
   refine ex_mv 3 7 (by decide) rfl ?_
   try dsimp only [lsz,lss]
   refine aQ 6 ?_
   obtain rfl:=sI h
   exact eN ⟨_,A13,c14,(s9.2.length + 1),b16,(dT rfl rfl),rfl,(kp4 rfl)⟩
  ·refine cF (vB hp11) (aH (ah ?_))
   obtain rfl:=sI h
   exact ax ⟨rfl,_,A5_s9,c5_s9,s9.2.length,b3_s9,rfl,rfl,(kp4 rfl)⟩
 ·intro e L tm hJ
  obtain ⟨rfl,tm0_u10,A5_u10,c5_u10,n5_u10,b3_u10,rfl,rfl,rfl⟩:=hJ
  refine ⟨(by intro hc; cases hc),?_⟩
  refine ac (eT (cS (cR ?_)))
  try dsimp only [lna,lca,lsz,lss]
  refine oY rfl (yFA qi rfl) (oY rfl (yL 2 sc_29 rfl rfl rfl) ?_)
  obtain ⟨y19,hy20,h⟩:=bOs h
  refine dE 5 [.slice A5_u10 u10.2.length c5_u10] (fun (_:Unit) => u10.2.length = y19.length) (fun _ => .tuple #[]) (fun _ => aI A5_u10 c5_u10 129 2 u10.2.length (encL bz y19)) (fun _ => []) rfl rfl go_115 rfl (fun W2 hW2 => (iF u10.2 y19 hy20 W2 _ (cD [aj b1 127 [vI p1.f_place,vI p1.f_toll],aj b2 31 [.slice none 0 0,vI 0,vI 0],aj b4 31 [.slice A5_u10 u10.2.length c5_u10,vI ((az (Tl.mk 0 (Ts.mk 0 0) (TLeg.mk 0 0) false) p0 p1).f_at),vI p1.f_toll],aj b3_u10 131 [vI u10.1.f_at,vI u10.1.f_from.f_place,vI u10.1.f_from.f_toll,vI u10.1.f_leg.fTrack,vI u10.1.f_leg.fHour,.bool u10.1.f_begin],aI none 0 129 2 0 (encL bz ([]:List TLeg)),aI A5_u10 c5_u10 129 2 u10.2.length (encL bz u10.2)] [5]) A5_u10 u10.2.length c5_u10 rfl hW2).mono (fun e W3 h3 => ⟨(),h3.2.1,h3.1,h3.2.2⟩)) ?_
  rintro - hn21
  try dsimp only [lsz,lss,List.append_nil]
  refine oN (eT (cS (cR (oY rfl (yN 2 [.slice A5_u10 u10.2.length c5_u10,vI ((az (Tl.mk 0 (Ts.mk 0 0) (TLeg.mk 0 0) false) p0 p1).f_at),vI p1.f_toll] nM rfl rfl rfl) (bT rfl (yS 1 [.slice A5_u10 u10.2.length c5_u10,vI ((az (Tl.mk 0 (Ts.mk 0 0) (TLeg.mk 0 0) false) p0 p1).f_at),vI p1.f_toll] lY rfl (nB rfl) rfl rfl rfl) (oN (eT (al ?_))))))))
  obtain rfl:=sI h
  exact ap (.inl rfl) rfl (bf 1 [.slice A5_u10 u10.2.length c5_u10,vI ((az (Tl.mk 0 (Ts.mk 0 0) (TLeg.mk 0 0) false) p0 p1).f_at),vI p1.f_toll] nM rfl rfl rfl) (fun W2 hW2 => ⟨(A5_u10,u10.2.length,c5_u10),hn21,rfl,(hW2.pick 5 rfl)⟩)
theorem lK (p0:TR) (p1:Int) (p2:Int) (p3:Int) (res:(List TJ)) (h:kf p0 p1 p2 p3 = some res) (W:World) (Ab:Option Addr) (n0_1 cb : Nat) (ys0_1:List (Hd × TT)) (hn0_1:n0_1 = p0.fT.length) (hr0_1:Rd W Ab n0_1 cb (encL TTrack_cells2 ys0_1)) (hN0_1:NestW W (fun z : TT => z.fK) TSpan_cells ys0_1 p0.fT) (wb:World) (Hb:World → Prop) (hB:∀ W3,Below W.heap.size W W3 → Below wb.heap.size wb W3 ∧ Hb W3) :
  Calls Tryz.prog 51 [.agg #[vI p0.fL,.slice Ab n0_1 cb],vI p1,vI p2,vI p3].toArray W fun e W2 => ∃ x : ((Option Addr × Nat × Nat) × (List (Hd × TJ)) × Res),(x.1.2.1 = res.length ∧ NestP (fun z : TJ => z.fLegs) x.2.1 res ∧ PvL (fun z : TJ => z.fLegs) bz wb (fun W4 => Hb W4 ∧ Res.holds x.2.2 W4) x.2.1) ∧ e = .returned (.slice x.1.1 x.1.2.1 x.1.2.2) ∧ Ext W W2 [aI x.1.1 x.1.2.2 31 3 x.1.2.1 (encL cj x.2.1),x.2.2]:=by
 subst hn0_1
 unfold kf at h
 refine ad (m:=41) Tryz.func51 rfl rfl (nB rfl) (cS (cR ?_))
 refine aO [vI p0.fL,.slice Ab p0.fT.length cb] rfl rfl rfl (fun b1 => ?_)
 refine oY rfl (yAS rfl) (oN (eT (cS (cR (oY rfl (yN 0 [vI p0.fL,.slice Ab p0.fT.length cb] dl rfl rfl rfl) (oY rfl (yMI rfl) (oY rfl (yMI rfl) ?_)))))))
 obtain ⟨y2,hy3,h⟩:=bOs h
 refine lv [.agg #[vI p0.fL,.slice Ab p0.fT.length cb],vI p1,vI p3] _ _ rfl go_48 rfl (fun W2 hW2 => kz p0 p1 p3 y2 hy3 W2 Ab p0.fT.length cb ys0_1 rfl ((RdL.arg hr0_1) W2 hW2) (NestL.at (NestL.arg hN0_1) W2 hW2)) ?_
 rintro b4
 refine oY rfl (ed rfl) (oN (eT (cS (cR (oY rfl (cG rfl) (oY rfl (yMI rfl) ?_))))))
 obtain ⟨y5,hy6,h⟩:=bOs h
 refine oC [.map (some b4),vI p2] _ _ _ rfl go_49 rfl (fun W2 hW2 => jp y2 p2 y5 hy6 W2 b4 ((MpL.own 1 rfl) W2 hW2)) ?_
 rintro - hl7
 try dsimp only [List.append_nil]
 refine aB qE rfl (fun b8 => ?_)
 refine bT rfl (pm 2 (xs:=(List.replicate 61 0)) (xs':=y5) qp List.length_replicate hl7 rfl rfl rfl) (oN (eT (cS (cR (oY rfl (yAS rfl) (oN (eT (cS (cR (oY rfl (yAI rfl) (oN (eT (cS (cS (cR (oY rfl (yN 2 (encL cI y5) (aggA qm hl7) rfl rfl (takeA _)) (oY rfl (yMI rfl) (oN (eT (cB ?_))))))))))))))))))))
 obtain ⟨u12,hl26,h⟩:=bOs h
 refine ci 31 3 (kc ?_)
 refine bc (fun (s:(Int × Int × (List TJ))) L tm => ∃ (tm0:Nat → Value) (A3_s:Option Addr) (c3_s:Nat) (n3_s:Nat) (ys3_s:List (Hd × TJ)) (F3_s:Res),n3_s = s.2.2.length ∧ NestP (fun z : TJ => z.fLegs) ys3_s s.2.2 ∧ PvL (fun z : TJ => z.fLegs) bz wb (fun W4 => Hb W4 ∧ Res.holds F3_s W4) ys3_s ∧ L = [aj b1 24 [vI p0.fL,.slice Ab p0.fT.length cb],mapV Tryz.prog 127 cl bq bY (Tl.mk 0 (Ts.mk 0 0) (TLeg.mk 0 0) false) b4 y2,aj b8 100 (encL cI y5),aI A3_s c3_s 31 3 n3_s (encL cj ys3_s),F3_s] ∧ tm = (upd (upd (upd (upd (upd (upd (upd tm0 2 (vI p2)) 8 (.slice none 0 0)) 9 (.map (some b4))) 11 (.slice A3_s n3_s c3_s)) 12 (vI s.1)) 22 (.agg (encL cI y5).toArray)) 23 (vI s.2.1))) 0 hl26 ⟨_,none,0,0,([]:List (Hd × TJ)),noR,rfl,NestP.nil,(PvL.mono (Hb:=Hb) PvL.nil (fun _ _ h => h.1)),rfl,(kp4 (kp (kp (kp rfl))))⟩ ?_ ?_
 ·rintro s11 L tm st ⟨tm0_s11,A3_s11,c3_s11,n3_s11,ys3_s11,F3_s11,rfl,hP3_s11,hV3_s11,rfl,rfl⟩ h
  unfold lu at h
  refine cS (cR (oY rfl (bm rfl rfl) (oN (eT (cS ?_)))))
  rcases iOs h with ⟨hp13,h⟩ | ⟨hp13,h⟩
  ·refine cT (vB hp13) (cK (eT (cS (cB (cS (cR (oY rfl (yMI rfl) ?_)))))))
   obtain ⟨hg14,h⟩:=gOs h
   refine oY rfl (y_indexA ua_100 aV hl7 hg14.1 hg14.2 rfl rfl) (oY rfl (yAI rfl) (oY rfl (yAI rfl) (oN (eT (cS (cS (cR (oY rfl (yMI rfl) (oY rfl (yMI rfl) (oY rfl (db rfl rfl) (oN (eT ?_))))))))))))
   rcases iOs h with ⟨hp15,h⟩ | ⟨hp15,h⟩
   ·refine cT (vB hp15) (cR (oY rfl (yMS rfl) (oY rfl (cG rfl) (oY rfl (yMI rfl) (oY rfl (yMI rfl) ?_)))))
    refine oY rfl (aL [vI p2,vI s11.2.1] [(0,1),(1,1)] mN od (by kernel_rfl)) ?_
    obtain ⟨y16,hy17,h⟩:=bOs h
    refine oC [.map (some b4),.agg #[vI p2,vI s11.2.1]] _ _ _ rfl go_80 rfl (fun W2 hW2 => nw y2 (Ts.mk p2 s11.2.1) y16 hy17 W2 b4 ((MpL.own 1 rfl) W2 hW2)) ?_
    rintro ⟨A18,n20,c19⟩ hn21
    replace hn21 : n20 = y16.fLegs.length:=hn21; subst hn21
    try dsimp only [lna,lca,lsz,lss]
    refine mJ ?_
    refine gb 6 5 (by decide) rfl rfl ?_
    refine aG 1 (encL cj [((A18,y16.fLegs.length,c19),y16)]) _ mc_31_1 us_64 kq by_31 (by decide) (by decide) (by kernel_rfl) (eL be rfl) rfl (fun b22 => ?_)
    try dsimp only [lna,lca,lsz,lss]
    obtain ⟨hg25,h⟩:=gOs h
    refine gb 4 6 (by decide) rfl rfl ?_
    refine bn 3 us_64 kq by_31 rfl rfl rfl (RdL.row 7 rfl) (eL be (NestP.hn (NestP.cons (sel:=(fun z : TJ => z.fLegs)) rfl NestP.nil) rfl)) (bO kH _) (bW hg25 (by decide)) rfl (fun A23 c24 => ?_)
    refine oY rfl (yAS rfl) (oN (eT (cR (oY rfl (yMI rfl) (oY rfl (yAI rfl) (oN (aw (eT (cR (oY rfl (aX rfl rfl) (oY rfl (yMI rfl) (oN (aQ 5 ?_)))))))))))))
    obtain rfl:=sI h
    exact eN ⟨_,A23,c24,(s11.2.2.length + 1),(ys3_s11 ++ [((A18,y16.fLegs.length,c19),y16)]),m4 F3_s11 (m4 noR (aI A18 c19 129 2 y16.fLegs.length (encL bz y16.fLegs))),(dT rfl rfl),(NestP.app hP3_s11 (NestP.cons (sel:=(fun z : TJ => z.fLegs)) rfl NestP.nil)),(PvL.app (PvL.mono (Hb:=(fun W4 => Hb W4 ∧ Res.holds F3_s11 W4)) hV3_s11 (fun _ _ h => ⟨h.1,h.2.1⟩)) (PvL.mono (Hb:=(fun W4 => Hb W4 ∧ Res.holds (m4 noR (aI A18 c19 129 2 y16.fLegs.length (encL bz y16.fLegs))) W4)) (PvL.cons (fun _ _ h => dt h.2.2.1) (PvL.mono (Hb:=(fun W4 => Hb W4 ∧ Res.holds noR W4)) PvL.nil (fun _ _ h => ⟨h.1,h.2.1⟩))) (fun _ _ h => ⟨h.1,h.2.2.1⟩))),rfl,(kp4 (kp (kp (kp rfl))))⟩
   ·refine cF (vB hp15) (cK (eT (cR (oY rfl (yMI rfl) (oY rfl (yAI rfl) (oN (aw (eT (cR (oY rfl (aX rfl rfl) (oY rfl (yMI rfl) (oN ?_))))))))))))
    obtain rfl:=sI h
    exact eN ⟨_,A3_s11,c3_s11,s11.2.2.length,ys3_s11,F3_s11,rfl,hP3_s11,hV3_s11,rfl,(kp4 (kp (kp (kp rfl))))⟩
  ·refine cF (vB hp13) (aH (ah ?_))
   obtain rfl:=sI h
   exact ax ⟨rfl,_,A3_s11,c3_s11,s11.2.2.length,ys3_s11,F3_s11,rfl,hP3_s11,hV3_s11,rfl,(kp4 (kp (kp (kp rfl))))⟩
 ·intro e L tm hJ
  obtain ⟨rfl,tm0_u12,A3_u12,c3_u12,n3_u12,ys3_u12,F3_u12,rfl,hP3_u12,hV3_u12,rfl,rfl⟩:=hJ
  refine ⟨(by intro hc; cases hc),?_⟩
  refine ac (eT (cS (cR (oY rfl (yMS rfl) (oY rfl (yAS rfl) (oN (eT (al ?_))))))))
  obtain rfl:=sI h
  exact ap (.inl rfl) rfl (rVt (v:=.slice A3_u12 u12.2.2.length c3_u12) rfl) (fun W2 hW2 => ⟨((A3_u12,u12.2.2.length,c3_u12),ys3_u12,F3_u12),⟨rfl,hP3_u12,hV3_u12⟩,rfl,hW2.pickL [3,4] (by decide) rfl⟩)
theorem jF (p0:TR) (p1:Int) (p2:Int) (p3:Int) (p4:Int) (res:(TJ × Bool)) (h:jK p0 p1 p2 p3 p4 = some res) (W:World) (Ab:Option Addr) (n0_1 cb : Nat) (ys0_1:List (Hd × TT)) (hn0_1:n0_1 = p0.fT.length) (hr0_1:Rd W Ab n0_1 cb (encL TTrack_cells2 ys0_1)) (hN0_1:NestW W (fun z : TT => z.fK) TSpan_cells ys0_1 p0.fT) (wb:World) (Hb:World → Prop) (hB:∀ W3,Below W.heap.size W W3 → Below wb.heap.size wb W3 ∧ Hb W3) :
  Calls Tryz.prog 30 [.agg #[vI p0.fL,.slice Ab n0_1 cb],vI p1,vI p2,vI p3,vI p4].toArray W fun e W2 => ∃ x : (Hd × Res),(x.1.2.1 = res.1.fLegs.length ∧ Pv bz wb (fun W4 => Hb W4 ∧ Res.holds x.2 W4) x.1 res.1.fLegs) ∧ e = .returned (.tuple #[.agg #[.slice x.1.1 x.1.2.1 x.1.2.2,vI res.1.fA,vI res.1.fToll],.bool res.2]) ∧ Ext W W2 [x.2]:=by
 subst hn0_1
 unfold jK at h
 refine ad (m:=34) Tryz.func30 rfl rfl (nB rfl) (cS (cR ?_))
 refine aO [vI p0.fL,.slice Ab p0.fT.length cb] rfl rfl rfl (fun b1 => ?_)
 refine aB kq rfl (fun b2 => ?_)
 refine oY rfl (yAB rfl) (oN (eT (cS (cR ?_))))
 refine aB kq rfl (fun b3 => ?_)
 refine oN (eT (cS (cR (oY rfl (yAB rfl) (oN (eT (cS (cS (cR (oY rfl (yN 0 [vI p0.fL,.slice Ab p0.fT.length cb] dl rfl rfl rfl) (oY rfl (yMI rfl) (oY rfl (yMI rfl) (oY rfl (yMI rfl) ?_)))))))))))))
 obtain ⟨y4,hy5,h⟩:=bOs h
 refine oC [.agg #[vI p0.fL,.slice Ab p0.fT.length cb],vI p1,vI p2,vI p3] _ _ _ rfl go_51 rfl (fun W2 hW2 => lK p0 p1 p2 p3 y4 hy5 W2 Ab p0.fT.length cb ys0_1 rfl ((RdL.arg hr0_1) W2 hW2) (NestL.at (NestL.arg hN0_1) W2 hW2) wb Hb (fun W3 hb => hB W3 (gm hW2.below hb)) ) ?_
 rintro ⟨⟨A8,n10,c9⟩,ys13,F14⟩ ⟨hn11,hP12,hV15⟩
 replace hn11 : n10 = y4.length:=hn11; subst hn11
 refine oY rfl (bd (us:=[]) us_64 rfl) (oY rfl (yMI rfl) (oN (eT (cB ?_))))
 obtain ⟨u19,hl24,h⟩:=bOs h
 refine bc (fun (s:(Bool × Int × (List TLeg) × Int × Int)) L tm => ∃ (tm0:Nat → Value) (A2_0_s:Option Addr) (c2_0_s:Nat),Pv bz wb (fun W4 => Hb W4 ∧ Res.holds F14 W4) (A2_0_s,s.2.2.1.length,c2_0_s) s.2.2.1 ∧ L = [aj b1 24 [vI p0.fL,.slice Ab p0.fT.length cb],aj b2 31 [.slice none 0 0,vI 0,vI 0],aj b3 31 [.slice A2_0_s s.2.2.1.length c2_0_s,vI s.2.2.2.1,vI s.2.2.2.2],aI A8 c9 31 3 y4.length (encL cj ys13),F14] ∧ tm = (upd (upd (upd (upd (upd (upd (upd (upd tm0 4 (vI p4)) 10 (.pointer (some ⟨b2,0,none⟩))) 11 (.bool false)) 12 (.pointer (some ⟨b3,0,none⟩))) 13 (.bool s.1)) 20 (.slice A8 y4.length c9)) 21 (vI (y4.length:Int))) 22 (vI s.2.1))) 0 hl24 ⟨_,none,0,(Pv.mono (Hb:=Hb) (Pv.nil rfl) (fun _ _ h => h.1)),rfl,(kp4 (kp4 rfl))⟩ ?_ ?_
 ·rintro s18 L tm st ⟨tm0_s18,A2_0_s18,c2_0_s18,hR2_0_s18,rfl,rfl⟩ h
  unfold l9 at h
  refine cS (cR (oY rfl (bm rfl rfl) (oN (eT (cS ?_)))))
  rcases iOs h with ⟨hp20,h⟩ | ⟨hp20,h⟩
  ·refine cT (vB hp20) (cK (eT (cS (cB (cS (cR ?_))))))
   obtain ⟨hg21,h⟩:=gOs h
   refine oY rfl (yI sl_64 (by decide) hg21.1 hg21.2 (RdL.row 3 rfl) (eL be (NestP.hn hP12 rfl)) rfl rfl) ?_
   refine oY rfl (yM (A:=A8) (j:=(Int.toNat s18.2.1 * 3)) [.slice ((rdL ys13 s18.2.1).1.1) ((rdL y4 s18.2.1).fLegs.length) ((rdL ys13 s18.2.1).1.2.2),vI ((rdL y4 s18.2.1).fA),vI ((rdL y4 s18.2.1).fToll)] nM (Nat.succ_pos _) (RdL.row 3 rfl) rfl (ja (lA (NestP.snd hP12 s18.2.1) (NestP.len hP12 hg21.1 (av hg21.2 rfl))).symm (aU be hg21.1 (av hg21.2 (NestP.hn hP12 rfl))))) ?_
   refine aB kq rfl (fun b22 => ?_)
   try dsimp only [lna,lca,lsz,lss]
   refine bT rfl (yS 5 [.slice ((rdL ys13 s18.2.1).1.1) ((rdL y4 s18.2.1).fLegs.length) ((rdL ys13 s18.2.1).1.2.2),vI ((rdL y4 s18.2.1).fA),vI ((rdL y4 s18.2.1).fToll)] lY rfl (nB rfl) rfl rfl rfl) (oN (eT (cS (cR (oY rfl (yFA qf rfl) (oY rfl (yL 5 aV rfl rfl rfl) (oY rfl (yMI rfl) (oY rfl (jX rfl rfl) (oN (eT ?_))))))))))
   rcases iOs h with ⟨hp23,h⟩ | ⟨hp23,h⟩
   ·refine cT (vB hp23) (cR (oY rfl (yN 5 [.slice ((rdL ys13 s18.2.1).1.1) ((rdL y4 s18.2.1).fLegs.length) ((rdL ys13 s18.2.1).1.2.2),vI ((rdL y4 s18.2.1).fA),vI ((rdL y4 s18.2.1).fToll)] nM rfl rfl rfl) (bT rfl (yS 2 [.slice ((rdL ys13 s18.2.1).1.1) ((rdL y4 s18.2.1).fLegs.length) ((rdL ys13 s18.2.1).1.2.2),vI ((rdL y4 s18.2.1).fA),vI ((rdL y4 s18.2.1).fToll)] lY rfl (nB rfl) rfl rfl rfl) (oY rfl (yAB rfl) (oN (aw (eT (cR (oY rfl (aX rfl rfl) (oY rfl (yMI rfl) (oN (aQ 5 ?_))))))))))))
    obtain rfl:=sI h
    exact eN ⟨_,(rdL ys13 s18.2.1).1.1,(rdL ys13 s18.2.1).1.2.2,(PvL.get hV15 hP12 hg21.1 (av hg21.2 rfl)),rfl,(kp4 (kp4 rfl))⟩
   ·refine cF (vB hp23) (cK (aw (eT (cR (oY rfl (aX rfl rfl) (oY rfl (yMI rfl) (oN (aQ 5 ?_))))))))
    obtain rfl:=sI h
    exact eN ⟨_,A2_0_s18,c2_0_s18,hR2_0_s18,rfl,(kp4 (kp4 rfl))⟩
  ·refine cF (vB hp20) (aH (ah ?_))
   obtain rfl:=sI h
   exact ax ⟨rfl,_,A2_0_s18,c2_0_s18,hR2_0_s18,rfl,(kp4 (kp4 rfl))⟩
 ·intro e L tm hJ
  obtain ⟨rfl,tm0_u19,A2_0_u19,c2_0_u19,hR2_0_u19,rfl,rfl⟩:=hJ
  refine ⟨(by intro hc; cases hc),?_⟩
  refine ac (eT (cS (cR (oY rfl (yN 2 [.slice A2_0_u19 u19.2.2.1.length c2_0_u19,vI u19.2.2.2.1,vI u19.2.2.2.2] nM rfl rfl rfl) (oY rfl (yMB rfl) (bT rfl (yS 1 [.slice A2_0_u19 u19.2.2.1.length c2_0_u19,vI u19.2.2.2.1,vI u19.2.2.2.2] lY rfl (nB rfl) rfl rfl rfl) (oY rfl (yAB rfl) (oN (eT (al ?_))))))))))
  obtain rfl:=sI h
  exact bp (.inl rfl) rfl (bf 1 [.slice A2_0_u19 u19.2.2.1.length c2_0_u19,vI u19.2.2.2.1,vI u19.2.2.2.2] nM rfl rfl rfl) (rVt (v:=.bool u19.1) rfl) (fun W2 hW2 => ⟨((A2_0_u19,u19.2.2.1.length,c2_0_u19),F14),⟨rfl,hR2_0_u19⟩,rfl,hW2.pickL [4] (by decide) rfl⟩)
theorem mh (p0:TR) (p1:Int) (p2:Int) (p3:Int) (p4:Int) (res:(TJ × Int)) (h:lI p0 p1 p2 p3 p4 = some res) (W:World) (Ab:Option Addr) (n0_1 cb : Nat) (ys0_1:List (Hd × TT)) (hn0_1:n0_1 = p0.fT.length) (hr0_1:Rd W Ab n0_1 cb (encL TTrack_cells2 ys0_1)) (hN0_1:NestW W (fun z : TT => z.fK) TSpan_cells ys0_1 p0.fT) (wb:World) (Hb:World → Prop) (hB:∀ W3,Below W.heap.size W W3 → Below wb.heap.size wb W3 ∧ Hb W3) :
  Calls Tryz.prog 7 [.agg #[vI p0.fL,.slice Ab n0_1 cb],vI p1,vI p2,vI p3,vI p4].toArray W fun e W2 => ∃ x : (Hd × Res),(x.1.2.1 = res.1.fLegs.length ∧ Pv bz wb (fun W4 => Hb W4 ∧ Res.holds x.2 W4) x.1 res.1.fLegs) ∧ e = .returned (.tuple #[.agg #[.slice x.1.1 x.1.2.1 x.1.2.2,vI res.1.fA,vI res.1.fToll],vI res.2]) ∧ Ext W W2 [x.2]:=by
 subst hn0_1
 unfold lI at h
 refine ad (m:=38) Tryz.func7 rfl rfl (nB rfl) (cS (cR ?_))
 refine aO [vI p0.fL,.slice Ab p0.fT.length cb] rfl rfl rfl (fun b1 => ?_)
 refine aB kq rfl (fun b2 => ?_)
 refine oY rfl (yAI rfl) (oN (eT (cS (cS (cR (oY rfl (yN 0 [vI p0.fL,.slice Ab p0.fT.length cb] dl rfl rfl rfl) (oY rfl (yMI rfl) (oY rfl (yMI rfl) (oY rfl (yMI rfl) (oY rfl (yMI rfl) ?_))))))))))
 obtain ⟨y3,hy4,h⟩:=bOs h
 refine oY rfl (yC [.agg #[vI p0.fL,.slice Ab p0.fT.length cb],vI p1,vI p2,vI p3,vI p4] go_29 rfl (fun W2 hW2 => gF p0 p1 p2 p3 p4 y3 hy4 W2 Ab p0.fT.length cb ys0_1 rfl ((RdL.arg hr0_1) W2 hW2) (NestL.at (NestL.arg hN0_1) W2 hW2)) rfl) (oY rfl (yAI rfl) (oN (eT (cS (cR (oY rfl (yMI rfl) (oY rfl (db rfl rfl) (oN (eT ?_)))))))))
 rcases iOs h with ⟨hp5,h⟩ | ⟨hp5,h⟩
 ·refine cT (vB hp5) (cS (cR ?_))
  refine oY rfl (aL [.slice none 0 0,vI 0,vI 0] [(0,1),(1,1),(2,1)] rR kq (by kernel_rfl)) ?_
  refine oY rfl (yMI rfl) (bT rfl (yS 1 [.slice none 0 0,vI 0,vI 0] lY rfl (nB rfl) rfl rfl rfl) (oY rfl (yAI rfl) (oN (eT (al (aa ?_))))))
  obtain rfl:=sI h
  exact bp (.inl rfl) rfl (bf 1 [.slice none 0 0,vI 0,vI 0] nM rfl rfl rfl) (rVt (v:=vI y3) rfl) (fun W2 hW2 => ⟨((none,0,0),noR),⟨rfl,(Pv.mono (Hb:=Hb) (Pv.nil rfl) (fun _ _ h => h.1))⟩,rfl,hW2.addNo.pickL [2] (by decide) rfl⟩)
 ·refine cF (vB hp5) (cK (eT (cS (cR (oY rfl (yN 0 [vI p0.fL,.slice Ab p0.fT.length cb] dl rfl rfl rfl) (oY rfl (yMI rfl) (oY rfl (yMI rfl) (oY rfl (yMI rfl) (oY rfl (yMI rfl) ?_)))))))))
  obtain ⟨y6,hy7,h⟩:=bOs h
  refine oC [.agg #[vI p0.fL,.slice Ab p0.fT.length cb],vI p1,vI p2,vI p3,vI p4] _ _ _ rfl go_30 rfl (fun W2 hW2 => jF p0 p1 p2 p3 p4 y6 hy7 W2 Ab p0.fT.length cb ys0_1 rfl ((RdL.arg hr0_1) W2 hW2) (NestL.at (NestL.arg hN0_1) W2 hW2) wb Hb (fun W3 hb => hB W3 (gm hW2.below hb)) ) ?_
  rintro ⟨⟨A10,n12,c11⟩,F14⟩ ⟨hn13,hV15⟩
  replace hn13 : n12 = y6.1.fLegs.length:=hn13; subst hn13
  refine oY rfl (aR rfl) (oY rfl (yE rfl rfl) (oY rfl (yE rfl rfl) ?_))
  refine aB kq rfl (fun b16 => ?_)
  refine bT rfl (yS 3 [.slice A10 y6.1.fLegs.length c11,vI y6.1.fA,vI y6.1.fToll] lY rfl (nB rfl) rfl rfl rfl) (oY rfl (yAB rfl) (oN (eT (cS (cS (cR (oY rfl (yMB rfl) (oY rfl (bM rfl) (oN (eT ?_))))))))))
  rcases iOs h with ⟨hp17,h⟩ | ⟨hp17,h⟩
  ·refine cT (vB hp17) (cS (cR ?_))
   refine oY rfl (aL [.slice none 0 0,vI 0,vI 0] [(0,1),(1,1),(2,1)] rR kq (by kernel_rfl)) ?_
   refine bT rfl (yS 1 [.slice none 0 0,vI 0,vI 0] lY rfl (nB rfl) rfl rfl rfl) (oY rfl (yAI rfl) (oN (eT (al (aa ?_)))))
   obtain rfl:=sI h
   exact bp (.inl rfl) rfl (bf 1 [.slice none 0 0,vI 0,vI 0] nM rfl rfl rfl) (rVt (v:=vI 5) rfl) (fun W2 hW2 => ⟨((none,0,0),noR),⟨rfl,(Pv.mono (Hb:=Hb) (Pv.nil rfl) (fun _ _ h => h.1))⟩,rfl,hW2.addNo.pickL [4] (by decide) rfl⟩)
  ·refine cF (vB hp17) (cK (eT (cS (cR (oY rfl (yN 3 [.slice A10 y6.1.fLegs.length c11,vI y6.1.fA,vI y6.1.fToll] nM rfl rfl rfl) (bT rfl (yS 1 [.slice A10 y6.1.fLegs.length c11,vI y6.1.fA,vI y6.1.fToll] lY rfl (nB rfl) rfl rfl rfl) (oY rfl (yAI rfl) (oN (eT (al ?_))))))))))
   obtain rfl:=sI h
   exact bp (.inl rfl) rfl (bf 1 [.slice A10 y6.1.fLegs.length c11,vI y6.1.fA,vI y6.1.fToll] nM rfl rfl rfl) (rVt (v:=vI 0) rfl) (fun W2 hW2 => ⟨((A10,y6.1.fLegs.length,c11),F14),⟨rfl,hV15⟩,rfl,hW2.pickL [2] (by decide) rfl⟩)
theorem d5 (p0:(List TT)) (res:(List TT)) (h:bj p0 = some res) (W:World) (Aa:Option Addr) (n0_0 ca : Nat) (ys0_0:List (Hd × TT)) (hn0_0:n0_0 = p0.length) (hr0_0:Rd W Aa n0_0 ca (encL TTrack_cells2 ys0_0)) (hN0_0:NestW W (fun z : TT => z.fK) TSpan_cells ys0_0 p0) :
  Calls Tryz.prog 33 [.slice Aa n0_0 ca].toArray W fun e W2 => ∃ x : (Option Addr × Nat × Nat),(x.2.1 = res.length ∧ NestP (fun z : TT => z.fK) ys0_0 res) ∧ e = .returned (.slice x.1 x.2.1 x.2.2) ∧ Ext W W2 [aI x.1 x.2.2 39 6 x.2.1 (encL TTrack_cells2 ys0_0)]:=by
 subst hn0_0
 unfold bj at h
 refine ad (m:=8) Tryz.func33 rfl rfl (nB rfl) (cS (cR (oY rfl (yAS rfl) (oN (eT (cS (cS (cR (oY rfl (yMS rfl) (oY rfl (nb fq rfl rfl) (oN (eT ?_))))))))))))
 rcases aq (Option.isNone Aa) with hp1 | hp1
 ·refine cT (vB hp1) ?_
  have z6:=ng (Option.isNone_iff_eq_none.1 hp1 ▸ hr0_0) ak (by decide)
  replace h:=(gOs h).2
  subst z6
  have z2 : p0 = []:=hN0_0.p.eq.symm
  subst z2
  refine cS (cR (oY rfl (yAS rfl) (oN (eT (al (aa ?_))))))
  obtain rfl:=sI h
  exact ap (.inl rfl) rfl (rVt (v:=.slice none 0 0) rfl) (fun W2 hW2 => ⟨(none,0,0),⟨rfl,NestP.nil⟩,rfl,(hW2.nilrow 39 6).pickL [0] (by decide) rfl⟩)
 ·refine cF (vB hp1) (cK (eT (cS (cR ?_))))
  refine dL TTrack_cells2 fq iK pR rfl (fun b2 => ?_)
  refine oY rfl (yMS rfl) ?_
  obtain ⟨hg5,h⟩:=gOs h
  refine bn 0 fq iK pR rfl rfl rfl (RdL.arg hr0_0) (eL ak (NestP.hn hN0_0.p rfl)) (bO en _) (bW hg5 (by decide)) rfl (fun A3 c4 => ?_)
  refine oY rfl (yAS rfl) (oN (eT (al ?_)))
  obtain rfl:=sI h
  exact ap (.inl rfl) rfl (rVt (v:=.slice A3 (0 + p0.length) c4) rfl) (fun W2 hW2 => ⟨(A3,(0 + p0.length),c4),⟨(dT rfl rfl),(NestP.app NestP.nil hN0_0.p)⟩,rfl,hW2.pickL [0] (by decide) rfl⟩)
theorem dZ {p : List TT} {res : List TT} {ys : List (Hd × TT)} {sel : TT → List TSpan} (h:bj p = some res) (hN:NestP sel ys p) : NestP sel ys res:=by
 unfold bj at h
 have h2:=Option.some.inj (gOs h).2
 rw [lna] at h2
 exact h2 ▸ hN
theorem gH (p0:(List TT)) (p1:Int) (p2:Int) (res:(List TT)) (h:c8 p0 p1 p2 = some res) (W:World) (w0:World) (R:Res) (Aa:Option Addr) (n0_0 ca : Nat) (ys0_0:List (Hd × TT)) (hn0_0:n0_0 = p0.length) (hP0_0:NestP (fun z : TT => z.fK) ys0_0 p0) (hv0_0:PvL (fun z : TT => z.fK) TSpan_cells w0 (fun W4 => Res.holds R W4) ys0_0) (hW:Ext w0 W [R,aI Aa ca 39 6 n0_0 (encL TTrack_cells2 ys0_0)]) :
  Calls Tryz.prog 36 [.slice Aa n0_0 ca,vI p1,vI p2].toArray W fun e W2 => ∃ x : Nat × List (Hd × TT),(x.1 = res.length ∧ NestP (fun z : TT => z.fK) x.2 res ∧ ∀ y ∈ x.2,y ∈ ys0_0) ∧ e = .returned (.slice Aa x.1 ca) ∧ Ext w0 W2 [R,aI Aa ca 39 6 x.1 (encL TTrack_cells2 x.2)]:=by
 subst hn0_0
 unfold c8 at h
 refine aM (m:=33) Tryz.func36 rfl rfl (nB rfl) hW (cS (cR (oY rfl (yAS rfl) (oN (eT (cS (cR (oY rfl (yMS rfl) (oY rfl (yMI rfl) (oY rfl (yMI rfl) (oY rfl (yMS rfl) (oY rfl (bd (us:=[]) fq rfl) ?_))))))))))))
 obtain ⟨hg1,h⟩:=gOs h
 refine oY rfl (y_cut3 im hg1.1 hg1.2.1 hg1.2.2.1 hg1.2.2.2 (RdL.row 1 rfl) rfl rfl rfl rfl) (oN (eT (cS (cS (cR (oY rfl (yMI rfl) (oY rfl (yMI rfl) (oY rfl (dA rfl rfl) (oN (eT ?_))))))))))
 rcases iOs h with ⟨hp2,h⟩ | ⟨hp2,h⟩
 ·refine cT (vB hp2) (cS (cR (oY rfl (yMS rfl) (oY rfl (yAS rfl) (oN (eT (al (aa ?_))))))))
  obtain rfl:=sI h
  exact ap (.inl rfl) rfl (rVt (v:=.slice Aa p0.length ca) rfl) (fun W2 hW2 => ⟨(p0.length,ys0_0),⟨rfl,hP0_0,(fun y hy => hy)⟩,rfl,hW2.take 2⟩)
 ·refine cF (vB hp2) (cK (eT (cS (cR (oY rfl (yMS rfl) (oY rfl (bd (us:=[]) fq rfl) (oY rfl (yAI rfl) (oN (eT (cS ?_))))))))))
  refine ba 6 cm (by kernel_rfl) (by kernel_rfl) ?_
  refine qY rfl (yMS rfl) (qY rfl (yMI rfl) ?_)
  obtain ⟨hg3,h⟩:=gOs h
  refine qY rfl (sE im hg3.1 hg3.2 (RdL.row 1 rfl) rfl rfl) (qY rfl (yMS rfl) (qY rfl (yMI rfl) ?_))
  obtain ⟨hg4,h⟩:=gOs h
  refine qY rfl (rI im hg4.1 hg4.2 (RdL.row 1 rfl) rfl rfl) (bX ?_)
  obtain ⟨hg5,h⟩:=gOs h
  refine mj 1 ak en fq iK pR rfl (NestP.hn hP0_0 rfl) hg3.1 hg5 hg4.2 rfl rfl rfl (oY rfl (yAS rfl) (oN (eT (cS (cR (oY rfl (yMS rfl) (oY rfl (yMS rfl) (oY rfl (bd (us:=[]) fq rfl) (oY rfl (yMI rfl) ?_)))))))))
  refine oY rfl (y_cutO im (by omega) (by have h8:=(lh hg3.1 hg5 hg4.2); omega) (by have h9:=(dt (hW.mem (i:=1) rfl)).cap; omega) rfl rfl rfl) ?_
  refine bT rfl (qP 1 fq iK rfl (by decide) rfl rfl (by have h8:=(lh hg3.1 hg5 hg4.2); have h9:=(dt (hW.mem (i:=1) rfl)).cap; simp only [Int.toNat_natCast]; omega) rfl) ?_
  refine oN (eT (cS (cR (oY rfl (yMS rfl) (oY rfl (yAS rfl) (oN (eT (al ?_))))))))
  obtain rfl:=sI h
  exact ap (.inl rfl) rfl (rVt (v:=.slice Aa (Int.toNat p1 + (p0.length - Int.toNat p2)) ca) rfl) (fun W2 hW2 => ⟨((Int.toNat p1 + (p0.length - Int.toNat p2)),(ys0_0.take (Int.toNat p1) ++ ys0_0.drop (Int.toNat p2))),⟨(ow hg3.1 hg5 hg4.2 rfl),(NestP.app (NestP.take _ hP0_0) (NestP.drop _ hP0_0)),(fun y hy => (fun y hy => hy) y (rc y hy))⟩,rfl,hW2.take 2⟩)
theorem eR (p0:Int) (res:Bool) (h:dG p0 = some res) (W:World)  :
  Calls Tryz.prog 117 [vI p0].toArray W fun e W2 => e = .returned (.bool res) ∧ Ext W W2 []:=by
 unfold dG at h
 refine ad (m:=6) Tryz.func117 rfl rfl (nB rfl) (cS (cR (oY rfl (yAB rfl) (oN (eT (cS (cR (oY rfl (yMI rfl) (oY rfl (yMI rfl) (oY rfl (db rfl rfl) (oY rfl (yAB rfl) (oN (eT (al ?_))))))))))))))
 obtain rfl:=sI h
 exact ap (.inl rfl) rfl (rVt (v:=.bool (p0 != p0)) rfl) (fun W2 hW2 => ⟨rfl,hW2.none⟩)
theorem nt (p0:Int) (p1:Int) (res:Bool) (h:gt p0 p1 = some res) (W:World)  :
  Calls Tryz.prog 107 [vI p0,vI p1].toArray W fun e W2 => e = .returned (.bool res) ∧ Ext W W2 []:=by
 unfold gt at h
 refine ad (m:=17) Tryz.func107 rfl rfl (nB rfl) (cS (cR (oY rfl (yAB rfl) (oN (eT (cS (cR (oY rfl (yMI rfl) ?_))))))))
 obtain ⟨y1,hy2,h⟩:=bOs h
 refine oY rfl (yC [vI p0] qH rfl (fun W2 hW2 => eR p0 y1 hy2 W2 ) rfl) (oY rfl (yMB rfl) ?_)
 obtain ⟨b4,hb5,h⟩:=bOs h
 refine oJ 4 (fun tm0 => (upd (upd (upd (upd tm0 0 (vI p0)) 1 (vI p1)) 4 (.bool false)) 11 (.bool b4))) (fun tm0 => ?_) (fun key => ?_)
 ·refine oY rfl (yMB rfl) ?_
  refine oJ 4 (fun tm0 => (upd (upd tm0 4 (.bool false)) 16 (.bool (b4 || (decide (p0 < p1)))))) (fun tm0 => ?_) (fun key => ?_)
  ·refine oY rfl (yAB rfl) (oN (eT (al ?_)))
   obtain rfl:=sI h
   exact ap (.inl rfl) rfl (rVt (v:=.bool (b4 || (decide (p0 < p1)))) rfl) (fun W2 hW2 => ⟨rfl,hW2.none⟩)
  ·rcases aq b4 with hp6 | hp6
   ·refine oSk (sF rfl rfl rfl rfl hp6) (oSk (sF rfl rfl rfl rfl hp6) (oSk (sF rfl rfl rfl rfl hp6) (oY rfl (ae (vB hp6) rfl) ?_)))
    exact key _ _ (keep (keep rfl rfl) (vB (iI hp6)))
   ·refine oY (sT rfl rfl rfl rfl hp6) (yMI rfl) (oY (sT rfl rfl rfl rfl hp6) (yMI rfl) (oY (sT rfl rfl rfl rfl hp6) (bm rfl rfl) (oY rfl (ag (vB hp6) rfl) ?_)))
    exact key _ _ (keep (keep rfl rfl) (vB (iH hp6)))
 ·clear h; rcases iOs hb5 with ⟨hp3,h⟩ | ⟨hp3,h⟩
  ·refine oY (sT rfl rfl rfl rfl hp3) (yMI rfl) ?_
   obtain ⟨y7,hy8,h⟩:=bOs h
   refine oY (sT rfl rfl rfl rfl hp3) (yC [vI p1] qH rfl (fun W2 hW2 => eR p1 y7 hy8 W2 ) rfl) (oY (sT rfl rfl rfl rfl hp3) (bM rfl) (oY rfl (ae (vB hp3) rfl) ?_))
   obtain rfl:=sI h
   exact key _ _ (kp4 rfl)
  ·refine oSk (sF rfl rfl rfl rfl hp3) (oSk (sF rfl rfl rfl rfl hp3) (oSk (sF rfl rfl rfl rfl hp3) (oY rfl (ag (vB hp3) rfl) ?_)))
   obtain rfl:=sI h
   exact key _ _ (kp4 rfl)
end Go.Proofs.YthndghnkebboaabGreat
